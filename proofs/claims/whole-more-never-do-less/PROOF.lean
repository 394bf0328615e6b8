import PyProof.Rows.All
import Wide.All
import OpenK.AllK
import Wide.FinOn
import HandS.Head0
import HandS.Head1
import HandS.Head2
import HandS.HeadEnd
import HandS.HeadHook1
import HandS.HeadHook2
import HandS.ForMost
import HandS.Exc
import HandS.Flow
import HandS.IsInst
import HandS.Strs
import HandS.SortInts
import HandS.TupAny
import HandS.TupMul
import HandS.Defaults
import HandS.Deep
import KE.KDictKeyed
import KE.KeyNested
import KE.SortData
import HandS.Walk
import HandS.DeepEq
import HandS.Iter
import KE.GoesEnum
import HandS.More
import HandS.SetFor
import KE.KDictDisplayH
import KE.KDictPairs
import HandS.Set
import PySem.Challenge.RW_manyboard_k66_whole_more_never_do_less
set_option Elab.async false
set_option linter.all false
set_option maxRecDepth 100000
set_option Elab.async false
set_option linter.all false
set_option maxRecDepth 100000
set_option maxHeartbeats 4000000
namespace Mb
open PySem PySem.Spec L2
def top (i : Nat) : Stmt := PySem.Challenge.pw_manyboard_k66_whole_more_never_do_less.main.body.getD i (.Pass ⟨0, 0, 0, 0⟩)
def d_is_name : He.DefD := ⟨("is_name", none), "is_name", "is_name", defArgs (top 18), defBody (top 18), defScope (top 18), [], []⟩
def d_asked_names : He.DefD := ⟨("asked_names", none), "asked_names", "asked_names", defArgs (top 19), defBody (top 19), defScope (top 19), [], []⟩
def d_asked_once : He.DefD := ⟨("asked_once", none), "asked_once", "asked_once", defArgs (top 20), defBody (top 20), defScope (top 20), [], []⟩
def d_asked_size : He.DefD := ⟨("asked_size", none), "asked_size", "asked_size", defArgs (top 24), defBody (top 24), defScope (top 24), [], []⟩
def d_Statement_parts : He.DefD := ⟨("Statement", some "parts"), "parts", "Statement.parts", defArgs (inClass (top 25) 1), defBody (inClass (top 25) 1), defScope (inClass (top 25) 1), [], []⟩
def d_Statement_size : He.DefD := ⟨("Statement", some "size"), "size", "Statement.size", defArgs (inClass (top 25) 2), defBody (inClass (top 25) 2), defScope (inClass (top 25) 2), [], []⟩
def d_OnCell_init : He.DefD := ⟨("OnCell", some "__init__"), "__init__", "OnCell.__init__", defArgs (inClass (top 26) 0), defBody (inClass (top 26) 0), defScope (inClass (top 26) 0), [], []⟩
def d_Mark_init : He.DefD := ⟨("Mark", some "__init__"), "__init__", "Mark.__init__", defArgs (inClass (top 29) 0), defBody (inClass (top 29) 0), defScope (inClass (top 29) 0), [], []⟩
def d_If_init : He.DefD := ⟨("If", some "__init__"), "__init__", "If.__init__", defArgs (inClass (top 33) 0), defBody (inClass (top 33) 0), defScope (inClass (top 33) 0), [], []⟩
def d_If_parts : He.DefD := ⟨("If", some "parts"), "parts", "If.parts", defArgs (inClass (top 33) 2), defBody (inClass (top 33) 2), defScope (inClass (top 33) 2), [], []⟩
def d_While_init : He.DefD := ⟨("While", some "__init__"), "__init__", "While.__init__", defArgs (inClass (top 34) 0), defBody (inClass (top 34) 0), defScope (inClass (top 34) 0), [], []⟩
def d_While_parts : He.DefD := ⟨("While", some "parts"), "parts", "While.parts", defArgs (inClass (top 34) 2), defBody (inClass (top 34) 2), defScope (inClass (top 34) 2), [], []⟩
def d_Choose_init : He.DefD := ⟨("Choose", some "__init__"), "__init__", "Choose.__init__", defArgs (inClass (top 35) 0), defBody (inClass (top 35) 0), defScope (inClass (top 35) 0), [], []⟩
def d_Choose_parts : He.DefD := ⟨("Choose", some "parts"), "parts", "Choose.parts", defArgs (inClass (top 35) 2), defBody (inClass (top 35) 2), defScope (inClass (top 35) 2), [], []⟩
def d_Loop_init : He.DefD := ⟨("Loop", some "__init__"), "__init__", "Loop.__init__", defArgs (inClass (top 36) 0), defBody (inClass (top 36) 0), defScope (inClass (top 36) 0), [], []⟩
def d_Loop_parts : He.DefD := ⟨("Loop", some "parts"), "parts", "Loop.parts", defArgs (inClass (top 36) 2), defBody (inClass (top 36) 2), defScope (inClass (top 36) 2), [], []⟩
def d_Program_init : He.DefD := ⟨("Program", some "__init__"), "__init__", "Program.__init__", defArgs (inClass (top 37) 0), defBody (inClass (top 37) 0), defScope (inClass (top 37) 0), [], []⟩
def d_Program_size : He.DefD := ⟨("Program", some "size"), "size", "Program.size", defArgs (inClass (top 37) 1), defBody (inClass (top 37) 1), defScope (inClass (top 37) 1), [], []⟩
def d_Program_deep : He.DefD := ⟨("Program", some "deep"), "deep", "Program.deep", defArgs (inClass (top 37) 2), defBody (inClass (top 37) 2), defScope (inClass (top 37) 2), [], []⟩
def d_looks : He.DefD := ⟨("looks", none), "looks", "looks", defArgs (top 40), defBody (top 40), defScope (top 40), [], []⟩
def d_Machine_init : He.DefD := ⟨("Machine", some "__init__"), "__init__", "Machine.__init__", defArgs (inClass (top 41) 0), defBody (inClass (top 41) 0), defScope (inClass (top 41) 0), [], []⟩
def d_Machine_number_row : He.DefD := ⟨("Machine", some "number_row"), "number_row", "Machine.number_row", defArgs (inClass (top 41) 1), defBody (inClass (top 41) 1), defScope (inClass (top 41) 1), [], []⟩
def d_Machine_lay_row : He.DefD := ⟨("Machine", some "lay_row"), "lay_row", "Machine.lay_row", defArgs (inClass (top 41) 2), defBody (inClass (top 41) 2), defScope (inClass (top 41) 2), [], []⟩
def d_Machine_begin_of : He.DefD := ⟨("Machine", some "begin_of"), "begin_of", "Machine.begin_of", defArgs (inClass (top 41) 3), defBody (inClass (top 41) 3), defScope (inClass (top 41) 3), [], []⟩
def d_Machine_lay : He.DefD := ⟨("Machine", some "lay"), "lay", "Machine.lay", defArgs (inClass (top 41) 4), defBody (inClass (top 41) 4), defScope (inClass (top 41) 4), [], []⟩
def d_Machine_steps_of : He.DefD := ⟨("Machine", some "steps_of"), "steps_of", "Machine.steps_of", defArgs (inClass (top 41) 5), defBody (inClass (top 41) 5), defScope (inClass (top 41) 5), [], []⟩
def d_Machine_asked : He.DefD := ⟨("Machine", some "asked"), "asked", "Machine.asked", defArgs (inClass (top 41) 7), defBody (inClass (top 41) 7), defScope (inClass (top 41) 7), [], []⟩
def d_Machine_steps : He.DefD := ⟨("Machine", some "steps"), "steps", "Machine.steps", defArgs (inClass (top 41) 8), defBody (inClass (top 41) 8), defScope (inClass (top 41) 8), [], []⟩
def d_Machine_mark_of : He.DefD := ⟨("Machine", some "mark_of"), "mark_of", "Machine.mark_of", defArgs (inClass (top 41) 9), defBody (inClass (top 41) 9), defScope (inClass (top 41) 9), [], []⟩
def d_Machine_marks : He.DefD := ⟨("Machine", some "marks"), "marks", "Machine.marks", defArgs (inClass (top 41) 10), defBody (inClass (top 41) 10), defScope (inClass (top 41) 10), [], []⟩
def d_asked_many : He.DefD := ⟨("asked_many", none), "asked_many", "asked_many", defArgs (top 44), defBody (top 44), defScope (top 44), [], []⟩
def d_step_of : He.DefD := ⟨("step_of", none), "step_of", "step_of", defArgs (top 45), defBody (top 45), defScope (top 45), [], []⟩
def d_state_behind : He.DefD := ⟨("state_behind", none), "state_behind", "state_behind", defArgs (top 46), defBody (top 46), defScope (top 46), [], []⟩
def d_Game_init : He.DefD := ⟨("Game", some "__init__"), "__init__", "Game.__init__", defArgs (inClass (top 47) 0), defBody (inClass (top 47) 0), defScope (inClass (top 47) 0), [], []⟩
def d_Game_machine : He.DefD := ⟨("Game", some "machine"), "machine", "Game.machine", defArgs (inClass (top 47) 1), defBody (inClass (top 47) 1), defScope (inClass (top 47) 1), [], []⟩
def d_Game_board : He.DefD := ⟨("Game", some "board"), "board", "Game.board", defArgs (inClass (top 47) 2), defBody (inClass (top 47) 2), defScope (inClass (top 47) 2), [], []⟩
def d_Game_begin : He.DefD := ⟨("Game", some "begin"), "begin", "Game.begin", defArgs (inClass (top 47) 4), defBody (inClass (top 47) 4), defScope (inClass (top 47) 4), [], []⟩
def d_Game_open_steps : He.DefD := ⟨("Game", some "open_steps"), "open_steps", "Game.open_steps", defArgs (inClass (top 47) 5), defBody (inClass (top 47) 5), defScope (inClass (top 47) 5), [], []⟩
def d_Game_moves : He.DefD := ⟨("Game", some "moves"), "moves", "Game.moves", defArgs (inClass (top 47) 6), defBody (inClass (top 47) 6), defScope (inClass (top 47) 6), [], []⟩
def d_Game_moved : He.DefD := ⟨("Game", some "moved"), "moved", "Game.moved", defArgs (inClass (top 47) 7), defBody (inClass (top 47) 7), defScope (inClass (top 47) 7), [], []⟩
def d_Game_played : He.DefD := ⟨("Game", some "played"), "played", "Game.played", defArgs (inClass (top 47) 8), defBody (inClass (top 47) 8), defScope (inClass (top 47) 8), [], []⟩
def d_Question_init : He.DefD := ⟨("Question", some "__init__"), "__init__", "Question.__init__", defArgs (inClass (top 50) 0), defBody (inClass (top 50) 0), defScope (inClass (top 50) 0), [.non, .non, .non], []⟩
def d_asked_of : He.DefD := ⟨("asked_of", none), "asked_of", "asked_of", defArgs (top 51), defBody (top 51), defScope (top 51), [], []⟩
def d_is_led : He.DefD := ⟨("is_led", none), "is_led", "is_led", defArgs (top 52), defBody (top 52), defScope (top 52), [], []⟩
def d_is_held : He.DefD := ⟨("is_held", none), "is_held", "is_held", defArgs (top 53), defBody (top 53), defScope (top 53), [], []⟩
def d_marks_at : He.DefD := ⟨("marks_at", none), "marks_at", "marks_at", defArgs (top 54), defBody (top 54), defScope (top 54), [], []⟩
def d_met : He.DefD := ⟨("met", none), "met", "met", defArgs (top 55), defBody (top 55), defScope (top 55), [], []⟩
def d_in_order : He.DefD := ⟨("in_order", none), "in_order", "in_order", defArgs (top 59), defBody (top 59), defScope (top 59), [], []⟩
def d_Tally_init : He.DefD := ⟨("Tally", some "__init__"), "__init__", "Tally.__init__", defArgs (inClass (top 60) 0), defBody (inClass (top 60) 0), defScope (inClass (top 60) 0), [], []⟩
def d_Tally_go_on : He.DefD := ⟨("Tally", some "go_on"), "go_on", "Tally.go_on", defArgs (inClass (top 60) 1), defBody (inClass (top 60) 1), defScope (inClass (top 60) 1), [], []⟩
def d_standings : He.DefD := ⟨("standings", none), "standings", "standings", defArgs (top 61), defBody (top 61), defScope (top 61), [], []⟩
def d_asked_cells : He.DefD := ⟨("asked_cells", none), "asked_cells", "asked_cells", defArgs (top 66), defBody (top 66), defScope (top 66), [], []⟩
def d_Board_init : He.DefD := ⟨("Board", some "__init__"), "__init__", "Board.__init__", defArgs (inClass (top 67) 0), defBody (inClass (top 67) 0), defScope (inClass (top 67) 0), [], []⟩
def d_Board_values_of : He.DefD := ⟨("Board", some "values_of"), "values_of", "Board.values_of", defArgs (inClass (top 67) 2), defBody (inClass (top 67) 2), defScope (inClass (top 67) 2), [], []⟩
def d_Board_first : He.DefD := ⟨("Board", some "first"), "first", "Board.first", defArgs (inClass (top 67) 3), defBody (inClass (top 67) 3), defScope (inClass (top 67) 3), [], []⟩
def d_Board_asked : He.DefD := ⟨("Board", some "asked"), "asked", "Board.asked", defArgs (inClass (top 67) 4), defBody (inClass (top 67) 4), defScope (inClass (top 67) 4), [], []⟩
def d_Board_others : He.DefD := ⟨("Board", some "others"), "others", "Board.others", defArgs (inClass (top 67) 5), defBody (inClass (top 67) 5), defScope (inClass (top 67) 5), [], []⟩
def d_Board_value_at : He.DefD := ⟨("Board", some "value_at"), "value_at", "Board.value_at", defArgs (inClass (top 67) 7), defBody (inClass (top 67) 7), defScope (inClass (top 67) 7), [], []⟩
def d_Board_behind : He.DefD := ⟨("Board", some "behind"), "behind", "Board.behind", defArgs (inClass (top 67) 8), defBody (inClass (top 67) 8), defScope (inClass (top 67) 8), [], []⟩
def d_law_cell_at : He.DefD := ⟨("_law_cell_at", none), "_law_cell_at", "_law_cell_at", defArgs (top 69), defBody (top 69), defScope (top 69), [], []⟩
def d_law_well : He.DefD := ⟨("_law_well", none), "_law_well", "_law_well", defArgs (top 70), defBody (top 70), defScope (top 70), [], []⟩
def d_law_draw : He.DefD := ⟨("_law_draw", none), "_law_draw", "_law_draw", defArgs (top 71), defBody (top 71), defScope (top 71), [], []⟩
def d_law_of : He.DefD := ⟨("_law_of", none), "_law_of", "_law_of", defArgs (top 72), defBody (top 72), defScope (top 72), [], []⟩
def d_law_word : He.DefD := ⟨("_law_word", none), "_law_word", "_law_word", defArgs (top 73), defBody (top 73), defScope (top 73), [], []⟩
def d_law_plan : He.DefD := ⟨("_law_plan", none), "_law_plan", "_law_plan", defArgs (top 74), defBody (top 74), defScope (top 74), [], []⟩
def d_law_parts : He.DefD := ⟨("_law_parts", none), "_law_parts", "_law_parts", defArgs (top 75), defBody (top 75), defScope (top 75), [], []⟩
def d_law_length : He.DefD := ⟨("_law_length", none), "_law_length", "_law_length", defArgs (top 76), defBody (top 76), defScope (top 76), [], []⟩
def d_law_statement : He.DefD := ⟨("_law_statement", none), "_law_statement", "_law_statement", defArgs (top 77), defBody (top 77), defScope (top 77), [], []⟩
def d_law_row : He.DefD := ⟨("_law_row", none), "_law_row", "_law_row", defArgs (top 78), defBody (top 78), defScope (top 78), [], []⟩
def d_law_built : He.DefD := ⟨("_law_built", none), "_law_built", "_law_built", defArgs (top 79), defBody (top 79), defScope (top 79), [], []⟩
def d_law_made : He.DefD := ⟨("_law_made", none), "_law_made", "_law_made", defArgs (top 80), defBody (top 80), defScope (top 80), [], []⟩
def d_law_exits : He.DefD := ⟨("_law_exits", none), "_law_exits", "_law_exits", defArgs (top 81), defBody (top 81), defScope (top 81), [], []⟩
def d_law_lay : He.DefD := ⟨("_law_lay", none), "_law_lay", "_law_lay", defArgs (top 82), defBody (top 82), defScope (top 82), [], []⟩
def d_law_rooms : He.DefD := ⟨("_law_rooms", none), "_law_rooms", "_law_rooms", defArgs (top 83), defBody (top 83), defScope (top 83), [], []⟩
def d_law_world : He.DefD := ⟨("_law_world", none), "_law_world", "_law_world", defArgs (top 84), defBody (top 84), defScope (top 84), [], []⟩
def d_law_drawn : He.DefD := ⟨("_law_drawn", none), "_law_drawn", "_law_drawn", defArgs (top 85), defBody (top 85), defScope (top 85), [], []⟩
def d_law_own : He.DefD := ⟨("_law_own", none), "_law_own", "_law_own", defArgs (top 86), defBody (top 86), defScope (top 86), [], []⟩
def d_law_behind : He.DefD := ⟨("_law_behind", none), "_law_behind", "_law_behind", defArgs (top 88), defBody (top 88), defScope (top 88), [], []⟩
def d_law_open : He.DefD := ⟨("_law_open", none), "_law_open", "_law_open", defArgs (top 89), defBody (top 89), defScope (top 89), [], []⟩
def d_law_nexts : He.DefD := ⟨("_law_nexts", none), "_law_nexts", "_law_nexts", defArgs (top 90), defBody (top 90), defScope (top 90), [], []⟩
def d_law_marks : He.DefD := ⟨("_law_marks", none), "_law_marks", "_law_marks", defArgs (top 91), defBody (top 91), defScope (top 91), [], []⟩
def d_law_asked : He.DefD := ⟨("_law_asked", none), "_law_asked", "_law_asked", defArgs (top 92), defBody (top 92), defScope (top 92), [], []⟩
def d_law_put_as : He.DefD := ⟨("_law_put_as", none), "_law_put_as", "_law_put_as", defArgs (top 93), defBody (top 93), defScope (top 93), [], []⟩
def d_law_all : He.DefD := ⟨("_law_all", none), "_law_all", "_law_all", defArgs (top 96), defBody (top 96), defScope (top 96), [], []⟩
def d_law_within : He.DefD := ⟨("_law_within", none), "_law_within", "_law_within", defArgs (top 97), defBody (top 97), defScope (top 97), [], []⟩
def d_law_met_count : He.DefD := ⟨("_law_met_count", none), "_law_met_count", "_law_met_count", defArgs (top 98), defBody (top 98), defScope (top 98), [], []⟩
def d_law_idle : He.DefD := ⟨("_law_idle", none), "_law_idle", "_law_idle", defArgs (top 99), defBody (top 99), defScope (top 99), [], []⟩
def d_law : He.DefD := ⟨("law", none), "law", "law", defArgs (top 100), defBody (top 100), defScope (top 100), [], []⟩
def fn : List He.DefD := [d_is_name, d_asked_names, d_asked_once, d_asked_size, d_Statement_parts, d_Statement_size, d_OnCell_init, d_Mark_init, d_If_init, d_If_parts, d_While_init, d_While_parts, d_Choose_init, d_Choose_parts, d_Loop_init, d_Loop_parts, d_Program_init, d_Program_size, d_Program_deep, d_looks, d_Machine_init, d_Machine_number_row, d_Machine_lay_row, d_Machine_begin_of, d_Machine_lay, d_Machine_steps_of, d_Machine_asked, d_Machine_steps, d_Machine_mark_of, d_Machine_marks, d_asked_many, d_step_of, d_state_behind, d_Game_init, d_Game_machine, d_Game_board, d_Game_begin, d_Game_open_steps, d_Game_moves, d_Game_moved, d_Game_played, d_Question_init, d_asked_of, d_is_led, d_is_held, d_marks_at, d_met, d_in_order, d_Tally_init, d_Tally_go_on, d_standings, d_asked_cells, d_Board_init, d_Board_values_of, d_Board_first, d_Board_asked, d_Board_others, d_Board_value_at, d_Board_behind, d_law_cell_at, d_law_well, d_law_draw, d_law_of, d_law_word, d_law_plan, d_law_parts, d_law_length, d_law_statement, d_law_row, d_law_built, d_law_made, d_law_exits, d_law_lay, d_law_rooms, d_law_world, d_law_drawn, d_law_own, d_law_behind, d_law_open, d_law_nexts, d_law_marks, d_law_asked, d_law_put_as, d_law_all, d_law_within, d_law_met_count, d_law_idle, d_law]
def fa : List He.Fa := [.glo "is_name", .glo "asked_names", .glo "asked_once", .glo "asked_size", .glo "Statement", .glo "OnCell", .glo "Write", .glo "Wait", .glo "Mark", .glo "Skip", .glo "Stop", .glo "If", .glo "While", .glo "Choose", .glo "Loop", .glo "Program", .glo "looks", .glo "Machine", .glo "asked_many", .glo "step_of", .glo "state_behind", .glo "Game", .glo "Question", .glo "asked_of", .glo "is_led", .glo "is_held", .glo "marks_at", .glo "met", .glo "in_order", .glo "Tally", .glo "standings", .glo "asked_cells", .glo "Board", .glo "_law_cell_at", .glo "_law_well", .glo "_law_draw", .glo "_law_of", .glo "_law_word", .glo "_law_plan", .glo "_law_parts", .glo "_law_length", .glo "_law_statement", .glo "_law_row", .glo "_law_built", .glo "_law_made", .glo "_law_exits", .glo "_law_lay", .glo "_law_rooms", .glo "_law_world", .glo "_law_drawn", .glo "_law_own", .glo "_law_behind", .glo "_law_open", .glo "_law_nexts", .glo "_law_marks", .glo "_law_asked", .glo "_law_put_as", .glo "_law_all", .glo "_law_within", .glo "_law_met_count", .glo "_law_idle", .glo "law", .glo "Wide", .glo "GO", .free "all", .free "dict", .free "enumerate", .free "int", .free "isinstance", .free "len", .free "list", .free "max", .free "range", .free "set", .free "sorted", .free "str", .free "sum", .free "tuple", .free "zip", .str "LETTERS" "abcdefghijklmnopqrstuvwxyz", .str "FIGURES" "0123456789", .int "LONGEST" 10, .int "MOST_STATEMENTS" 24, .int "MOST_DEEP" 6, .int "MOST_FOLLOWERS" 400, .int "MOST_FOLLOWS" 6, .int "MOST_STANDINGS" 600, .int "MOST_COUNTED" 6, .int "MOST_CELLS" 3, .int "LEAST_VALUES" 2, .int "MOST_VALUES" 4, .cls "Write", .mkr "Write", .noat "Write" "cell", .noat "Write" "value", .meth "Write" "size", .meth "Write" "parts", .cls "Wait", .mkr "Wait", .noat "Wait" "cell", .noat "Wait" "value", .meth "Wait" "size", .meth "Wait" "parts", .cls "Mark", .mkr "Mark", .noat "Mark" "name", .meth "Mark" "size", .meth "Mark" "parts", .cls "If", .mkr "If", .noat "If" "cell", .noat "If" "value", .noat "If" "yes", .noat "If" "no", .meth "If" "size", .meth "If" "parts", .cls "While", .mkr "While", .noat "While" "cell", .noat "While" "value", .noat "While" "body", .meth "While" "size", .meth "While" "parts", .cls "Choose", .mkr "Choose", .noat "Choose" "one", .noat "Choose" "other", .meth "Choose" "size", .meth "Choose" "parts", .cls "Loop", .mkr "Loop", .noat "Loop" "body", .meth "Loop" "size", .meth "Loop" "parts", .cls "Program", .mkr "Program", .noat "Program" "row", .meth "Program" "size", .meth "Program" "deep", .cls "Machine", .mkr "Machine", .noat "Machine" "plan", .noat "Machine" "text", .noat "Machine" "places", .noat "Machine" "exits", .meth "Machine" "number_row", .meth "Machine" "lay_row", .meth "Machine" "begin_of", .meth "Machine" "lay", .meth "Machine" "steps_of", .meth "Machine" "asked", .meth "Machine" "steps", .meth "Machine" "mark_of", .meth "Machine" "marks", .cls "Game", .mkr "Game", .noat "Game" "plan", .noat "Game" "hands", .noat "Game" "texts", .meth "Game" "machine", .meth "Game" "board", .meth "Game" "begin", .meth "Game" "open_steps", .meth "Game" "moves", .meth "Game" "moved", .meth "Game" "played", .cls "Question", .mkr "Question", .noat "Question" "lead", .noat "Question" "follows", .noat "Question" "holds", .cls "Tally", .mkr "Tally", .noat "Tally" "whole", .noat "Tally" "come_from", .noat "Tally" "rows", .meth "Tally" "go_on", .cls "Board", .mkr "Board", .noat "Board" "names", .noat "Board" "rows", .meth "Board" "values_of", .meth "Board" "first", .meth "Board" "asked", .meth "Board" "others", .meth "Board" "value_at", .meth "Board" "behind", .cls "Skip", .meth "Skip" "size", .meth "Skip" "parts", .cls "Stop", .meth "Stop" "size", .meth "Stop" "parts", .cls "OnCell", .meth "OnCell" "__init__"]
/-! ### more facts, by own tests -/
def eqm (x m y : Str) (K : PySem.W.Frag) : Bool := decide (He.ma K (He.ga K x) m = He.ma K (He.ga K y) m)
def kit (x y : Str) (b : Bool) (K : PySem.W.Frag) : Bool := decide (PySem.W.kitOne K (.ref (He.ga K x)) (.ref (He.ga K y)) = some b)
def inst (x : Str) (K : PySem.W.Frag) : Bool := decide (PySem.W.findIn K (.ref (He.ga K x)) "__class__" = some (some (.builtin "object.__class__"))) &&
  (decide (PySem.W.specialIn K (.builtin "object.__class__") "__get__" = some (some (.builtin "getset_descriptor.__get__"))) && (decide (PySem.W.takesIn K (.builtin "object.__class__") = some true) && decide (PySem.W.mroIn K (He.ga K x) (.type "object") = some true)))
def bare (x : Str) (K : PySem.W.Frag) : Bool := PySem.W.makesIn K (He.ga K x) && (He.eqO (PySem.W.findIn K (.ref (He.ga K x)) "__init__") (some (some (.builtin "object.__init__"))) && PySem.W.keepIn K (.ref (He.ga K x)))
def keepc (x : Str) (K : PySem.W.Frag) : Bool := PySem.W.keepIn K (.ref (He.ga K x))
def clsf (x m : Str) (K : PySem.W.Frag) : Bool := PySem.W.readsIn K (He.ga K x) (.type "type") && (decide (PySem.W.specialIn K (.ref (He.ga K x)) "__getattribute__" = some (some (.builtin "type.__getattribute__"))) && ((match PySem.W.findCls K (.ref (He.ga K x)) (.type "type") m with | some (.val v) => decide (v = .ref (He.ma K (He.ga K x) m)) | _ => false) && PySem.W.handedIn (.ref (He.ma K (He.ga K x) m))))
def goT (K : PySem.W.Frag) : Bool := He.tupB K "GO" [.str "go"]
def exs : List (PySem.W.Frag → Bool) := [kit "Write" "Write" true, kit "Write" "Wait" false, kit "Write" "If" false, kit "Write" "While" false, kit "Write" "Loop" false, kit "Write" "Mark" false, kit "Write" "Skip" false, kit "Write" "Stop" false, kit "Wait" "Write" false, kit "Wait" "Wait" true, kit "Wait" "If" false, kit "Wait" "While" false, kit "Wait" "Loop" false, kit "Wait" "Mark" false, kit "Wait" "Skip" false, kit "Wait" "Stop" false, kit "Mark" "Write" false, kit "Mark" "Wait" false, kit "Mark" "If" false, kit "Mark" "While" false, kit "Mark" "Loop" false, kit "Mark" "Mark" true, kit "Mark" "Skip" false, kit "Mark" "Stop" false, kit "Skip" "Write" false, kit "Skip" "Wait" false, kit "Skip" "If" false, kit "Skip" "While" false, kit "Skip" "Loop" false, kit "Skip" "Mark" false, kit "Skip" "Skip" true, kit "Skip" "Stop" false, kit "Stop" "Write" false, kit "Stop" "Wait" false, kit "Stop" "If" false, kit "Stop" "While" false, kit "Stop" "Loop" false, kit "Stop" "Mark" false, kit "Stop" "Skip" false, kit "Stop" "Stop" true, kit "If" "Write" false, kit "If" "Wait" false, kit "If" "If" true, kit "If" "While" false, kit "If" "Loop" false, kit "If" "Mark" false, kit "If" "Skip" false, kit "If" "Stop" false, kit "While" "Write" false, kit "While" "Wait" false, kit "While" "If" false, kit "While" "While" true, kit "While" "Loop" false, kit "While" "Mark" false, kit "While" "Skip" false, kit "While" "Stop" false, kit "Choose" "Write" false, kit "Choose" "Wait" false, kit "Choose" "If" false, kit "Choose" "While" false, kit "Choose" "Loop" false, kit "Choose" "Mark" false, kit "Choose" "Skip" false, kit "Choose" "Stop" false, kit "Loop" "Write" false, kit "Loop" "Wait" false, kit "Loop" "If" false, kit "Loop" "While" false, kit "Loop" "Loop" true, kit "Loop" "Mark" false, kit "Loop" "Skip" false, kit "Loop" "Stop" false, eqm "Write" "size" "Statement", eqm "Wait" "size" "Statement", eqm "Mark" "size" "Statement", eqm "Skip" "size" "Statement", eqm "Stop" "size" "Statement", eqm "If" "size" "Statement", eqm "While" "size" "Statement", eqm "Choose" "size" "Statement", eqm "Loop" "size" "Statement", eqm "Write" "parts" "Statement", eqm "Wait" "parts" "Statement", eqm "Mark" "parts" "Statement", eqm "Skip" "parts" "Statement", eqm "Stop" "parts" "Statement", eqm "Write" "__init__" "OnCell", eqm "Wait" "__init__" "OnCell", inst "Write", inst "Wait", inst "Mark", inst "Skip", inst "Stop", inst "If", inst "While", inst "Choose", inst "Loop", bare "Skip", bare "Stop", keepc "Write", keepc "Wait", keepc "Mark", keepc "Skip", keepc "Stop", keepc "If", keepc "While", keepc "Choose", keepc "Loop", goT, clsf "OnCell" "__init__"]
end Mb
set_option maxHeartbeats 0
namespace Mb
open PySem PySem.Spec PyProof.Rows L2
def asx : List Addr := [3, 2, 396, 395, 417, 416, 436, 435, 455, 454, 481, 480, 500, 499, 519, 518, 566, 565, 606, 605, 646, 645, 686, 685, 736, 735, 831, 830, 934, 933, 961, 960, 1039, 1038, 1129, 1128, 741, 332, 331, 339, 338, 346, 345, 353, 352, 374, 373, 379, 378, 414, 413, 471, 470, 542, 541, 556, 555, 582, 581, 596, 595, 622, 621, 636, 635, 662, 661, 676, 675, 702, 701, 707, 706, 712, 711, 748, 747, 760, 759, 767, 766, 774, 773, 781, 780, 788, 787, 793, 792, 807, 806, 814, 813, 821, 820, 828, 827, 842, 841, 849, 848, 856, 855, 870, 869, 877, 876, 884, 883, 898, 897, 905, 904, 910, 909, 917, 916, 924, 923, 951, 950, 946, 972, 971, 979, 978, 984, 983, 989, 988, 994, 993, 1001, 1000, 1015, 1014, 1022, 1021, 1050, 1049, 1055, 1054, 1067, 1066, 1081, 1080, 1086, 1085, 1093, 1092, 1098, 1097, 1112, 1111, 1119, 1118, 1140, 1139, 1147, 1146, 1154, 1153, 1161, 1160, 1166, 1165, 1171, 1170, 1178, 1177, 1183, 1182, 1190, 1189, 1197, 1196, 1202, 1201, 1207, 1206, 1212, 1211, 1219, 1218, 1224, 1223, 1229, 1228, 1236, 1235, 1241, 1240, 1251, 1250, 1258, 1257, 1263, 1262, 1268, 1267, 1275, 1274, 1282, 1281, 1299, 1298, 1304, 1303, 1309, 1308, 1316, 1315, 1321, 1320]
abbrev Al : Type := Bool × He.AlD
def obsK (K : PySem.W.Frag) : Al := (exs.all (fun f => f K), He.obsD fa fn K)
abbrev R : PySem.W.OpenRow := PySem.W.OpenLaw.row PySem.Challenge.rw_manyboard_k66_whole_more_never_do_less
open HandSHeadRun in
theorem run_facts (w : World) (os : PySem.OsState) : (endF (stepQ (denQ tabQ) R.prog w) 12000 R.prog w os).map (fun s => obsK (He.frG (getT s) asx)) = some (true, He.valD fn) := by
  kernel_rfl
end Mb
set_option maxHeartbeats 0
namespace Mb
open PySem PySem.Spec PyProof.Rows L2
def loose0 : List Str := ["_wall", "BoardError", "BadCount", "NoName", "Twice", "NoCell", "NoValue", "NoRoom", "NoHand", "NoStep", "Shut", "NoMark", "Wide", "LETTERS", "FIGURES", "LONGEST", "is_name", "asked_names", "asked_once", "MOST_STATEMENTS"]
def loose1 : List Str := ["MOST_DEEP", "asked_size", "Statement", "OnCell", "Write", "Wait", "Mark", "Skip", "Stop", "in_braces", "If", "While", "Choose", "Loop", "Program", "GO", "looks", "Machine", "MOST_FOLLOWERS", "asked_many"]
def loose2 : List Str := ["step_of", "state_behind", "Game", "MOST_FOLLOWS", "Question", "asked_of", "is_led", "is_held", "marks_at", "met", "MOST_STANDINGS", "MOST_COUNTED", "in_order", "Tally", "standings", "MOST_CELLS", "LEAST_VALUES", "MOST_VALUES", "asked_cells", "Board"]
def loose3 : List Str := ["_law_cell_at", "_law_well", "_law_draw", "_law_of", "_law_word", "_law_plan", "_law_parts", "_law_length", "_law_statement", "_law_row", "_law_built", "_law_made", "_law_exits", "_law_lay", "_law_rooms", "_law_world", "_law_drawn", "_law_own", "_law_first", "_law_behind"]
def loose4 : List Str := ["_law_open", "_law_nexts", "_law_marks", "_law_asked", "_law_put_as", "_law_held", "_law_meets", "_law_all", "_law_within", "_law_met_count", "_law_idle"]
def loose : List Str := loose0 ++ (loose1 ++ (loose2 ++ (loose3 ++ (loose4))))
abbrev qv : Program := PySem.W.view R.prog [100]
open HandSHeadRun PySem.W in
theorem run_looks (w : World) (os : PySem.OsState) : (endF (stepQ (denQ tabQ) R.prog w) 12000 R.prog w os).map (fun s => (looksF R.prog (boot_heap w.params) s.abs, seenQ qv loose (importedModules R.prog.main.body) (fun s => xlAt qv [] s && recOk R.toRowW.records s) s.abs)) = some (true, openGood qv loose) := by
  kernel_rfl
end Mb
set_option maxHeartbeats 4000000
/-! Mb: data D, what stands at a value (Rp), the abstract store Mu, wishes over data (W, WS). -/
namespace Mb
open PySem PySem.Spec L2
/-- data as the program sees it; ptr: an object that is still being changed -/
inductive D where
  | non | bl (b : Bool) | int (i : Int) | str (x : Str)
  | tup (ds : List D) | lst (ds : List D) | frl (ds : List D) | tupx (ds : List D)
  | dic (ks : List Key) (ds : List D)
  | obj (C : Addr) (ns : List Str) (ds : List D)
  | ptr (a : Addr)
/-- what is being changed -/
inductive MC where
  | lst (ds : List D) | dic (ks : List Key) (ds : List D) | ins (C : Addr) (ns : List Str) (ds : List D) | nst (ks ds : List D)
abbrev Mu := Addr → Option MC
abbrev Ro := List (Option D)
def up (μ : Mu) (a : Addr) (c : MC) : Mu := fun b => if b = a then some c else μ b
def dl (μ : Mu) (a : Addr) : Mu := fun b => if b = a then none else μ b
theorem up_same {μ : Mu} {a : Addr} {c : MC} : up μ a c a = some c := if_pos rfl
theorem up_ne {μ : Mu} {a b : Addr} {c : MC} (h : b ≠ a) : up μ a c b = μ b := if_neg h
theorem up_up {μ : Mu} {a : Addr} {c d : MC} : up (up μ a c) a d = up μ a d := by
  funext b
  by_cases e : b = a <;> simp [up, e]
theorem up_comm {μ : Mu} {a b : Addr} {c d : MC} (h : a ≠ b) : up (up μ a c) b d = up (up μ b d) a c := by
  funext x
  by_cases e : x = a
  · subst e; simp [up, h]
  · simp [up, e]
theorem up_id {μ : Mu} {a : Addr} {c : MC} (h : μ a = some c) : up μ a c = μ := by
  funext b
  by_cases e : b = a
  · subst e; simp [up, h]
  · simp [up, e]
theorem dl_same {μ : Mu} {a : Addr} : dl μ a a = none := if_pos rfl
theorem dl_ne {μ : Mu} {a b : Addr} (h : b ≠ a) : dl μ a b = μ b := if_neg h
theorem dl_up {μ : Mu} {a : Addr} {c : MC} (h : μ a = none) : dl (up μ a c) a = μ := by
  funext b
  by_cases e : b = a
  · subst e; simp [dl, h]
  · simp [up, dl, e]
theorem dl_up_ne {μ : Mu} {a b : Addr} {c : MC} (h : a ≠ b) : dl (up μ a c) b = up (dl μ b) a c := by
  funext x
  by_cases e : x = a
  · subst e; simp [up, dl, h]
  · simp [up, dl, e]
theorem mu_ne {μ : Mu} {a b : Addr} {c : MC} (h : μ a = some c) (h' : μ b = none) : a ≠ b := by
  intro e; subst e; rw [h] at h'; cases h'
/-- the fixed things of a run -/
structure Gb where
  P : Program
  w : World
  K : PySem.W.Frag
  mg : Str → Option Value
  base : Heap
/-! ### what stands at a value -/
def TupAt (K : PySem.W.Frag) (μ : Mu) (H : Hp) (a : Addr) (xs : List V) : Prop :=
  (Rd H a (.tup xs) ∧ μ a = none) ∨
    ∃ (o : Obj) (its : Array Value) (n : Nat), K.lookup a = some o ∧ o.cls = .type "tuple" ∧ o.data = .seq its n ∧ its.size ≤ sizeLine ∧ Vals xs its.toList
theorem TupAt.sq {K : PySem.W.Frag} {μ : Mu} {H : Hp} {a : Addr} {xs : List V} (h : TupAt K μ H a xs) : SqT K H a xs := by
  rcases h with ⟨h, _⟩ | h
  · exact .inl h
  · exact .inr h
/-- a list that stands still: the script -/
def LstAt (K : PySem.W.Frag) (μ : Mu) (H : Hp) (a : Addr) (xs : List V) : Prop :=
  (Rd H a (.lst xs) ∧ μ a = none) ∨
    ∃ (o : Obj) (its : Array Value) (n : Nat), K.lookup a = some o ∧ o.cls = .type "list" ∧ o.dict = none ∧ o.data = .seq its n ∧ its.size ≤ sizeLine ∧ Vals xs its.toList
theorem LstAt.sq {K : PySem.W.Frag} {μ : Mu} {H : Hp} {a : Addr} {xs : List V} (h : LstAt K μ H a xs) : SqL K H a xs := by
  rcases h with ⟨h, _⟩ | h
  · exact .inl h
  · exact .inr h
mutual
def Rp (K : PySem.W.Frag) (μ : Mu) (H : Hp) : D → V → Prop
  | .non, v => v = .non
  | .bl b, v => v = .bl b
  | .int i, v => v = .int i
  | .str x, v => v = .str x
  | .tup ds, v => ∃ a xs, v = .ref a ∧ TupAt K μ H a xs ∧ Rps K μ H ds xs
  | .lst ds, v => ∃ a xs, v = .ref a ∧ H a = some (.lst xs) ∧ μ a = none ∧ Rps K μ H ds xs
  | .frl ds, v => ∃ a xs, v = .ref a ∧ LstAt K μ H a xs ∧ Rps K μ H ds xs
  | .tupx ds, v => ∃ a xs o, v = .ref a ∧ H a = some (.frz o (.tup xs)) ∧ o.dict = none ∧ μ a = none ∧ Rps K μ H ds xs
  | .dic ks ds, v => ∃ a xs, v = .ref a ∧ H a = some (.dK (ks.zip xs)) ∧ μ a = none ∧ ks.length = xs.length ∧ Rps K μ H ds xs
  | .obj C ns ds, v => ∃ a dx xs, v = .ref a ∧ H a = some (.ins C dx (ns.zip xs)) ∧ μ a = none ∧ ns.length = xs.length ∧ Rps K μ H ds xs
  | .ptr a, v => v = .ref a
def Rps (K : PySem.W.Frag) (μ : Mu) (H : Hp) : List D → List V → Prop
  | [], vs => vs = []
  | d :: ds, vs => ∃ v r, vs = v :: r ∧ Rp K μ H d v ∧ Rps K μ H ds r
end
/-- what is tracked and not being changed stays so -/
def Gs (μ μ' : Mu) (H H' : Hp) : Prop := ∀ a o, H a = some o → μ a = none → H' a = some o ∧ μ' a = none
theorem Gs.refl (μ : Mu) (H : Hp) : Gs μ μ H H := fun _ _ h n => ⟨h, n⟩
theorem Gs.trans {μ μ1 μ2 : Mu} {H H1 H2 : Hp} (a : Gs μ μ1 H H1) (b : Gs μ1 μ2 H1 H2) : Gs μ μ2 H H2 := fun x o h n =>
  let ⟨h1, n1⟩ := a x o h n; b x o h1 n1
theorem Gs.rd {μ μ' : Mu} {H H' : Hp} (g : Gs μ μ' H H') {a : Addr} {u : HO} (h : Rd H a u) (n : μ a = none) : Rd H' a u ∧ μ' a = none := by
  rcases h with h | ⟨o, h⟩
  · exact ⟨.inl (g a _ h n).1, (g a _ h n).2⟩
  · exact ⟨.inr ⟨o, (g a _ h n).1⟩, (g a _ h n).2⟩
theorem Gs.tup {K : PySem.W.Frag} {μ μ' : Mu} {H H' : Hp} (g : Gs μ μ' H H') {a : Addr} {xs : List V} (h : TupAt K μ H a xs) : TupAt K μ' H' a xs := by
  rcases h with ⟨h, n⟩ | h
  · exact .inl (g.rd h n)
  · exact .inr h
theorem Gs.lst {K : PySem.W.Frag} {μ μ' : Mu} {H H' : Hp} (g : Gs μ μ' H H') {a : Addr} {xs : List V} (h : LstAt K μ H a xs) : LstAt K μ' H' a xs := by
  rcases h with ⟨h, n⟩ | h
  · exact .inl (g.rd h n)
  · exact .inr h
mutual
theorem rp_mono {K : PySem.W.Frag} {μ μ' : Mu} {H H' : Hp} (g : Gs μ μ' H H') : ∀ (d : D) (v : V), Rp K μ H d v → Rp K μ' H' d v
  | .non, _, h => h
  | .bl _, _, h => h
  | .int _, _, h => h
  | .str _, _, h => h
  | .ptr _, _, h => h
  | .tup ds, _, ⟨a, xs, e, t, r⟩ => ⟨a, xs, e, g.tup t, rps_mono g ds xs r⟩
  | .lst ds, _, ⟨a, xs, e, t, n, r⟩ => ⟨a, xs, e, (g a _ t n).1, (g a _ t n).2, rps_mono g ds xs r⟩
  | .frl ds, _, ⟨a, xs, e, t, r⟩ => ⟨a, xs, e, g.lst t, rps_mono g ds xs r⟩
  | .tupx ds, _, ⟨a, xs, o, e, t, hd, n, r⟩ => ⟨a, xs, o, e, (g a _ t n).1, hd, (g a _ t n).2, rps_mono g ds xs r⟩
  | .dic ks ds, _, ⟨a, xs, e, t, n, l, r⟩ => ⟨a, xs, e, (g a _ t n).1, (g a _ t n).2, l, rps_mono g ds xs r⟩
  | .obj C ns ds, _, ⟨a, dx, xs, e, t, n, l, r⟩ => ⟨a, dx, xs, e, (g a _ t n).1, (g a _ t n).2, l, rps_mono g ds xs r⟩
theorem rps_mono {K : PySem.W.Frag} {μ μ' : Mu} {H H' : Hp} (g : Gs μ μ' H H') : ∀ (ds : List D) (vs : List V), Rps K μ H ds vs → Rps K μ' H' ds vs
  | [], _, h => h
  | d :: ds, _, ⟨v, r, e, h, t⟩ => ⟨v, r, e, rp_mono g d v h, rps_mono g ds r t⟩
end
section
variable {K : PySem.W.Frag} {μ μ' : Mu} {H H' : Hp}
theorem rps_length : ∀ {ds : List D} {vs : List V}, Rps K μ H ds vs → ds.length = vs.length
  | [], _, h => by cases h; rfl
  | d :: ds, _, ⟨v, r, e, _, t⟩ => by subst e; simp [rps_length t]
theorem rps_get : ∀ {ds : List D} {vs : List V} {i : Nat} {d : D}, Rps K μ H ds vs → ds[i]? = some d → ∃ v, vs[i]? = some v ∧ Rp K μ H d v
  | [], _, i, d, _, e => by simp at e
  | d0 :: ds, _, 0, d, ⟨v, r, ev, h, t⟩, e => by
    subst ev; simp at e; subst e; exact ⟨v, rfl, h⟩
  | d0 :: ds, _, i + 1, d, ⟨v, r, ev, h, t⟩, e => by
    subst ev
    obtain ⟨u, h1, h2⟩ := rps_get t (show ds[i]? = some d by simpa using e)
    exact ⟨u, by simpa using h1, h2⟩
theorem rps_get' : ∀ {ds : List D} {vs : List V} {i : Nat} {v : V}, Rps K μ H ds vs → vs[i]? = some v → ∃ d, ds[i]? = some d ∧ Rp K μ H d v := fun {ds vs i v} r e => by
  have hl := rps_length r
  have hi : i < vs.length := (List.getElem?_eq_some_iff.mp e).1
  obtain ⟨u, h1, h2⟩ := rps_get (i := i) (d := ds[i]'(by omega)) r (List.getElem?_eq_getElem (by omega))
  rw [h1] at e; cases e
  exact ⟨_, List.getElem?_eq_getElem (by omega), h2⟩
theorem rps_append : ∀ {ds es : List D} {vs us : List V}, Rps K μ H ds vs → Rps K μ H es us → Rps K μ H (ds ++ es) (vs ++ us)
  | [], _, _, _, h, k => by cases h; exact k
  | d :: ds, _, _, _, ⟨v, r, e, h, t⟩, k => by subst e; exact ⟨v, _, rfl, h, rps_append t k⟩
theorem rps_one {d : D} {v : V} (h : Rp K μ H d v) : Rps K μ H [d] [v] := ⟨v, [], rfl, h, rfl⟩
theorem rps_nil : Rps K μ H [] [] := rfl
theorem rps_cons {d : D} {v : V} {ds : List D} {vs : List V} (h : Rp K μ H d v) (t : Rps K μ H ds vs) : Rps K μ H (d :: ds) (v :: vs) := ⟨v, vs, rfl, h, t⟩
theorem rps_set : ∀ {ds : List D} {vs : List V} (i : Nat) {d : D} {v : V}, Rps K μ H ds vs → Rp K μ H d v → Rps K μ H (ds.set i d) (vs.set i v)
  | [], _, i, _, _, h, _ => by cases h; simp; rfl
  | d0 :: ds, _, 0, d, v, ⟨v0, r, e, h, t⟩, k => by subst e; exact ⟨v, r, rfl, k, t⟩
  | d0 :: ds, _, i + 1, d, v, ⟨v0, r, e, h, t⟩, k => by subst e; exact ⟨v0, _, rfl, h, rps_set i t k⟩
theorem rps_take : ∀ {ds : List D} {vs : List V} (n : Nat), Rps K μ H ds vs → Rps K μ H (ds.take n) (vs.take n)
  | _, _, 0, _ => by simp; rfl
  | [], _, n + 1, h => by cases h; simp; rfl
  | d :: ds, _, n + 1, ⟨v, r, e, h, t⟩ => by subst e; exact ⟨v, _, rfl, h, rps_take n t⟩
theorem rps_drop : ∀ {ds : List D} {vs : List V} (n : Nat), Rps K μ H ds vs → Rps K μ H (ds.drop n) (vs.drop n)
  | _, _, 0, h => by simpa using h
  | [], _, n + 1, h => by cases h; simp; rfl
  | d :: ds, _, n + 1, ⟨v, r, e, h, t⟩ => by subst e; simpa using rps_drop n t
theorem rps_ints : ∀ {ns : List Int} {vs : List V}, Rps K μ H (ns.map D.int) vs → vs = ns.map V.int
  | [], _, h => h
  | n :: ns, _, ⟨v, r, e, h, t⟩ => by
    have h' : v = V.int n := h
    subst e h'; rw [rps_ints t]; rfl
theorem rps_strs : ∀ {ns : List Str} {vs : List V}, Rps K μ H (ns.map D.str) vs → vs = ns.map V.str
  | [], _, h => h
  | n :: ns, _, ⟨v, r, e, h, t⟩ => by
    have h' : v = V.str n := h
    subst e h'; rw [rps_strs t]; rfl
theorem rps_bls : ∀ {ns : List Bool} {vs : List V}, Rps K μ H (ns.map D.bl) vs → vs = ns.map V.bl
  | [], _, h => h
  | n :: ns, _, ⟨v, r, e, h, t⟩ => by
    have h' : v = V.bl n := h
    subst e h'; rw [rps_bls t]; rfl
theorem rps_of_ints : ∀ {ns : List Int}, Rps K μ H (ns.map D.int) (ns.map V.int)
  | [] => rfl
  | n :: ns => ⟨.int n, _, rfl, rfl, rps_of_ints⟩
theorem rps_of_strs : ∀ {ns : List Str}, Rps K μ H (ns.map D.str) (ns.map V.str)
  | [] => rfl
  | n :: ns => ⟨.str n, _, rfl, rfl, rps_of_strs⟩
end
end Mb
set_option maxHeartbeats 4000000
namespace Mb
open PySem PySem.Spec L2
mutual
/-- a key of a dict with nested keys, as the library has it -/
def nk : D → NestedKey
  | .int i => .num i
  | .str x => .text x
  | .tup ds => .tup (nks ds)
  | _ => .none
def nks : List D → List NestedKey
  | [] => []
  | d :: ds => nk d :: nks ds
end
mutual
def nkOk : D → Bool
  | .int _ => true
  | .str _ => true
  | .tup ds => nksOk ds
  | _ => false
def nksOk : List D → Bool
  | [] => true
  | d :: ds => nkOk d && nksOk ds
end
/-- a dict with nested keys: the keys, where they stand (the values are not told) -/
def nsO (g : Gb) (a : Addr) (nks : List NestedKey) (kas : List Addr) : HO := .ext fun h => (a == sysModules) = false ∧
  ∃ (o : Obj) (es : Array DictEntry) (ep : Nat) (xs : List (NestedKey × Addr × Value)), h.get? a = some o ∧ o.ExactDict ∧ o.data = .dict es ep ∧ es.toList = xs.map (entryOfKey (nestedKind g.P g.w)) ∧ xs.map (fun x => x.1) = nks ∧ xs.map (fun x => x.2.1) = kas ∧ nks.Nodup
def MOk (g : Gb) (μ : Mu) (H : Hp) (a : Addr) : MC → Prop
  | .lst ds => ∃ xs, H a = some (.lst xs) ∧ Rps g.K μ H ds xs
  | .dic ks ds => ∃ xs, H a = some (.dK (ks.zip xs)) ∧ ks.length = xs.length ∧ Rps g.K μ H ds xs
  | .ins C ns ds => ∃ dx xs, H a = some (.ins C dx (ns.zip xs)) ∧ ns.length = xs.length ∧ Rps g.K μ H ds xs
  | .nst ks _ => ∃ kas : List Addr, H a = some (nsO g a (ks.map nk) kas) ∧ ks.length ≤ 100000 ∧ (∀ d, d ∈ ks → nkOk d = true ∧ (nk d).depth ≤ 8) ∧ Rps g.K μ H ks (kas.map V.ref)
def Mk (g : Gb) (μ : Mu) (H : Hp) : Prop := ∀ a c, μ a = some c → MOk g μ H a c
theorem MOk.some {g : Gb} {μ : Mu} {H : Hp} {a : Addr} {c : MC} (h : MOk g μ H a c) : ∃ o, H a = some o := by
  cases c with
  | lst ds => obtain ⟨xs, h, _⟩ := h; exact ⟨_, h⟩
  | dic ks ds => obtain ⟨xs, h, _⟩ := h; exact ⟨_, h⟩
  | ins C ns ds => obtain ⟨dx, xs, h, _⟩ := h; exact ⟨_, h⟩
  | nst ks ds => obtain ⟨kas, h, _⟩ := h; exact ⟨_, h⟩
theorem Mk.new {g : Gb} {μ : Mu} {H : Hp} (m : Mk g μ H) {p : Addr} (h : H p = none) : μ p = none := by
  cases e : μ p with
  | none => rfl
  | some c => obtain ⟨o, q⟩ := (m p c e).some; rw [h] at q; cases q
/-- what is being changed stays, where the heap stays at its address -/
theorem MOk.mono {g : Gb} {μ μ' : Mu} {H H' : Hp} (G : Gs μ μ' H H') {a : Addr} {c : MC} (k : H' a = H a) (h : MOk g μ H a c) : MOk g μ' H' a c := by
  cases c with
  | lst ds => obtain ⟨xs, h, r⟩ := h; exact ⟨xs, k.trans h, rps_mono G _ _ r⟩
  | dic ks ds => obtain ⟨xs, h, l, r⟩ := h; exact ⟨xs, k.trans h, l, rps_mono G _ _ r⟩
  | ins C ns ds => obtain ⟨dx, xs, h, l, r⟩ := h; exact ⟨dx, xs, k.trans h, l, rps_mono G _ _ r⟩
  | nst ks ds => obtain ⟨kas, h, l, q, r⟩ := h; exact ⟨kas, k.trans h, l, q, rps_mono G _ _ r⟩
/-- slots and store, told by data -/
structure At (g : Gb) (ρ : Ro) (μ : Mu) (σ : St) (H : Hp) : Prop where
  len : σ.length = ρ.length
  env : ∀ (i : Nat) d, ρ[i]? = some (some d) → ∃ v, σ[i]? = some (some v) ∧ Rp g.K μ H d v
  mu : Mk g μ H
theorem At.go {g : Gb} {ρ : Ro} {μ μ' : Mu} {σ : St} {H H' : Hp} (a : At g ρ μ σ H) (G : Gs μ μ' H H') (m : Mk g μ' H') : At g ρ μ' σ H' :=
  ⟨a.len, fun i d e => let ⟨v, h, r⟩ := a.env i d e; ⟨v, h, rp_mono G _ _ r⟩, m⟩
theorem At.set {g : Gb} {ρ : Ro} {μ : Mu} {σ : St} {H : Hp} (a : At g ρ μ σ H) (i : Nat) {d : D} {v : V} (r : Rp g.K μ H d v) : At g (ρ.set i (some d)) μ (σ.set i (some v)) H :=
  ⟨by simp [a.len], fun j e h => by
    by_cases hj : i = j
    · subst hj
      have hi : i < ρ.length := by
        have := (List.getElem?_eq_some_iff.mp h).1
        simpa using this
      rw [List.getElem?_set_self hi] at h
      cases h
      exact ⟨v, List.getElem?_set_self (by rw [a.len]; exact hi), r⟩
    · rw [List.getElem?_set_ne hj] at h
      rw [List.getElem?_set_ne hj]
      exact a.env j e h, a.mu⟩
/-- slots forgotten -/
theorem At.weak {g : Gb} {ρ ρ' : Ro} {μ : Mu} {σ : St} {H : Hp} (a : At g ρ μ σ H) (hl : ρ'.length = ρ.length) (w : ∀ (i : Nat) d, ρ'[i]? = some (some d) → ρ[i]? = some (some d)) : At g ρ' μ σ H :=
  ⟨a.len.trans hl.symm, fun i d e => a.env i d (w i d e), a.mu⟩
/-! ### the semantic readings -/
def E (X : Cx) (e : Expr) : TE := fun σ H Q => ∀ (pins : List (Addr × Obj)) (s : Shared), Inv X pins σ H s → wpAny (model X.prog X.w) X.A (eval e X.env) (EP X pins σ Q) X.xe s
theorem E.pe (X : Cx) (e : Expr) : PE X e (E X e) := ⟨fun pins s _ _ _ I h => h pins s I⟩
theorem E.of {X : Cx} {e : Expr} {t : TE} (p : PE X e t) {σ : St} {H : Hp} {Q : VK} (h : t σ H Q) : E X e σ H Q := fun pins s I => p.run pins s σ H Q I h
theorem E.mono {X : Cx} {e : Expr} {σ : St} {H : Hp} {Q Q' : VK} (h : E X e σ H Q) (k : ∀ v H', Q v H' → Q' v H') : E X e σ H Q' := fun pins s I =>
  thn (h pins s I) fun u s' ⟨v, H', I', r, q⟩ => ⟨v, H', I', r, k _ _ q⟩
def ET (X : Cx) (e : Expr) : TT := fun σ H Q => ∀ (pins : List (Addr × Obj)) (s : Shared), Inv X pins σ H s → wpAny (model X.prog X.w) X.A (isTrue e X.env (eval e X.env)) (TP X pins σ Q) X.xe s
theorem ET.pt (X : Cx) (e : Expr) : PT X e (ET X e) := ⟨fun pins s _ _ _ I h => h pins s I⟩
theorem ET.of {X : Cx} {e : Expr} {t : TT} (p : PT X e t) {σ : St} {H : Hp} {Q : Bool → Hp → Prop} (h : t σ H Q) : ET X e σ H Q := fun pins s I => p.run pins s σ H Q I h
theorem ET.mono {X : Cx} {e : Expr} {σ : St} {H : Hp} {Q Q' : Bool → Hp → Prop} (h : ET X e σ H Q) (k : ∀ v H', Q v H' → Q' v H') : ET X e σ H Q' := fun pins s I =>
  thn (h pins s I) fun u s' ⟨H', I', q⟩ => ⟨H', I', k _ _ q⟩
def EW (X : Cx) (e : Expr) : TT := fun σ H Q => ∀ (whole : Sem Value) (pins : List (Addr × Obj)) (s : Shared), Inv X pins σ H s → wpAny (model X.prog X.w) X.A (isTrue e X.env whole) (TP X pins σ Q) X.xe s
theorem EW.pw (X : Cx) (e : Expr) : PW X e (EW X e) := ⟨fun wh pins s _ _ _ I h => h wh pins s I⟩
theorem EW.of {X : Cx} {e : Expr} {t : TT} (p : PW X e t) {σ : St} {H : Hp} {Q : Bool → Hp → Prop} (h : t σ H Q) : EW X e σ H Q := fun wh pins s I => p.run wh pins s σ H Q I h
def EA (X : Cx) (es : List Expr) : TA := fun σ H Q => ∀ (pos : Pos) (pins : List (Addr × Obj)) (s : Shared), Inv X pins σ H s → wpAny (model X.prog X.w) X.A (spliced (backTo pos (starEach es X.env))) (AP X pins σ Q) X.xe s
theorem EA.pa (X : Cx) (es : List Expr) : PA X es (EA X es) := ⟨fun pos pins s _ _ _ I h => h pos pins s I⟩
theorem EA.of {X : Cx} {es : List Expr} {t : TA} (p : PA X es t) {σ : St} {H : Hp} {Q : List V → Hp → Prop} (h : t σ H Q) : EA X es σ H Q := fun pos pins s I => p.run pos pins s σ H Q I h
theorem EA.mono {X : Cx} {es : List Expr} {σ : St} {H : Hp} {Q Q' : List V → Hp → Prop} (h : EA X es σ H Q) (k : ∀ v H', Q v H' → Q' v H') : EA X es σ H Q' := fun pos pins s I =>
  thn (h pos pins s I) fun u s' ⟨v, H', I', r, q⟩ => ⟨v, H', I', r, k _ _ q⟩
def ES (X : Cx) (st : Stmt) : TS := fun D σ H => ∀ (pins : List (Addr × Obj)) (s : Shared), Inv X pins σ H s → wpAny (model X.prog X.w) X.A (exec st X.env) (SP X pins D) X.xe s
theorem ES.ps (X : Cx) (st : Stmt) : PS X st (ES X st) := ⟨fun pins s _ _ _ I h => h pins s I⟩
theorem ES.of {X : Cx} {st : Stmt} {t : TS} (p : PS X st t) {σ : St} {H : Hp} {D : Ends} (h : t D σ H) : ES X st D σ H := fun pins s I => p.run pins s σ H D I h
def ESs (X : Cx) (sts : List Stmt) : TS := fun D σ H => ∀ (pins : List (Addr × Obj)) (s : Shared), Inv X pins σ H s → wpAny (model X.prog X.w) X.A (execs sts X.env) (SP X pins D) X.xe s
theorem ESs.pss (X : Cx) (sts : List Stmt) : PSs X sts (ESs X sts) := ⟨fun pins s _ _ _ I h => h pins s I⟩
theorem ESs.of {X : Cx} {sts : List Stmt} {t : TS} (p : PSs X sts t) {σ : St} {H : Hp} {D : Ends} (h : t D σ H) : ESs X sts D σ H := fun pins s I => p.run pins s σ H D I h
theorem sp_mono {X : Cx} {pins : List (Addr × Obj)} {D D' : Ends} (h1 : ∀ σ H, D.nx σ H → D'.nx σ H) (h2 : ∀ v H, D.rt v H → D'.rt v H) (h3 : ∀ σ H, D.bk σ H → D'.bk σ H) (h4 : ∀ σ H, D.ct σ H → D'.ct σ H)
    {f : Flow} {s : Shared} (h : SP X pins D f s) : SP X pins D' f s := by
  cases f with
  | next => obtain ⟨a, b, c, d⟩ := h; exact ⟨a, b, c, h1 _ _ d⟩
  | brk => obtain ⟨a, b, c, d⟩ := h; exact ⟨a, b, c, h3 _ _ d⟩
  | cont => obtain ⟨a, b, c, d⟩ := h; exact ⟨a, b, c, h4 _ _ d⟩
  | ret u => obtain ⟨a, b, c, d, e, k⟩ := h; exact ⟨a, b, c, d, e, h2 _ _ k⟩
theorem ES.mono {X : Cx} {st : Stmt} {σ : St} {H : Hp} {D D' : Ends} (h : ES X st D σ H) (h1 : ∀ σ H, D.nx σ H → D'.nx σ H) (h2 : ∀ v H, D.rt v H → D'.rt v H) (h3 : ∀ σ H, D.bk σ H → D'.bk σ H) (h4 : ∀ σ H, D.ct σ H → D'.ct σ H) : ES X st D' σ H :=
  fun pins s I => thn (h pins s I) fun _ _ q => sp_mono h1 h2 h3 h4 q
theorem ESs.mono {X : Cx} {st : List Stmt} {σ : St} {H : Hp} {D D' : Ends} (h : ESs X st D σ H) (h1 : ∀ σ H, D.nx σ H → D'.nx σ H) (h2 : ∀ v H, D.rt v H → D'.rt v H) (h3 : ∀ σ H, D.bk σ H → D'.bk σ H) (h4 : ∀ σ H, D.ct σ H → D'.ct σ H) : ESs X st D' σ H :=
  fun pins s I => thn (h pins s I) fun _ _ q => sp_mono h1 h2 h3 h4 q
/-! ### wishes over data -/
abbrev AQ := D → Mu → Prop
def VQ (g : Gb) (μ : Mu) (H : Hp) (Post : AQ) : VK := fun v H' => ∃ d μ', Gs μ μ' H H' ∧ Mk g μ' H' ∧ Rp g.K μ' H' d v ∧ Post d μ'
def W (g : Gb) (X : Cx) (e : Expr) (ρ : Ro) (μ : Mu) (Post : AQ) : Prop := ∀ σ H, At g ρ μ σ H → E X e σ H (VQ g μ H Post)
def WT (g : Gb) (X : Cx) (e : Expr) (ρ : Ro) (μ : Mu) (Post : Bool → Mu → Prop) : Prop := ∀ σ H, At g ρ μ σ H → ET X e σ H fun b H' => ∃ μ', Gs μ μ' H H' ∧ Mk g μ' H' ∧ Post b μ'
def WW (g : Gb) (X : Cx) (e : Expr) (ρ : Ro) (μ : Mu) (Post : Bool → Mu → Prop) : Prop := ∀ σ H, At g ρ μ σ H → EW X e σ H fun b H' => ∃ μ', Gs μ μ' H H' ∧ Mk g μ' H' ∧ Post b μ'
def WA (g : Gb) (X : Cx) (es : List Expr) (ρ : Ro) (μ : Mu) (Post : List D → Mu → Prop) : Prop := ∀ σ H, At g ρ μ σ H → EA X es σ H fun vs H' => ∃ ds μ', Gs μ μ' H H' ∧ Mk g μ' H' ∧ Rps g.K μ' H' ds vs ∧ Post ds μ'
structure AE where
  nx : Ro → Mu → Prop
  rt : AQ
  bk : Ro → Mu → Prop := fun _ _ => False
  ct : Ro → Mu → Prop := fun _ _ => False
def RQ (g : Gb) (μ : Mu) (H : Hp) (k : Ro → Mu → Prop) : St → Hp → Prop := fun σ' H' => ∃ ρ' μ', Gs μ μ' H H' ∧ At g ρ' μ' σ' H' ∧ k ρ' μ'
def EN (g : Gb) (μ : Mu) (H : Hp) (R : AE) : Ends := ⟨RQ g μ H R.nx, VQ g μ H R.rt, RQ g μ H R.bk, RQ g μ H R.ct⟩
def WS (g : Gb) (X : Cx) (st : Stmt) (ρ : Ro) (μ : Mu) (R : AE) : Prop := ∀ σ H, At g ρ μ σ H → ES X st (EN g μ H R) σ H
def WB (g : Gb) (X : Cx) (sts : List Stmt) (ρ : Ro) (μ : Mu) (R : AE) : Prop := ∀ σ H, At g ρ μ σ H → ESs X sts (EN g μ H R) σ H
theorem VQ.tr {g : Gb} {μ μ1 : Mu} {H H1 : Hp} {P : AQ} {v : V} {H2 : Hp} (G : Gs μ μ1 H H1) (h : VQ g μ1 H1 P v H2) : VQ g μ H P v H2 := let ⟨d, m, a, b, c, e⟩ := h; ⟨d, m, G.trans a, b, c, e⟩
theorem RQ.tr {g : Gb} {μ μ1 : Mu} {H H1 : Hp} {P : Ro → Mu → Prop} {σ : St} {H2 : Hp} (G : Gs μ μ1 H H1) (h : RQ g μ1 H1 P σ H2) : RQ g μ H P σ H2 := let ⟨d, m, a, b, c⟩ := h; ⟨d, m, G.trans a, b, c⟩
theorem ESs.tr {g : Gb} {X : Cx} {sts : List Stmt} {σ : St} {μ μ1 : Mu} {H H1 H2 : Hp} {R : AE} (G : Gs μ μ1 H H1) (h : ESs X sts (EN g μ1 H1 R) σ H2) : ESs X sts (EN g μ H R) σ H2 :=
  h.mono (fun _ _ q => RQ.tr G q) (fun _ _ q => VQ.tr G q) (fun _ _ q => RQ.tr G q) fun _ _ q => RQ.tr G q
section
variable {g : Gb} {X : Cx} {ρ : Ro} {μ : Mu} {R R' : AE}
theorem W.mono {e : Expr} {P P' : AQ} (h : W g X e ρ μ P) (k : ∀ d m, P d m → P' d m) : W g X e ρ μ P' := fun σ H a => (h σ H a).mono fun _ _ ⟨d, m, x, y, z, q⟩ => ⟨d, m, x, y, z, k _ _ q⟩
/-- a reading's answer of one part, then the next -/
theorem W.then {e : Expr} {P : AQ} (h : W g X e ρ μ P) {σ : St} {H : Hp} (a : At g ρ μ σ H) {Q : VK} (k : ∀ d m v H', Gs μ m H H' → At g ρ m σ H' → Rp g.K m H' d v → P d m → Q v H') : E X e σ H Q :=
  (h σ H a).mono fun v H' ⟨d, m, G, M, r, p⟩ => k d m v H' G (a.go G M) r p
theorem WA.then {es : List Expr} {P : List D → Mu → Prop} (h : WA g X es ρ μ P) {σ : St} {H : Hp} (a : At g ρ μ σ H) {Q : List V → Hp → Prop} (k : ∀ ds m vs H', Gs μ m H H' → At g ρ m σ H' → Rps g.K m H' ds vs → P ds m → Q vs H') : EA X es σ H Q :=
  (h σ H a).mono fun v H' ⟨d, m, G, M, r, p⟩ => k d m v H' G (a.go G M) r p
theorem WT.then {e : Expr} {P : Bool → Mu → Prop} (h : WT g X e ρ μ P) {σ : St} {H : Hp} (a : At g ρ μ σ H) {Q : Bool → Hp → Prop} (k : ∀ b m H', Gs μ m H H' → At g ρ m σ H' → P b m → Q b H') : ET X e σ H Q :=
  (h σ H a).mono fun b H' ⟨m, G, M, p⟩ => k b m H' G (a.go G M) p
theorem wb_nil (h : R.nx ρ μ) : WB g X [] ρ μ R := fun σ H a => ESs.of pss_nil (show RQ g μ H R.nx σ H from ⟨ρ, μ, .refl _ _, a, h⟩)
theorem wb_cons {st : Stmt} {rest : List Stmt} (h : WS g X st ρ μ { R with nx := fun ρ' μ' => WB g X rest ρ' μ' R }) : WB g X (st :: rest) ρ μ R := fun σ H a =>
  ESs.of (pss_cons (ES.ps X st) (ESs.pss X rest)) ((h σ H a).mono (fun σ' H' ⟨ρ', μ', G, b, q⟩ => ESs.tr G (q σ' H' b)) (fun _ _ q => q) (fun _ _ q => q) fun _ _ q => q)
theorem wb_one {st : Stmt} (h : WS g X st ρ μ R) : WB g X [st] ρ μ R := fun σ H a => ESs.of (pss_one (ES.ps X st)) (h σ H a)
theorem WB.mono {sts : List Stmt} (h : WB g X sts ρ μ R) (h1 : ∀ a b, R.nx a b → R'.nx a b) (h2 : ∀ a b, R.rt a b → R'.rt a b) (h3 : ∀ a b, R.bk a b → R'.bk a b) (h4 : ∀ a b, R.ct a b → R'.ct a b) : WB g X sts ρ μ R' := fun σ H a =>
  (h σ H a).mono (fun _ _ ⟨r, m, x, y, q⟩ => ⟨r, m, x, y, h1 _ _ q⟩) (fun _ _ ⟨r, m, x, y, z, q⟩ => ⟨r, m, x, y, z, h2 _ _ q⟩) (fun _ _ ⟨r, m, x, y, q⟩ => ⟨r, m, x, y, h3 _ _ q⟩) fun _ _ ⟨r, m, x, y, q⟩ => ⟨r, m, x, y, h4 _ _ q⟩
end
end Mb
set_option maxHeartbeats 4000000
namespace Mb
open PySem PySem.Spec L2
/-- a scope, up to what a comprehension's block calls a cell -/
def ScR (sc sc' : Scope) : Prop := ∀ x kd, sc.names.lookup x = some kd → sc'.names.lookup x = some kd ∨ (kd = .free ∧ sc'.names.lookup x = some .cell)
/-- where a body stands: N its names by slot, vis the slots that may be read, loc those that may be stored, gl the global names, sc the scope -/
structure Sit (g : Gb) (k : Nat) (N : List Str) (vis loc : List Nat) (gl : List Str) (sc : Scope) (X : Cx) : Prop where
  hP : X.prog = g.P
  hw : X.w = g.w
  hK : X.K = g.K
  hmg : X.mg = g.mg
  hb : X.base = g.base
  hN : X.N = N
  nd : N.Nodup
  hsc : ScR sc X.env.scope
  hv : ∀ (i : Nat) (x : Str), vis.elem i = true → N[i]? = some x → Vis X.env.scope x ∧ (x == ("__debug__" : Str)) = false ∧ (x == ("__classdict__" : Str)) = false
  hl : ∀ (i : Nat) (x : Str), loc.elem i = true → N[i]? = some x → L2.Loc X.env.scope x ∧ (X.fn x = true ∨ X.env.scope.names.lookup x = some .local)
  hg : ∀ (j : Nat) (x : Str), gl[j]? = some x → Gl X x ∧ (x == ("__debug__" : Str)) = false ∧ x ≠ "__name__"
  kind : X.env.scope.kind = .function
  calm : X.calm = true
  room : Room k X.A
  xe : X.xe = fun _ _ => False
section
variable {g : Gb} {k : Nat} {N : List Str} {vis loc : List Nat} {gl : List Str} {sc : Scope} {X : Cx} {ρ : Ro} {μ : Mu} {Post : AQ} {pos : Pos}
theorem Sit.hu (S : Sit g k N vis loc gl sc X) : X.A.units + 1 < cLine := Nat.lt_of_le_of_lt (Nat.add_le_add_left (by decide : 1 ≤ 64) _) S.room.units
theorem Sit.hu64 (S : Sit g k N vis loc gl sc X) : X.A.units + 64 < cLine := S.room.units
theorem Sit.hu65 (S : Sit g k N vis loc gl sc X) : X.A.units + 65 < cLine := by have := S.room.un; omega
/-! ### names, constants -/
theorem w_var (S : Sit g k N vis loc gl sc X) (i : Nat) {x : Str} {d : D} (hv : vis.elem i = true) (hN : N[i]? = some x) (hd : ρ[i]? = some (some d)) (q : Post d μ) : W g X (.Name x pos) ρ μ Post := fun σ H a => by
  obtain ⟨h1, h2, h3⟩ := S.hv i x hv hN
  obtain ⟨v, e, r⟩ := a.env i d hd
  exact E.of (pe_var (i := i) (by rw [S.hN]; exact hN) h1 h2 h3) ⟨v, e, d, μ, .refl _ _, a.mu, r, q⟩
theorem w_int {i : Int} {j} (q : Post (.int i) μ) : W g X (.Constant (.int i) j pos) ρ μ Post := fun σ H a => E.of pe_int ⟨.int i, μ, .refl _ _, a.mu, rfl, q⟩
theorem w_str {i : Str} {j} (q : Post (.str i) μ) : W g X (.Constant (.str i) j pos) ρ μ Post := fun σ H a => E.of pe_str ⟨.str i, μ, .refl _ _, a.mu, rfl, q⟩
theorem w_bl {i : Bool} {j} (q : Post (.bl i) μ) : W g X (.Constant (.bool i) j pos) ρ μ Post := fun σ H a => E.of pe_bl ⟨.bl i, μ, .refl _ _, a.mu, rfl, q⟩
theorem w_non {j} (q : Post .non μ) : W g X (.Constant .none j pos) ρ μ Post := fun σ H a => E.of pe_non ⟨.non, μ, .refl _ _, a.mu, rfl, q⟩
/-- a module's int, text, object -/
theorem w_glb (S : Sit g k N vis loc gl sc X) (j : Nat) {x : Str} {v : V} {u : Value} {d : D} (hx : gl[j]? = some x) (hm : g.mg x = some u) (r : RelV v u) (hd : ∀ μ H, Rp g.K μ H d v) (q : Post d μ) : W g X (.Name x pos) ρ μ Post := fun σ H a =>
  E.of (pe_glob (S.hg j x hx).1 (by rw [S.hmg]; exact hm) r (S.hg j x hx).2.1) ⟨d, μ, .refl _ _, a.mu, hd _ _, q⟩
/-! ### operators by values -/
theorem VQ.at {H : Hp} {d : D} {v : V} (m : Mk g μ H) (r : Rp g.K μ H d v) (q : Post d μ) : VQ g μ H Post v H := ⟨d, μ, .refl _ _, m, r, q⟩
def OpD (g : Gb) (r : R2) (x y : D) (μ : Mu) (Post : AQ) : Prop := ∀ (H : Hp) (u v : V) (Q : VK), Mk g μ H → Rp g.K μ H x u → Rp g.K μ H y v → (∀ z H', VQ g μ H Post z H' → Q z H') → r u v H Q
def CaD (g : Gb) (r : List V → Hp → VK → Prop) (ds : List D) (μ : Mu) (Post : AQ) : Prop := ∀ (H : Hp) (us : List V) (Q : VK), Mk g μ H → Rps g.K μ H ds us → (∀ z H', VQ g μ H Post z H' → Q z H') → r us H Q
def MeD (g : Gb) (r : V → List V → Hp → VK → Prop) (x : D) (ds : List D) (μ : Mu) (Post : AQ) : Prop := ∀ (H : Hp) (u : V) (us : List V) (Q : VK), Mk g μ H → Rp g.K μ H x u → Rps g.K μ H ds us → (∀ z H', VQ g μ H Post z H' → Q z H') → r u us H Q
section
variable {a b : Expr} {es : List Expr}
theorem two {R : R2} (ha : W g X a ρ μ fun x μ1 => W g X b ρ μ1 fun y μ2 => OpD g R x y μ2 Post) {σ : L2.St} {H : Hp} (at_ : At g ρ μ σ H) : tOp R (E X a) (E X b) σ H (VQ g μ H Post) :=
  ha.then at_ fun x μ1 u H1 G1 a1 r1 hb => hb.then a1 fun y μ2 v H2 G2 a2 r2 q => q H2 u v _ a2.mu (rp_mono G2 _ _ r1) r2 fun z H' h => VQ.tr (G1.trans G2) h
theorem w_bin {op : Operator} {r : R2} (ho : OpR X (binaryOp op) r) (ha : W g X a ρ μ fun x μ1 => W g X b ρ μ1 fun y μ2 => OpD g r x y μ2 Post) : W g X (.BinOp a op b pos) ρ μ Post := fun σ H at_ =>
  E.of (pe_op ho (E.pe X a) (E.pe X b)) (two ha at_)
theorem w_cmp {op : CmpOp} {r : R2} (ho : OpR X (compareOp op) r) (hm : behindInMarks op b = false) (ha : W g X a ρ μ fun x μ1 => W g X b ρ μ1 fun y μ2 => OpD g r x y μ2 Post) : W g X (.Compare a [op] [b] pos) ρ μ Post := fun σ H at_ =>
  E.of (pe_cmpR ho (E.pe X a) (E.pe X b) hm) (two ha at_)
theorem wt_cmp {op : CmpOp} {r : R2} {PB : Bool → Mu → Prop} (ho : OpR X (compareOp op) r) (hm : behindInMarks op b = false) (ha : W g X a ρ μ fun x μ1 => W g X b ρ μ1 fun y μ2 => OpD g r x y μ2 fun d m => ∃ k, d = .bl k ∧ PB k m) : WT g X (.Compare a [op] [b] pos) ρ μ PB := fun σ H at_ =>
  ET.of (pt_cmpR ho (E.pe X a) (E.pe X b) hm) (ha.then at_ fun x μ1 u H1 G1 a1 r1 hb => hb.then a1 fun y μ2 v H2 G2 a2 r2 q => q H2 u v _ a2.mu (rp_mono G2 _ _ r1) r2 fun z H' ⟨d, m, G, M, rr, kk, e, p⟩ => by
    subst e; exact ⟨kk, rr, m, (G1.trans G2).trans G, M, p⟩)
theorem wt_val {e : Expr} {PB : Bool → Mu → Prop} (h : W g X e ρ μ fun d m => ∃ k, d = .bl k ∧ PB k m) (he : ∀ whole, isTrue e X.env whole = (do let v ← whole; standAt e.pos; holding [v] (truthy v)) := by intro _; rfl) : WT g X e ρ μ PB := fun σ H at_ =>
  ET.of (pt_val (E.pe X e) he) (h.then at_ fun x m u H1 G a1 r1 ⟨kk, e, p⟩ => by subst e; exact ⟨kk, r1, m, G, a1.mu, p⟩)
theorem wt_not {PB : Bool → Mu → Prop} (h : WT g X a ρ μ fun b m => PB (!b) m) : WT g X (.UnaryOp .Not a pos) ρ μ PB := fun σ H at_ =>
  ET.of (pt_not (ET.pt X a)) (h.then at_ fun b m H1 G a1 p => ⟨m, G, a1.mu, p⟩)
theorem ww_and1 {PB : Bool → Mu → Prop} (h : WT g X a ρ μ PB) : WW g X (.BoolOp .And [a] pos) ρ μ PB := fun σ H at_ => EW.of (pw_and1 (ET.pt X a)) (h σ H at_)
theorem ww_or1 {PB : Bool → Mu → Prop} (h : WT g X a ρ μ PB) : WW g X (.BoolOp .Or [a] pos) ρ μ PB := fun σ H at_ => EW.of (pw_or1 (ET.pt X a)) (h σ H at_)
theorem ww_and {PB : Bool → Mu → Prop} (h : WT g X a ρ μ fun c m => if c = true then WW g X (.BoolOp .And (b :: es) pos) ρ m PB else PB false m) : WW g X (.BoolOp .And (a :: b :: es) pos) ρ μ PB := fun σ H at_ =>
  EW.of (pw_and (ET.pt X a) (EW.pw X _)) (h.then at_ fun c m H1 G a1 p => by
    cases c with
    | true => exact fun wh pins s I => thn (p σ H1 a1 wh pins s I) fun u s' ⟨H', I', m', G', M', q⟩ => ⟨H', I', m', G.trans G', M', q⟩
    | false => exact ⟨m, G, a1.mu, p⟩)
theorem ww_or {PB : Bool → Mu → Prop} (h : WT g X a ρ μ fun c m => if c = true then PB true m else WW g X (.BoolOp .Or (b :: es) pos) ρ m PB) : WW g X (.BoolOp .Or (a :: b :: es) pos) ρ μ PB := fun σ H at_ =>
  EW.of (pw_or (ET.pt X a) (EW.pw X _)) (h.then at_ fun c m H1 G a1 p => by
    cases c with
    | false => exact fun wh pins s I => thn (p σ H1 a1 wh pins s I) fun u s' ⟨H', I', m', G', M', q⟩ => ⟨H', I', m', G.trans G', M', q⟩
    | true => exact ⟨m, G, a1.mu, p⟩)
theorem wt_w {e : Expr} {PB : Bool → Mu → Prop} (h : WW g X e ρ μ PB) : WT g X e ρ μ PB := fun σ H at_ => ET.of (EW.pw X e).pt (h σ H at_)
/-- and, or, not as values of truth -/
theorem w_one {op} (h : W g X a ρ μ Post) : W g X (.BoolOp op [a] pos) ρ μ Post := fun σ H at_ => E.of (pe_one (E.pe X a)) (h σ H at_)
theorem E.tr {e : Expr} {σ : L2.St} {μ1 : Mu} {H H1 H2 : Hp} (G : Gs μ μ1 H H1) (h : E X e σ H2 (VQ g μ1 H1 Post)) : E X e σ H2 (VQ g μ H Post) := h.mono fun _ _ q => VQ.tr G q
theorem w_and (h : W g X a ρ μ fun d m => ∃ c, d = .bl c ∧ if c = true then W g X (.BoolOp .And (b :: es) pos) ρ m Post else Post (.bl false) m) : W g X (.BoolOp .And (a :: b :: es) pos) ρ μ Post := fun σ H at_ =>
  E.of (pe_and (E.pe X a) (E.pe X _)) (h.then at_ fun d m u H1 G a1 r1 ⟨c, e, p⟩ => by
    subst e
    refine ⟨c, r1, ?_⟩
    cases c with
    | true => exact E.tr G (p σ H1 a1)
    | false => exact ⟨.bl false, m, G, a1.mu, rfl, p⟩)
theorem w_or (h : W g X a ρ μ fun d m => ∃ c, d = .bl c ∧ if c = true then Post (.bl true) m else W g X (.BoolOp .Or (b :: es) pos) ρ m Post) : W g X (.BoolOp .Or (a :: b :: es) pos) ρ μ Post := fun σ H at_ =>
  E.of (pe_or (E.pe X a) (E.pe X _)) (h.then at_ fun d m u H1 G a1 r1 ⟨c, e, p⟩ => by
    subst e
    refine ⟨c, r1, ?_⟩
    cases c with
    | false => exact E.tr G (p σ H1 a1)
    | true => exact ⟨.bl true, m, G, a1.mu, rfl, p⟩)
/-! ### argument lists, displays -/
theorem wa_nil {PA : List D → Mu → Prop} (q : PA [] μ) : WA g X [] ρ μ PA := fun σ H at_ => EA.of pa_nil ⟨[], μ, .refl _ _, at_.mu, rfl, q⟩
theorem wa_cons {PA : List D → Mu → Prop} {e : Expr} (h : W g X e ρ μ fun d m => WA g X es ρ m fun ds m' => PA (d :: ds) m') (hs : starEach (e :: es) X.env = (false, eval e X.env) :: starEach es X.env := by rfl) : WA g X (e :: es) ρ μ PA := fun σ H at_ =>
  EA.of (pa_cons (E.pe X e) (EA.pa X es) hs) (h.then at_ fun d m u H1 G a1 r1 p => p.then a1 fun ds m' us H2 G2 a2 r2 q => ⟨d :: ds, m', G.trans G2, a2.mu, ⟨u, us, rfl, rp_mono G2 _ _ r1, r2⟩, q⟩)
/-- a new object at p is data -/
theorem gs_new {H : Hp} {p : Addr} {o : HO} (h : H p = none) : Gs μ μ H (upd H p o) := fun a u e n => ⟨by rw [upd_ne (ne_of_none e h)]; exact e, n⟩
theorem mk_new {H : Hp} {p : Addr} {o : HO} (m : Mk g μ H) (h : H p = none) : Mk g μ (upd H p o) := fun a c e => by
  obtain ⟨u, q⟩ := (m a c e).some
  exact (m a c e).mono (gs_new h) (upd_ne (ne_of_none q h))
theorem w_tup {x1} (h : WA g X es ρ μ fun ds m => ds.length ≤ 1000 ∧ Post (.tup ds) m) : W g X (.Tuple es x1 pos) ρ μ Post := fun σ H at_ =>
  E.of (pe_tup (EA.pa X es)) (h.then at_ fun ds m us H1 G a1 r1 ⟨hl, p⟩ => ⟨by rw [← rps_length r1]; exact Nat.le_trans hl (by decide), fun q hq =>
    ⟨.tup ds, m, G.trans (gs_new hq), mk_new a1.mu hq, ⟨q, us, rfl, .inl ⟨.inl upd_same, a1.mu.new hq⟩, rps_mono (gs_new hq) _ _ r1⟩, p⟩⟩)
theorem w_lst (h : WA g X es ρ μ fun ds m => ds.length ≤ 1000 ∧ Post (.lst ds) m) : W g X (.List es pos) ρ μ Post := fun σ H at_ =>
  E.of (pe_lst (EA.pa X es)) (h.then at_ fun ds m us H1 G a1 r1 ⟨hl, p⟩ => ⟨by rw [← rps_length r1]; exact Nat.le_trans hl (by decide), fun q hq =>
    ⟨.lst ds, m, G.trans (gs_new hq), mk_new a1.mu hq, ⟨q, us, rfl, upd_same, a1.mu.new hq, rps_mono (gs_new hq) _ _ r1⟩, p⟩⟩)
end
end
end Mb
set_option maxHeartbeats 4000000
namespace Mb
open PySem PySem.Spec L2
/-! ### a scope looked at once -/
def vkind (sc : Scope) (x : Str) : Bool := match sc.names.lookup x with
  | some .local => true
  | some .cell => true
  | some .free => true
  | _ => false
def lkind (sc : Scope) (x : Str) : Bool := match sc.names.lookup x with
  | some .local => true
  | some .cell => true
  | _ => false
def gkind (sc : Scope) (x : Str) : Bool := match sc.names.lookup x with
  | some .globalImplicit => true
  | _ => false
def plainNm (x : Str) : Bool := !(x == ("__debug__" : Str)) && (!(x == ("__classdict__" : Str)) && !decide (x = "__name__"))
def atB (N : List Str) (p : Str → Bool) (i : Nat) : Bool := match N[i]? with
  | some x => p x && plainNm x
  | none => true
def kindB (sc : Scope) : Bool := match sc.kind with
  | .function => true
  | _ => false
theorem kindB_ok {sc : Scope} (h : kindB sc = true) : sc.kind = .function := by
  unfold kindB at h
  cases e : sc.kind <;> rw [e] at h <;> first | rfl | cases h
def sitB (sc : Scope) (N : List Str) (vis loc : List Nat) (gl : List Str) : Bool :=
  kindB sc && (vis.all (atB N (vkind sc)) && (loc.all (atB N (lkind sc)) && gl.all fun x => gkind sc x && plainNm x))
theorem ba {a b : Bool} (h : (a && b) = true) : a = true ∧ b = true := Bool.and_eq_true_iff.mp h
theorem vkind_ok {sc : Scope} {x : Str} (h : vkind sc x = true) : Vis sc x := by
  unfold vkind at h
  unfold Vis
  cases e : sc.names.lookup x with
  | none => rw [e] at h; cases h
  | some k => rw [e] at h; cases k <;> first | exact .inl rfl | exact .inr (.inl rfl) | exact .inr (.inr rfl) | cases h
theorem lkind_ok {sc : Scope} {x : Str} (h : lkind sc x = true) : L2.Loc sc x := by
  unfold lkind at h
  unfold L2.Loc
  cases e : sc.names.lookup x with
  | none => rw [e] at h; cases h
  | some k => rw [e] at h; cases k <;> first | exact .inl rfl | exact .inr rfl | cases h
theorem gkind_ok {sc : Scope} {x : Str} (h : gkind sc x = true) : sc.names.lookup x = some .globalImplicit := by
  unfold gkind at h
  cases e : sc.names.lookup x with
  | none => rw [e] at h; cases h
  | some k => rw [e] at h; cases k <;> first | rfl | cases h
theorem plainNm_ok {x : Str} (h : plainNm x = true) : (x == ("__debug__" : Str)) = false ∧ (x == ("__classdict__" : Str)) = false ∧ x ≠ "__name__" := by
  obtain ⟨h1, h2⟩ := ba h
  obtain ⟨h2, h3⟩ := ba h2
  refine ⟨?_, ?_, ?_⟩
  · cases q : x == ("__debug__" : Str) with
    | false => rfl
    | true => rw [q] at h1; cases h1
  · cases q : x == ("__classdict__" : Str) with
    | false => rfl
    | true => rw [q] at h2; cases h2
  · intro e
    rw [decide_eq_true e] at h3
    cases h3
theorem all_elem {p : Nat → Bool} {l : List Nat} (h : l.all p = true) {i : Nat} (e : l.elem i = true) : p i = true := List.all_eq_true.mp h i (List.elem_iff.mp e)
theorem ScR.vis {sc sc' : Scope} (r : ScR sc sc') {x : Str} (v : Vis sc x) : Vis sc' x := by
  rcases v with v | v | v
  · rcases r x _ v with z | ⟨z, _⟩
    · exact .inl z
    · cases z
  · rcases r x _ v with z | ⟨z, _⟩
    · exact .inr (.inl z)
    · cases z
  · rcases r x _ v with z | ⟨_, z⟩
    · exact .inr (.inr z)
    · exact .inr (.inl z)
theorem ScR.same {sc sc' : Scope} (r : ScR sc sc') {x : Str} {kd : NameKind} (v : sc.names.lookup x = some kd) (h : kd ≠ .free) : sc'.names.lookup x = some kd := by
  rcases r x _ v with z | ⟨z, _⟩
  · exact z
  · exact absurd z h
theorem sit_of {g : Gb} {k : Nat} {N : List Str} {vis loc : List Nat} {gl : List Str} {sc : Scope} {X : Cx} (h : sitB sc N vis loc gl = true) (hP : X.prog = g.P) (hw : X.w = g.w) (hK : X.K = g.K) (hmg : X.mg = g.mg) (hb : X.base = g.base) (hN : X.N = N) (nd : N.Nodup) (hsc : ScR sc X.env.scope) (hk : sc.kind = .function → X.env.scope.kind = .function) (calm : X.calm = true)
    (room : Room k X.A) (xe : X.xe = fun _ _ => False) (fn : ∀ x, sc.names.lookup x = some .cell → X.fn x = true) : Sit g k N vis loc gl sc X := by
  obtain ⟨h0, h⟩ := ba h
  obtain ⟨h1, h2⟩ := ba h
  obtain ⟨h2, h3⟩ := ba h2
  refine ⟨hP, hw, hK, hmg, hb, hN, nd, hsc, fun i x e n => ?_, fun i x e n => ?_, fun j x n => ?_, hk (kindB_ok h0), calm, room, xe⟩
  · have q := all_elem h1 e
    unfold atB at q
    rw [n] at q
    obtain ⟨q1, q2⟩ := ba q
    obtain ⟨p1, p2, _⟩ := plainNm_ok q2
    exact ⟨hsc.vis (vkind_ok q1), p1, p2⟩
  · have q := all_elem h2 e
    unfold atB at q
    rw [n] at q
    obtain ⟨q1, q2⟩ := ba q
    rcases lkind_ok q1 with l | l
    · have z := hsc.same l (by decide)
      exact ⟨.inl z, .inr z⟩
    · exact ⟨.inr (hsc.same l (by decide)), .inl (fn x l)⟩
  · have q := List.all_eq_true.mp h3 x (List.mem_of_getElem? n)
    obtain ⟨q1, q2⟩ := ba q
    obtain ⟨p1, _, p3⟩ := plainNm_ok q2
    exact ⟨hsc.same (gkind_ok q1) (by decide), p1, p3⟩
theorem relabel_kind {env : Env} : ∀ {names : List (Str × NameKind)} {x : Str} {kd : NameKind}, names.lookup x = some kd →
    ((names.map fun (n, k) => if (k == NameKind.free && env.scope.kind == .function && env.kindOf n == some .cell) then (n, NameKind.cell) else (n, k)).lookup x = some kd ∨
      (kd = .free ∧ (names.map fun (n, k) => if (k == NameKind.free && env.scope.kind == .function && env.kindOf n == some .cell) then (n, NameKind.cell) else (n, k)).lookup x = some .cell))
  | [], _, _, h => by simp at h
  | (n, k) :: r, x, kd, h => by
    have ih := @relabel_kind env r x kd
    simp only [List.map_cons, List.lookup_cons] at h ⊢
    by_cases hx : (x == n) = true
    · rw [hx] at h
      cases h
      split
      · rename_i c
        have : k = .free := by
          have c1 := (Bool.and_eq_true_iff.mp (Bool.and_eq_true_iff.mp c).1).1
          cases k <;> first | rfl | exact absurd c1 (by decide)
        exact .inr ⟨this, by rw [List.lookup_cons, hx]⟩
      · exact .inl (by rw [List.lookup_cons, hx])
    · have hx' : (x == n) = false := by simpa using hx
      rw [hx'] at h
      have q := ih h
      split
      · rw [List.lookup_cons, hx']; exact q
      · rw [List.lookup_cons, hx']; exact q
theorem scR_relabel (sc : Scope) (env : Env) : ScR sc (relabel sc env) := fun x kd h => relabel_kind h
/-- a comprehension's block -/
theorem Sit.blk {g : Gb} {k : Nat} {N : List Str} {vis loc : List Nat} {gl : List Str} {sc : Scope} {X : Cx} (S : Sit g k N vis loc gl sc X) {vis' loc' : List Nat} {gl' : List Str} {scope : Scope} (h : sitB scope N vis' loc' gl' = true)
    (s : Shared) (H : Hp) (C : Addr) (cl : List (Str × Addr)) (fp : List Addr) : Sit g k N vis' loc' gl' scope (X.blk s H scope (compEnvC scope cl C X.env) fp) :=
  sit_of h S.hP S.hw S.hK S.hmg S.hb S.hN S.nd (scR_relabel scope X.env) (fun q => q) S.calm S.room rfl fun x e => by
    show (scope.names.lookup x == some .cell) = true
    rw [e]; rfl
theorem Sit.blkOk {g : Gb} {k : Nat} {N : List Str} {vis loc : List Nat} {gl : List Str} {sc : Scope} {X : Cx} (S : Sit g k N vis loc gl sc X) {scope : Scope} {own : List (Str × Nat)} (h : blkC N sc scope own = true) : BlkOk X.N X.env.scope scope own := by
  obtain ⟨a, b, c, d, e⟩ := blkOk_by h
  rw [S.hN]
  refine ⟨a, b, c, fun y hy hk => ?_, e⟩
  rcases d y hy hk with z | z
  · exact .inl (S.hsc.same z (by decide))
  · rcases S.hsc _ _ z with q | ⟨_, q⟩
    · exact .inr q
    · exact .inl q
/-- a def's body -/
theorem sit_fn {g : Gb} {k : Nat} {N : List Str} {vis loc : List Nat} {gl : List Str} {sc : Scope} {qual : Str} {f : Addr} {cd : Value} {A : Around} {outer : List Env} {s : Shared} {H : Hp} {EX : XK} (h : sitB sc N vis loc gl = true) (nd : N.Nodup)
    (room : Room k (A.deeper (PyProof.Rows.envOfC qual sc s.heap.objs.size f cd))) : Sit g k N vis loc gl sc (cxOf CX0 g.P g.w g.K g.mg g.base N qual sc f cd A outer s H EX).nox :=
  sit_of h rfl rfl rfl rfl rfl rfl nd (fun x kd e => .inl e) (fun q => q) rfl room rfl fun _ _ => rfl
end Mb
set_option maxHeartbeats 4000000
namespace Mb
open PySem PySem.Spec L2
/-! ### statements -/
section
variable {g : Gb} {k : Nat} {N : List Str} {vis loc : List Nat} {gl : List Str} {sc : Scope} {X : Cx} {ρ : Ro} {μ : Mu} {R : AE} {pos : Pos} {e : Expr} {a b : List Stmt}
theorem VQ.toR {H : Hp} {P : AQ} {u : V} {H1 : Hp} (h : VQ g μ H P u H1) : VQ g μ H P u H1 := h
theorem ws_pass (q : R.nx ρ μ) : WS g X (.Pass pos) ρ μ R := fun σ H at_ => ES.of ps_pass (show RQ g μ H R.nx σ H from ⟨ρ, μ, .refl _ _, at_, q⟩)
theorem ws_ret (h : W g X e ρ μ R.rt) : WS g X (.Return (some e) pos) ρ μ R := fun σ H at_ => ES.of (ps_ret (E.pe X e)) (h σ H at_)
theorem ws_retN (q : R.rt .non μ) : WS g X (.Return none pos) ρ μ R := fun σ H at_ => ES.of ps_retN (show VQ g μ H R.rt .non H from ⟨.non, μ, .refl _ _, at_.mu, rfl, q⟩)
theorem ws_expr (h : W g X e ρ μ fun _ m => R.nx ρ m) (hs : swapsWith e none pos.line X.env = pure false := by rfl) : WS g X (.Expr e pos) ρ μ R := fun σ H at_ =>
  ES.of (ps_expr (E.pe X e) hs) (h.then at_ fun d m u H1 G a1 r1 q => show RQ g μ H R.nx σ H1 from ⟨ρ, m, G, a1, q⟩)
theorem en_tr {H : Hp} {μ1 : Mu} {H1 H2 : Hp} {σ : L2.St} {sts : List Stmt} (G : Gs μ μ1 H H1) (h : ESs X sts (EN g μ1 H1 R) σ H2) : ESs X sts (EN g μ H R) σ H2 := ESs.tr G h
theorem ws_if {c : Expr} (h : WT g X c ρ μ fun t m => if t = true then WB g X a ρ m R else WB g X b ρ m R) : WS g X (.If c a b pos) ρ μ R := fun σ H at_ =>
  ES.of (ps_if (ET.pt X c) (ESs.pss X a) (ESs.pss X b)) (h.then at_ fun t m H1 G a1 q => by
    cases t with
    | true => exact ESs.tr G (q σ H1 a1)
    | false => exact ESs.tr G (q σ H1 a1))
/-- a statement that is never come to -/
theorem wb_not {sts : List Stmt} (h : False) : WB g X sts ρ μ R := h.elim
theorem ws_set (S : Sit g k N vis loc gl sc X) (i : Nat) {x : Str} {pos' : Pos} (hl : loc.elem i = true) (hN : N[i]? = some x) (h : W g X e ρ μ fun d m => R.nx (ρ.set i (some d)) m)
    (hs : swapsWith e (some (.Name x pos')) pos.line X.env = pure false := by rfl) : WS g X (.Assign [.Name x pos'] e pos) ρ μ R := fun σ H at_ => by
  obtain ⟨h1, h2⟩ := S.hl i x hl hN
  refine ES.of (ps_set (i := i) (by rw [S.hN]; exact S.nd) (by rw [S.hN]; exact hN) h1 (E.pe X e) hs h2) ?_
  exact h.then at_ fun d m u H1 G a1 r1 q => show RQ g μ H R.nx _ H1 from ⟨_, m, G, a1.set i r1, q⟩
/-! ### a new thing that is to be changed -/
theorem gs_alloc {H : Hp} {p : Addr} {o : HO} {c : MC} (h : H p = none) : Gs μ (up μ p c) H (upd H p o) := fun x u e n =>
  ⟨by rw [upd_ne (ne_of_none e h)]; exact e, by rw [up_ne (ne_of_none e h)]; exact n⟩
theorem mk_alloc {H : Hp} {p : Addr} {o : HO} {c : MC} (m : Mk g μ H) (h : H p = none) (n : MOk g (up μ p c) (upd H p o) p c) : Mk g (up μ p c) (upd H p o) := fun x u e => by
  by_cases hx : x = p
  · subst hx; rw [up_same] at e; cases e; exact n
  · rw [up_ne hx] at e
    exact (m x u e).mono (gs_alloc h) (upd_ne hx)
/-- what is being changed is changed -/
theorem gs_write {H : Hp} {p : Addr} {o : HO} {c c' : MC} (h : μ p = some c) : Gs μ (up μ p c') H (upd H p o) := fun x u e n => by
  have hx : x ≠ p := fun q => by subst q; rw [h] at n; cases n
  exact ⟨by rw [upd_ne hx]; exact e, by rw [up_ne hx]; exact n⟩
theorem mk_write {H : Hp} {p : Addr} {o : HO} {c c' : MC} (m : Mk g μ H) (h : μ p = some c) (n : MOk g (up μ p c') (upd H p o) p c') : Mk g (up μ p c') (upd H p o) := fun x u e => by
  by_cases hx : x = p
  · subst hx; rw [up_same] at e; cases e; exact n
  · rw [up_ne hx] at e
    exact (m x u e).mono (gs_write h) (upd_ne hx)
/-- x = [..], to be changed -/
theorem ws_setL (S : Sit g k N vis loc gl sc X) (i : Nat) {x : Str} {pos' lp : Pos} {es : List Expr} (hl : loc.elem i = true) (hN : N[i]? = some x) (h : WA g X es ρ μ fun ds m => ds.length ≤ 1000 ∧ ∀ p, m p = none → R.nx (ρ.set i (some (.ptr p))) (up m p (.lst ds))) : WS g X (.Assign [.Name x pos'] (.List es lp) pos) ρ μ R := fun σ H at_ => by
  obtain ⟨h1, h2⟩ := S.hl i x hl hN
  refine ES.of (ps_set (i := i) (by rw [S.hN]; exact S.nd) (by rw [S.hN]; exact hN) h1 (pe_lst (EA.pa X es)) rfl h2) ?_
  refine h.then at_ fun ds m us H1 G a1 r1 ⟨hz, q⟩ => ⟨by rw [← rps_length r1]; exact Nat.le_trans hz (by decide), fun p hp => ?_⟩
  have G2 : Gs m (up m p (.lst ds)) H1 (upd H1 p (.lst us)) := gs_alloc hp
  refine show RQ g μ H R.nx _ _ from ⟨_, _, G.trans G2, (a1.go G2 (mk_alloc a1.mu hp ⟨us, upd_same, rps_mono G2 _ _ r1⟩)).set i (d := .ptr p) (v := .ref p) rfl, q p (a1.mu.new hp)⟩
/-- x = {}, to be changed -/
theorem ws_setD (S : Sit g k N vis loc gl sc X) (i : Nat) {x : Str} {pos' lp : Pos} (hl : loc.elem i = true) (hN : N[i]? = some x) (q : ∀ p, μ p = none → R.nx (ρ.set i (some (.ptr p))) (up μ p (.dic [] []))) : WS g X (.Assign [.Name x pos'] (.Dict [] [] lp) pos) ρ μ R := fun σ H at_ => by
  obtain ⟨h1, h2⟩ := S.hl i x hl hN
  refine ES.of (ps_set (i := i) (by rw [S.hN]; exact S.nd) (by rw [S.hN]; exact hN) h1 pe_dnewK rfl h2) ?_
  intro p hp
  have G2 : Gs μ (up μ p (.dic [] [])) H (upd H p (.dK [])) := gs_alloc hp
  exact show RQ g μ H R.nx _ _ from ⟨_, _, G2, (at_.go G2 (mk_alloc at_.mu hp ⟨[], upd_same, rfl, rfl⟩)).set i (d := .ptr p) (v := .ref p) rfl, q p (at_.mu.new hp)⟩
/-- what was being changed stands still from now on -/
def fz : MC → Option D
  | .lst ds => some (.lst ds)
  | .dic ks ds => some (.dic ks ds)
  | .ins C ns ds => some (.obj C ns ds)
  | .nst _ _ => none
theorem gs_dl {H : Hp} {p : Addr} : Gs μ (dl μ p) H H := fun x u e n => ⟨e, by
  by_cases hx : x = p
  · subst hx; exact dl_same
  · rw [dl_ne hx]; exact n⟩
theorem mk_dl {H : Hp} {p : Addr} (m : Mk g μ H) : Mk g (dl μ p) H := fun x u e => by
  by_cases hx : x = p
  · subst hx; rw [dl_same] at e; cases e
  · rw [dl_ne hx] at e; exact (m x u e).mono gs_dl rfl
theorem fz_rp {H : Hp} {p : Addr} {c : MC} {d : D} (m : Mk g μ H) (h : μ p = some c) (f : fz c = some d) : Rp g.K (dl μ p) H d (.ref p) := by
  have q := (m p c h).mono (gs_dl (p := p)) rfl
  cases c with
  | lst ds => cases f; obtain ⟨xs, h, r⟩ := q; exact ⟨p, xs, rfl, h, dl_same, r⟩
  | dic ks ds => cases f; obtain ⟨xs, h, l, r⟩ := q; exact ⟨p, xs, rfl, h, dl_same, l, r⟩
  | ins C ns ds => cases f; obtain ⟨dx, xs, h, l, r⟩ := q; exact ⟨p, dx, xs, rfl, h, dl_same, l, r⟩
  | nst ks ds => cases f
theorem At.frz {σ : L2.St} {H : Hp} {i : Nat} {p : Addr} {c : MC} {d : D} (at_ : At g ρ μ σ H) (hi : ρ[i]? = some (some (.ptr p))) (h : μ p = some c) (f : fz c = some d) : At g (ρ.set i (some d)) (dl μ p) σ H := by
  obtain ⟨v, hv, rv⟩ := at_.env i _ hi
  have hv2 : σ[i]? = some (some (.ref p)) := by
    have : v = .ref p := rv
    rw [hv, this]
  have q := (at_.go gs_dl (mk_dl at_.mu)).set i (fz_rp at_.mu h f)
  have e : σ.set i (some (.ref p)) = σ := List.ext_getElem? fun j => by
    by_cases hj : i = j
    · subst hj
      have hz : i < σ.length := (List.getElem?_eq_some_iff.mp hv2).1
      rw [List.getElem?_set_self hz, hv2]
    · rw [List.getElem?_set_ne hj]
  rw [e] at q
  exact q
theorem wb_frz {sts : List Stmt} (i : Nat) {p : Addr} {c : MC} {d : D} (hi : ρ[i]? = some (some (.ptr p))) (h : μ p = some c) (f : fz c = some d) (q : WB g X sts (ρ.set i (some d)) (dl μ p) R) : WB g X sts ρ μ R := fun σ H at_ =>
  ESs.tr gs_dl (q σ H (at_.frz hi h f))
/-- .. a field's object -/
theorem wb_frzF {sts : List Stmt} {p l : Addr} {C : Addr} {ns : List Str} {ds : List D} {c : MC} {d : D} (j : Nat) (hp : μ p = some (.ins C ns ds)) (hj : ds[j]? = some (.ptr l)) (h : μ l = some c) (f : fz c = some d) (ne : p ≠ l)
    (q : WB g X sts ρ (up (dl μ l) p (.ins C ns (ds.set j d))) R) : WB g X sts ρ μ R := fun σ H at_ => by
  have G1 : Gs μ (dl μ l) H H := gs_dl
  have m1 : Mk g (dl μ l) H := mk_dl at_.mu
  have hp1 : dl μ l p = some (.ins C ns ds) := by rw [dl_ne ne]; exact hp
  obtain ⟨dx, xs, hx, hl, r⟩ := m1 p _ hp1
  obtain ⟨v, hv, rv⟩ := rps_get r hj
  have ev : v = .ref l := rv
  have exs : xs.set j (.ref l) = xs := List.ext_getElem? fun i => by
    by_cases hji : j = i
    · subst hji
      have hz : j < xs.length := (List.getElem?_eq_some_iff.mp hv).1
      rw [List.getElem?_set_self hz, hv, ev]
    · rw [List.getElem?_set_ne hji]
  have G2 : Gs (dl μ l) (up (dl μ l) p (.ins C ns (ds.set j d))) H H := fun x u e n => by
    have hx : x ≠ p := fun q => by subst q; rw [hp1] at n; cases n
    exact ⟨e, by rw [up_ne hx]; exact n⟩
  have rd := fz_rp at_.mu h f
  have m2 : Mk g (up (dl μ l) p (.ins C ns (ds.set j d))) H := fun x u e => by
    by_cases hx' : x = p
    · subst hx'; rw [up_same] at e; cases e
      refine ⟨dx, xs, hx, hl, ?_⟩
      have := rps_set j r rd
      rw [exs] at this
      exact rps_mono G2 _ _ this
    · rw [up_ne hx'] at e; exact (m1 x u e).mono G2 rfl
  exact ESs.tr (G1.trans G2) (q σ H ((at_.go G1 m1).go G2 m2))
end
end Mb
set_option maxHeartbeats 4000000
namespace Mb
open PySem PySem.Spec L2
/-! ### targets -/
def EG (X : Cx) (tg : Expr) : TG := fun v σ H Q => ∀ (pins : List (Addr × Obj)) (s : Shared) (u : Value), Inv X pins σ H s → RelV v u → wpAny (model X.prog X.w) X.A (assign tg X.env u) (fun _ s' => ∃ σ' H', Inv X pins σ' H' s' ∧ Q σ' H') X.xe s
theorem EG.pg (X : Cx) (tg : Expr) : PG X tg (EG X tg) := ⟨fun pins s _ _ _ _ _ I r h => h pins s _ I r⟩
theorem EG.of {X : Cx} {tg : Expr} {t : TG} (p : PG X tg t) {σ : L2.St} {H : Hp} {v : V} {Q : L2.St → Hp → Prop} (h : t v σ H Q) : EG X tg v σ H Q := fun pins s u I r => p.run pins s σ H v u Q I r h
theorem EG.mono {X : Cx} {tg : Expr} {σ : L2.St} {H : Hp} {v : V} {Q Q' : L2.St → Hp → Prop} (h : EG X tg v σ H Q) (k : ∀ σ H, Q σ H → Q' σ H) : EG X tg v σ H Q' := fun pins s u I r => thn (h pins s u I r) fun _ s' ⟨a, b, c, d⟩ => ⟨a, b, c, k _ _ d⟩
def EGs (X : Cx) (ts : List Expr) : TGs := fun vs σ H Q => ∀ (pins : List (Addr × Obj)) (s : Shared) (us : List Value), Inv X pins σ H s → Vals vs us → wpAny (model X.prog X.w) X.A (assignInOrder ((assignEach ts X.env).map (·.2)) us) (fun _ s' => ∃ σ' H', Inv X pins σ' H' s' ∧ Q σ' H') X.xe s
theorem EGs.pgs (X : Cx) (ts : List Expr) : PGs X ts (EGs X ts) := ⟨fun pins s _ _ _ _ _ I r h => h pins s _ I r⟩
theorem EGs.of {X : Cx} {ts : List Expr} {t : TGs} (p : PGs X ts t) {σ : L2.St} {H : Hp} {v : List V} {Q : L2.St → Hp → Prop} (h : t v σ H Q) : EGs X ts v σ H Q := fun pins s u I r => p.run pins s σ H v u Q I r h
/-- the slots that may be stored: any, or these -/
def okc (cs : Option (List Nat)) (i : Nat) : Bool := match cs with
  | none => true
  | some l => l.elem i
def Chg (cs : Option (List Nat)) (σ σ' : L2.St) : Prop := σ'.length = σ.length ∧ ∀ j, okc cs j = false → σ'[j]? = σ[j]?
def WG (g : Gb) (X : Cx) (cs : Option (List Nat)) (tg : Expr) (d : D) (ρ : Ro) (μ : Mu) (q : Ro → Prop) : Prop := ∀ σ H v, At g ρ μ σ H → Rp g.K μ H d v → EG X tg v σ H fun σ' H' => H' = H ∧ Chg cs σ σ' ∧ ∃ ρ', At g ρ' μ σ' H ∧ q ρ'
def WGs (g : Gb) (X : Cx) (cs : Option (List Nat)) (ts : List Expr) (ds : List D) (ρ : Ro) (μ : Mu) (q : Ro → Prop) : Prop := ∀ σ H vs, At g ρ μ σ H → Rps g.K μ H ds vs → EGs X ts vs σ H fun σ' H' => H' = H ∧ Chg cs σ σ' ∧ ∃ ρ', At g ρ' μ σ' H ∧ q ρ'
section
variable {g : Gb} {k : Nat} {N : List Str} {vis loc : List Nat} {gl : List Str} {sc : Scope} {X : Cx} {ρ : Ro} {μ : Mu} {R : AE} {pos : Pos} {e : Expr} {d : D} {ds : List D} {q : Ro → Prop}
variable {cs : Option (List Nat)}
theorem wg_name (S : Sit g k N vis loc gl sc X) (i : Nat) {x : Str} (hl : loc.elem i = true) (hN : N[i]? = some x) (hc : okc cs i = true) (h : q (ρ.set i (some d))) : WG g X cs (.Name x pos) d ρ μ q := fun σ H v at_ r => by
  obtain ⟨h1, h2⟩ := S.hl i x hl hN
  refine EG.of (pg_name (i := i) (by rw [S.hN]; exact S.nd) (by rw [S.hN]; exact hN) h1 h2) (show _ ∧ _ from ⟨rfl, ⟨by simp, fun j hj => ?_⟩, _, at_.set i r, h⟩)
  refine List.getElem?_set_ne fun e => ?_
  subst e; rw [hc] at hj; cases hj
theorem wgs_nil (h : q ρ) : WGs g X cs [] [] ρ μ q := fun σ H vs at_ r => by cases r; exact EGs.of pgs_nil ⟨rfl, rfl, ⟨rfl, fun _ _ => rfl⟩, ρ, at_, h⟩
theorem wgs_cons {ts : List Expr} (h : WG g X cs e d ρ μ fun ρ' => WGs g X cs ts ds ρ' μ q) (hs : (assignEach (e :: ts) X.env).map (·.2) = assign e X.env :: (assignEach ts X.env).map (·.2) := by rfl) : WGs g X cs (e :: ts) (d :: ds) ρ μ q := fun σ H vs at_ r => by
  obtain ⟨v, rest, ev, rv, rr⟩ := r
  subst ev
  refine EGs.of (pgs_cons (EG.pg X e) (EGs.pgs X ts) hs) ⟨v, rest, rfl, (h σ H v at_ rv).mono fun σ' H' ⟨eH, c1, ρ', a', hh⟩ => ?_⟩
  subst eH
  intro pins s us I r
  exact thn (hh σ' H' rest a' rr pins s us I r) fun _ s' ⟨x, y, z, e2, c2, w⟩ => ⟨x, y, z, e2, ⟨c2.1.trans c1.1, fun j hj => (c2.2 j hj).trans (c1.2 j hj)⟩, w⟩
theorem wg_tup (S : Sit g k N vis loc gl sc X) {es : List Expr} {kk : Nat} {ds : List D} (h : WGs g X cs es ds ρ μ q) (hn : (assignEach es X.env).length = ds.length := by rfl) (hst : (assignEach es X.env).findIdx? (·.1) = none := by rfl) : WG g X cs (.Tuple es kk pos) (.tup ds) ρ μ q := fun σ H v at_ r => by
  obtain ⟨a, xs, ev, t, rr⟩ := r
  subst ev
  refine EG.of (pg_tup S.calm (EGs.pgs X es) rfl hst) ⟨a, xs, rfl, S.hK ▸ t.sq, by rw [← rps_length rr, hn], h σ H xs at_ rr⟩
/-- a, b = e -/
theorem ws_unp {tg : Expr} (h : W g X e ρ μ fun d m => WG g X none tg d ρ m fun ρ' => R.nx ρ' m) (hs : swapsWithSole [tg] e pos.line X.env = pure false := by rfl) (hw : swappedStores [tg] e X.env = pure none := by rfl)
    (h1 : (assignEach [tg] X.env).map (·.2) = [assign tg X.env] := by rfl) : WS g X (.Assign [tg] e pos) ρ μ R := fun σ H at_ =>
  ES.of (ps_asg (E.pe X e) (EG.pg X tg) hs hw h1) (h.then at_ fun d m u H1 G a1 r1 hh => (hh σ H1 u a1 r1).mono fun σ' H' ⟨eH, _, ρ', a', qq⟩ => by
    subst eH
    exact ⟨ρ', m, G, a', qq⟩)
/-! ### what is walked -/
structure WalkD (g : Gb) (J : It) (ds : List D) (μ : Mu) (H1 : Hp) : Prop where
  goes : ∀ i μ' H', i < ds.length → Gs μ μ' H1 H' → J.go i H'
  stops : ∀ μ' H', Gs μ μ' H1 H' → J.stop ds.length H'
  yields : ∀ i x μ' H' H'', i < ds.length → Gs μ μ' H1 H' → Mk g μ' H' → J.yld i H' x H'' → ∃ d, ds[i]? = some d ∧ Gs μ' μ' H' H'' ∧ Mk g μ' H'' ∧ Rp g.K μ' H'' d x
def EI (X : Cx) (tg iter : Expr) : TI := fun σ H R => ∀ (pins : List (Addr × Obj)) (s : Shared), Inv X pins σ H s →
    wpAny (model X.prog X.w) X.A (eval iter X.env) (fun v s1 => wpAny (model X.prog X.w) X.A (pyIter v) (PIE X pins σ tg R) X.xe s1) X.xe s
theorem EI.pi (X : Cx) (tg iter : Expr) : PI X tg iter (EI X tg iter) := ⟨fun pins s _ _ _ I h => h pins s I⟩
theorem EI.of {X : Cx} {tg iter : Expr} {t : TI} (p : PI X tg iter t) {σ : L2.St} {H : Hp} {Q : It → Hp → Prop} (h : t σ H Q) : EI X tg iter σ H Q := fun pins s I => p.run pins s σ H Q I h
def WI (g : Gb) (X : Cx) (tg iter : Expr) (ρ : Ro) (μ : Mu) (P : List D → Mu → Prop) : Prop := ∀ σ H, At g ρ μ σ H → EI X tg iter σ H fun J H' => ∃ ds m, Gs μ m H H' ∧ Mk g m H' ∧ WalkD g J ds m H' ∧ P ds m
theorem walkD_list {a : Addr} {xs : List V} {H1 : Hp} (hx : LstAt g.K μ H1 a xs) (r : Rps g.K μ H1 ds xs) : WalkD g (Itl g.K a) ds μ H1 := by
  have w := walk_list (K := g.K) (a := a) (xs := xs)
  have hl := rps_length r
  refine ⟨fun i μ' H' hi G => w.goes i H' (by omega) (G.lst hx).sq, fun μ' H' G => hl ▸ w.stops H' (G.lst hx).sq, fun i x μ' H' H'' hi G m y => ?_⟩
  obtain ⟨e, z⟩ := w.yields i H' x H'' (by omega) (G.lst hx).sq y
  subst e
  obtain ⟨d, hd, rd⟩ := rps_get' r z
  exact ⟨d, hd, .refl _ _, m, rp_mono G _ _ rd⟩
theorem walkD_tup {a : Addr} {xs : List V} {H1 : Hp} (hx : TupAt g.K μ H1 a xs) (r : Rps g.K μ H1 ds xs) : WalkD g (Itt g.K a) ds μ H1 := by
  have w := walk_tup (K := g.K) (a := a) (xs := xs)
  have hl := rps_length r
  refine ⟨fun i μ' H' hi G => w.goes i H' (by omega) (G.tup hx).sq, fun μ' H' G => hl ▸ w.stops H' (G.tup hx).sq, fun i x μ' H' H'' hi G m y => ?_⟩
  obtain ⟨e, z⟩ := w.yields i H' x H'' (by omega) (G.tup hx).sq y
  subst e
  obtain ⟨d, hd, rd⟩ := rps_get' r z
  exact ⟨d, hd, .refl _ _, m, rp_mono G _ _ rd⟩
/-- over data that is a list, a tuple -/
theorem wi_lst (S : Sit g k N vis loc gl sc X) {tg it : Expr} {P : List D → Mu → Prop} (h : W g X it ρ μ fun d m => ∃ ds, d = .lst ds ∧ P ds m) : WI g X tg it ρ μ P := fun σ H at_ =>
  EI.of (pi_list (E.pe X it)) (h.then at_ fun d m u H1 G a1 r1 ⟨ds, e, p⟩ => by
    subst e
    obtain ⟨a, xs, ev, hx, n, rr⟩ := r1
    refine ⟨a, ev, ⟨xs, S.hK ▸ SqL.of hx⟩, ds, m, G, a1.mu, ?_, p⟩
    rw [S.hK]
    exact walkD_list (.inl ⟨.inl hx, n⟩) rr)
theorem wi_tup (S : Sit g k N vis loc gl sc X) {tg it : Expr} {P : List D → Mu → Prop} (h : W g X it ρ μ fun d m => ∃ ds, d = .tup ds ∧ P ds m) : WI g X tg it ρ μ P := fun σ H at_ =>
  EI.of (pi_tup (E.pe X it)) (h.then at_ fun d m u H1 G a1 r1 ⟨ds, e, p⟩ => by
    subst e
    obtain ⟨a, xs, ev, hx, rr⟩ := r1
    refine ⟨a, ev, ⟨xs, S.hK ▸ hx.sq⟩, ds, m, G, a1.mu, ?_, p⟩
    rw [S.hK]
    exact walkD_tup hx rr)
def rngD (lo : Int) (n : Nat) : List D := (List.range n).map fun i => .int (lo + (i : Nat))
theorem rngD_get {lo : Int} {n i : Nat} (h : i < n) : (rngD lo n)[i]? = some (.int (lo + (i : Nat))) := by
  unfold rngD; rw [List.getElem?_map, List.getElem?_range h]; rfl
theorem rngD_len {lo : Int} {n : Nat} : (rngD lo n).length = n := by unfold rngD; simp
theorem wi_range (S : Sit g k N vis loc gl sc X) {tg : Expr} {p : Pos} {P : List D → Mu → Prop} (j : Nat) (hj : gl[j]? = some ("range" : Str)) (hm : g.mg "range" = none)
    (h : W g X e ρ μ fun d m => ∃ i, d = .int i ∧ -(2 ^ 62) ≤ i ∧ i < 2 ^ 62 ∧ P (rngD 0 i.toNat) m) (hs : starEach [e] X.env = [(false, eval e X.env)] := by rfl) : WI g X tg (.Call (.Name "range" p) [e] [] pos) ρ μ P := fun σ H at_ => by
  refine EI.of (pi_range1 (S.hg j _ hj).1 (by rw [S.hmg]; exact hm) (pa_cons (E.pe X e) pa_nil hs) hs) ?_
  refine h.then at_ fun d m u H1 G a1 r1 ⟨i, e1, h1, h2, p⟩ => ?_
  subst e1
  have eu : u = .int i := r1
  refine ⟨i, by rw [eu], h1, h2, rngD 0 i.toNat, m, G, a1.mu, ⟨fun j μ' H' hj _ => ?_, fun μ' H' _ => ?_, fun j x μ' H' H'' hj _ mm y => ?_⟩, p⟩
  · exact walk_range.goes j H' (by rw [rngD_len] at hj; exact hj) trivial
  · rw [rngD_len]; exact walk_range.stops H' trivial
  · rw [rngD_len] at hj
    obtain ⟨e2, e3⟩ := walk_range.yields j H' x H'' hj trivial y
    subst e2
    exact ⟨_, rngD_get hj, .refl _ _, mm, e3⟩
/-! ### for -/
theorem ws_for (S : Sit g k N vis loc gl sc X) {tg iter : Expr} {body : List Stmt} (h : WI g X tg iter ρ μ fun ds m => ∃ I : Nat → Ro → Mu → Prop, I 0 ρ m ∧
      (∀ i d ρ' m', ds[i]? = some d → I i ρ' m' → WG g X none tg d ρ' m' fun ρ2 => WB g X body ρ2 m' { R with nx := I (i + 1), ct := I (i + 1), bk := R.nx }) ∧ ∀ ρ' m', I ds.length ρ' m' → R.nx ρ' m')
    (hs : ∀ x, foldedSetIterable iter X.env x = pure x := by intro _; rfl) : WS g X (.For tg iter body [] pos) ρ μ R := fun σ H at_ => by
  have hx := S.xe
  refine ES.of (ps_for (by rw [hx]; exact PassesOwn.never) S.calm (EI.pi X tg iter) (EG.pg X tg) (ESs.pss X body) hs) ?_
  intro pins s In
  refine thn (h σ H at_ pins s In) fun v s1 h1 => thn h1 fun itv s2 ⟨it, fp, tn, J, H', e1, I2, T, t0, f0, ds, m, G, M, w, I, i0, turn, done⟩ => ⟨it, fp, tn, J, H', e1, I2, T, t0, f0, ?_⟩
  have a1 := at_.go G M
  refine ⟨fun i n σ' H2 => n = ds.length - i ∧ i ≤ ds.length ∧ ∃ ρ' m', Gs m m' H' H2 ∧ At g ρ' m' σ' H2 ∧ I i ρ' m', ⟨ds.length, rfl, Nat.zero_le _, ρ, m, .refl _ _, a1, i0⟩, ?_⟩
  rintro i n σ' H2 ⟨rfl, hi, ρ', m', G2, a2, ii⟩
  by_cases hlt : i < ds.length
  · refine .inr ⟨w.goes i m' H2 hlt G2, fun σ3 H3 => ∃ ρ3 m3, Gs m m3 H' H3 ∧ At g ρ3 m3 σ3 H3 ∧ I (i + 1) ρ3 m3, fun σ3 H3 ⟨ρ3, m3, G3, a3, i3⟩ => ⟨ds.length - (i + 1), by omega, rfl, hlt, ρ3, m3, G3, a3, i3⟩, fun x H3 y => ?_⟩
    obtain ⟨d, hd, G3, M3, rd⟩ := w.yields i x m' H2 H3 hlt G2 a2.mu y
    refine (turn i d ρ' m' hd ii σ' H3 x (a2.go G3 M3) rd).mono fun σ4 H4 ⟨e4, _, ρ4, a4, wb⟩ => ?_
    subst e4
    have G4 : Gs m m' H' H4 := G2.trans G3
    exact (wb σ4 H4 a4).mono (fun σ5 H5 ⟨ρ5, m5, G5, a5, q5⟩ => ⟨ρ5, m5, G4.trans G5, a5, q5⟩) (fun v5 H5 q5 => VQ.tr (G.trans G4) q5) (fun σ5 H5 q5 => RQ.tr (G.trans G4) q5) fun σ5 H5 ⟨ρ5, m5, G5, a5, q5⟩ => ⟨ρ5, m5, G4.trans G5, a5, q5⟩
  · have e : i = ds.length := by omega
    subst e
    exact .inl ⟨w.stops m' H2 G2, show RQ g μ H R.nx σ' H2 from ⟨ρ', m', G.trans G2, a2, done ρ' m' ii⟩⟩
/-- while, by a measure -/
theorem ws_while (S : Sit g k N vis loc gl sc X) {c : Expr} {body : List Stmt} (I : Nat → Ro → Mu → Prop) (n0 : Nat) (i0 : I n0 ρ μ)
    (turn : ∀ n ρ' m', I n ρ' m' → WT g X c ρ' m' fun t m2 => if t = true then WB g X body ρ' m2 { R with nx := fun ρ3 m3 => ∃ n', n' < n ∧ I n' ρ3 m3, ct := fun ρ3 m3 => ∃ n', n' < n ∧ I n' ρ3 m3, bk := R.nx } else R.nx ρ' m2) : WS g X (.While c body [] pos) ρ μ R := fun σ H at_ => by
  have hx := S.xe
  refine ES.of (ps_while (by rw [hx]; exact PassesOwn.never) (ET.pt X c) (ESs.pss X body)) ?_
  refine ⟨fun n σ' H' => ∃ ρ' m', Gs μ m' H H' ∧ At g ρ' m' σ' H' ∧ I n ρ' m', ⟨n0, ρ, μ, .refl _ _, at_, i0⟩, fun n σ' H' ⟨ρ', m', G, a, ii⟩ => ?_⟩
  refine (turn n ρ' m' ii).then a fun t m2 H2 G2 a2 q => ?_
  cases t with
  | true =>
    refine ⟨fun σ3 H3 => ∃ ρ3 m3, Gs μ m3 H H3 ∧ At g ρ3 m3 σ3 H3 ∧ ∃ n', n' < n ∧ I n' ρ3 m3, fun σ3 H3 ⟨ρ3, m3, G3, a3, n', hn, i3⟩ => ⟨n', hn, ρ3, m3, G3, a3, i3⟩, ?_⟩
    have G4 := G.trans G2
    exact (q σ' H2 a2).mono (fun σ5 H5 ⟨ρ5, m5, G5, a5, q5⟩ => ⟨ρ5, m5, G4.trans G5, a5, q5⟩) (fun v5 H5 q5 => VQ.tr G4 q5) (fun σ5 H5 q5 => RQ.tr G4 q5) fun σ5 H5 ⟨ρ5, m5, G5, a5, q5⟩ => ⟨ρ5, m5, G4.trans G5, a5, q5⟩
  | false => exact show RQ g μ H R.nx σ' H2 from ⟨ρ', m2, G.trans G2, a2, q⟩
end
end Mb
set_option maxHeartbeats 4000000
namespace Mb
open PySem PySem.Spec L2
/-! ### comprehensions -/
def wipeR (ρ : Ro) : List Nat → Ro
  | [] => ρ
  | v :: vs => (wipeR ρ vs).set v none
theorem wipeR_len (ρ : Ro) : ∀ vs : List Nat, (wipeR ρ vs).length = ρ.length
  | [] => rfl
  | v :: vs => by unfold wipeR; rw [List.length_set, wipeR_len ρ vs]
theorem wipe_get (σ : L2.St) : ∀ (vs : List Nat) (j : Nat), (wipe σ vs)[j]? = if vs.elem j = true ∧ j < σ.length then some none else σ[j]?
  | [], j => by simp [wipe]
  | v :: vs, j => by
    unfold wipe
    have ih := wipe_get σ vs j
    have hl := wipe_length σ vs
    by_cases hv : v = j
    · subst hv
      by_cases hj : v < σ.length
      · rw [List.getElem?_set_self (by omega), if_pos ⟨by simp, hj⟩]
      · rw [if_neg (fun z => hj z.2), List.getElem?_eq_none (by rw [List.length_set]; omega), List.getElem?_eq_none (by omega)]
    · rw [List.getElem?_set_ne hv, ih]
      have : (v :: vs).elem j = vs.elem j := by
        rw [List.elem_cons, show (j == v) = false by simpa using Ne.symm hv]
      rw [this]
theorem wipeR_get {ρ : Ro} {d : D} : ∀ {vs : List Nat} {j : Nat}, (wipeR ρ vs)[j]? = some (some d) → ρ[j]? = some (some d) ∧ vs.elem j = false
  | [], j, h => ⟨h, rfl⟩
  | v :: vs, j, h => by
    unfold wipeR at h
    by_cases hv : v = j
    · subst hv
      by_cases hj : v < (wipeR ρ vs).length
      · rw [List.getElem?_set_self hj] at h; cases h
      · rw [List.getElem?_eq_none (by rw [List.length_set]; omega)] at h; cases h
    · rw [List.getElem?_set_ne hv] at h
      obtain ⟨h1, h2⟩ := wipeR_get h
      exact ⟨h1, by simp only [List.elem_cons, show (j == v) = false by simpa using Ne.symm hv, h2]⟩
theorem At.wipe {g : Gb} {ρ : Ro} {μ : Mu} {σ : L2.St} {H : Hp} (a : At g ρ μ σ H) (vs : List Nat) : At g (wipeR ρ vs) μ (L2.wipe σ vs) H :=
  ⟨by rw [wipe_length, wipeR_len]; exact a.len, fun i d e => by
    obtain ⟨h1, h2⟩ := wipeR_get e
    obtain ⟨v, hv, rv⟩ := a.env i d h1
    refine ⟨v, ?_, rv⟩
    rw [wipe_get, if_neg (fun z => by rw [h2] at z; exact absurd z.1 (by decide))]
    exact hv, a.mu⟩
theorem wipe_chg {σ σ2 : L2.St} {vs : List Nat} (h : Chg (some vs) (wipe σ vs) σ2) : wipe σ2 vs = wipe σ vs := by
  have hl := h.1
  refine List.ext_getElem? fun j => ?_
  rw [wipe_get, wipe_get]
  rw [wipe_length] at hl
  cases e : vs.elem j with
  | true =>
    by_cases hj : j < σ.length
    · rw [if_pos ⟨rfl, by omega⟩, if_pos ⟨rfl, hj⟩]
    · rw [if_neg (fun z => hj (by omega)), if_neg (fun z => hj z.2), List.getElem?_eq_none (by omega), List.getElem?_eq_none (by omega)]
  | false =>
    rw [if_neg (fun z => absurd z.1 (by decide)), if_neg (fun z => absurd z.1 (by decide)), h.2 j e, wipe_get, if_neg (fun z => by rw [e] at z; exact absurd z.1 (by decide))]
def gB (X : Cx) (scope : Scope) (tg : Expr) : TG := fun v σ H Q => ∀ (s : Shared) (H0 : Hp) (C : Addr) (cl : List (Str × Addr)) (fp : List Addr), EG (X.blk s H0 scope (compEnvC scope cl C X.env) fp) tg v σ H Q
def eB (X : Cx) (scope : Scope) (e : Expr) : TE := fun σ H Q => ∀ (s : Shared) (H0 : Hp) (C : Addr) (cl : List (Str × Addr)) (fp : List Addr), E (X.blk s H0 scope (compEnvC scope cl C X.env) fp) e σ H Q
def tB1 (X : Cx) (scope : Scope) (e : Expr) : TT := fun σ H Q => ∀ (s : Shared) (H0 : Hp) (C : Addr) (cl : List (Str × Addr)) (fp : List Addr), ET (X.blk s H0 scope (compEnvC scope cl C X.env) fp) e σ H Q
section
variable {g : Gb} {k : Nat} {N : List Str} {vis loc : List Nat} {gl : List Str} {sc : Scope} {X : Cx} {ρ : Ro} {μ : Mu} {R : AE} {pos : Pos} {Post : AQ} {elt tg iter cond : Expr} {scope : Scope} {own : List (Str × Nat)} {vis' loc' : List Nat} {gl' : List Str}
/-- a turn's test: none, or one -/
def WTs (g : Gb) (X : Cx) (ifs : List Expr) (ρ : Ro) (μ : Mu) (P : Bool → Mu → Prop) : Prop := match ifs with
  | [] => P true μ
  | [c] => WT g X c ρ μ P
  | _ => False
def tts (X : Cx) (scope : Scope) (ifs : List Expr) : TT := match ifs with
  | [] => tYes
  | [c] => tB1 X scope c
  | _ => fun _ _ _ => False
/-- what a comprehension asks: I by the turn, what is made so far, the store -/
def LcAsk (g : Gb) (k : Nat) (N : List Str) (vis' loc' : List Nat) (gl' : List Str) (scope : Scope) (vs : List Nat) (tg elt : Expr) (ifs : List Expr) (ρ : Ro) (Post : AQ) (ds : List D) (m : Mu) : Prop :=
  ds.length ≤ 1000000 ∧ ∃ I : Nat → List D → Mu → Prop, I 0 [] m ∧ (∀ i d acc m', ds[i]? = some d → I i acc m' → acc.length ≤ i → ∀ p, m' p = none → ∃ (ρ2 : Ro) (b0 : Bool),
      (∀ X', Sit g k N vis' loc' gl' scope X' → WG g X' (some vs) tg d (wipeR ρ vs) (up m' p (.lst acc)) (· = ρ2)) ∧
      (∀ X', Sit g k N vis' loc' gl' scope X' → WTs g X' ifs ρ2 (up m' p (.lst acc)) fun b n2 => b = b0 ∧ n2 = up m' p (.lst acc)) ∧
      if b0 = true then ∀ X', Sit g k N vis' loc' gl' scope X' → W g X' elt ρ2 (up m' p (.lst acc)) (fun e n3 => ∃ m3, n3 = up m3 p (.lst acc) ∧ m3 p = none ∧ I (i + 1) (acc ++ [e]) m3) else I (i + 1) acc m') ∧
    ∀ acc m', I ds.length acc m' → acc.length ≤ ds.length → Post (.lst acc) m'
theorem lc_read {ifs : List Expr} (S : Sit g k N vis loc gl sc X) (hs' : sitB scope N vis' loc' gl' = true) {vs : List Nat} (h : WI g X tg iter ρ μ (LcAsk g k N vis' loc' gl' scope vs tg elt ifs ρ Post)) {σ : L2.St} {H : Hp} (at_ : At g ρ μ σ H) {Q : VK}
    (kk : ∀ acc m' H' p, Gs μ m' H H' → Mk g m' H' → Rp g.K m' H' (.lst acc) (.ref p) → Post (.lst acc) m' → Q (.ref p) H') : tLc (EI X tg iter) (gB X scope tg) (tts X scope ifs) (eB X scope elt) vs σ H Q := by
  intro pins s In
  refine thn (h σ H at_ pins s In) fun v s1 h1 => thn h1 fun itv s2 ⟨it, fp, tn, J, H', e1, I2, T, t0, f0, ds, m, G, M, w, hlen, I, i0, turn, done⟩ => ⟨it, fp, tn, J, H', e1, I2, T, t0, f0, ?_⟩
  intro p hp
  have mp : m p = none := M.new hp
  refine ⟨fun i n H2 => n = ds.length - i ∧ i ≤ ds.length ∧ ∃ acc m', m' p = none ∧ Gs m (up m' p (.lst acc)) H' H2 ∧ Mk g (up m' p (.lst acc)) H2 ∧ I i acc m' ∧ acc.length ≤ i,
    ⟨ds.length, rfl, Nat.zero_le _, [], m, mp, gs_alloc hp, mk_alloc M hp ⟨[], upd_same, rfl⟩, i0, Nat.le_refl _⟩, ?_⟩
  rintro i n H2 ⟨rfl, hi, acc, m', hm, G2, M2, ii, hacc⟩
  by_cases hlt : i < ds.length
  · refine .inr ⟨w.goes i _ H2 hlt G2, fun H3 => ∃ acc m', m' p = none ∧ Gs m (up m' p (.lst acc)) H' H3 ∧ Mk g (up m' p (.lst acc)) H3 ∧ I (i + 1) acc m' ∧ acc.length ≤ i + 1,
      fun H3 ⟨acc3, m3, q1, q2, q3, q4, q5⟩ => ⟨ds.length - (i + 1), by omega, rfl, hlt, acc3, m3, q1, q2, q3, q4, q5⟩, fun x H3 y => ?_⟩
    obtain ⟨d, hd, G3, M3, rd⟩ := w.yields i x _ H2 H3 hlt G2 M2 y
    have G4 := G2.trans G3
    have a3 : At g (wipeR ρ vs) (up m' p (.lst acc)) (L2.wipe σ vs) H3 := (at_.go (G.trans G4) M3).wipe vs
    obtain ⟨ρ2, b0, t1, t2, t3⟩ := turn i d acc m' hd ii hacc p hm
    intro s5 H5 C5 cl5 fp5
    refine (t1 _ (S.blk hs' s5 H5 C5 cl5 fp5) _ H3 x a3 rd).mono fun σ4 H4 ⟨e4, ch, ρ4, a4, q⟩ => ?_
    subst e4 q
    refine ⟨wipe_chg ch, ?_⟩
    have fin : ∀ H6, Gs (up m' p (.lst acc)) (up m' p (.lst acc)) H4 H6 → Mk g (up m' p (.lst acc)) H6 → (if b0 = true then eB X scope elt σ4 H6 fun y H7 => ∃ acc, H7 p = some (.lst acc) ∧ acc.length < sizeLine ∧ ∃ acc_1 m', m' p = none ∧ Gs m (up m' p (.lst acc_1)) H' (upd H7 p (.lst (acc ++ [y]))) ∧ Mk g (up m' p (.lst acc_1)) (upd H7 p (.lst (acc ++ [y]))) ∧ I (i + 1) acc_1 m' ∧ acc_1.length ≤ i + 1
        else ∃ acc m', m' p = none ∧ Gs m (up m' p (.lst acc)) H' H6 ∧ Mk g (up m' p (.lst acc)) H6 ∧ I (i + 1) acc m' ∧ acc.length ≤ i + 1) := fun H6 G6 M6 => by
      cases b0 with
      | false => exact ⟨acc, m', hm, G4.trans G6, M6, t3, by omega⟩
      | true =>
        intro s8 H8 C8 cl8 fp8
        have t3' := t3
        refine (t3' _ (S.blk hs' s8 H8 C8 cl8 fp8)).then (a4.go G6 M6) fun e n3 y H7 G7 a7 r7 ⟨m3, e3, h3, i3⟩ => ?_
        subst e3
        obtain ⟨xs, hx, rx⟩ := a7.mu p _ up_same
        have lx := rps_length rx
        refine ⟨xs, hx, Nat.lt_of_le_of_lt (by omega : xs.length ≤ 1000000) (by decide), acc ++ [e], m3, h3, ?_, ?_, i3, by simp; omega⟩
        · have q := gs_write (μ := up m3 p (.lst acc)) (H := H7) (o := .lst (xs ++ [y])) (c' := .lst (acc ++ [e])) up_same
          rw [up_up] at q
          exact (G4.trans G6).trans (G7.trans q)
        · have q := gs_write (μ := up m3 p (.lst acc)) (H := H7) (o := .lst (xs ++ [y])) (c' := .lst (acc ++ [e])) up_same
          have z := mk_write (o := .lst (xs ++ [y])) (c' := .lst (acc ++ [e])) a7.mu up_same ⟨xs ++ [y], upd_same, rps_append (rps_mono q _ _ rx) (rps_one (rp_mono q _ _ r7))⟩
          rw [up_up] at z
          exact z
    match ifs, t2 with
    | [], t2 =>
      obtain ⟨e7, _⟩ := t2 _ (S.blk hs' s5 H5 C5 cl5 fp5)
      subst e7
      exact fin H4 (.refl _ _) a4.mu
    | [c], t2 =>
      intro s8 H8 C8 cl8 fp8
      refine WT.then (t2 _ (S.blk hs' s8 H8 C8 cl8 fp8)) a4 fun b n2 H6 G6 a6 ⟨e7, e8⟩ => ?_
      subst e7 e8
      exact fin H6 G6 a6.mu
    | _ :: _ :: _, t2 => exact False.elim (t2 _ (S.blk hs' s5 H5 C5 cl5 fp5))
  · have e : i = ds.length := by omega
    subst e
    refine .inl ⟨w.stops _ H2 G2, ?_⟩
    have ed : dl (up m' p (.lst acc)) p = m' := dl_up hm
    have G5 : Gs (up m' p (.lst acc)) m' H2 H2 := by
      have := gs_dl (μ := up m' p (.lst acc)) (H := H2) (p := p)
      rw [ed] at this; exact this
    have M5 : Mk g m' H2 := by
      have := mk_dl (p := p) M2
      rw [ed] at this; exact this
    have r5 : Rp g.K m' H2 (.lst acc) (.ref p) := by
      have := fz_rp (d := .lst acc) M2 up_same rfl
      rw [ed] at this
      exact this
    exact kk acc m' H2 p (G.trans (G2.trans G5)) M5 r5 (done acc m' ii hacc)
theorem pts_all (X : Cx) (scope : Scope) {ifs : List Expr} (hif : ifs.length ≤ 1) (s : Shared) (H : Hp) (C : Addr) (cl : List (Str × Addr)) (fp : List Addr) : PTs (X.blk s H scope (compEnvC scope cl C X.env) fp) ifs (tts X scope ifs) := by
  match ifs, hif with
  | [], _ => exact pts_nil
  | [c], _ => exact pts_one ⟨fun pins s1 σ H1 Q I h => h s H C cl fp pins s1 I⟩
  | _ :: _ :: _, h => exact absurd h (by simp)
/-- [elt for tg in iter if ..] -/
theorem w_lc {ifs : List Expr} (S : Sit g k N vis loc gl sc X) (own : List (Str × Nat)) (hb : blkC N sc scope own = true) (hs' : sitB scope N vis' loc' gl' = true) (h : WI g X tg iter ρ μ (LcAsk g k N vis' loc' gl' scope (own.map (·.2)) tg elt ifs ρ Post))
    (hif : ifs.length ≤ 1 := by decide) (hs : ∀ x, foldedSetIterable iter X.env x = pure x := by intro _; rfl) : W g X (.ListComp elt [⟨tg, iter, ifs, 0⟩] scope pos) ρ μ Post := fun σ H at_ =>
  E.of (pe_lc S.calm (by rw [S.hN]; exact S.nd) (EI.pi X tg iter) (S.blkOk hb) (g := gB X scope tg) (fun s H C cl fp => ⟨fun pins s1 σ H1 v u Q I r h => h s H C cl fp pins s1 u I r⟩) (tt := tts X scope ifs) (pts_all X scope hif)
    (te := eB X scope elt) (fun s H C cl fp => ⟨fun pins s1 σ H1 Q I h => h s H C cl fp pins s1 I⟩) hs) (lc_read S hs' h at_ fun acc m' H' p G M r q => ⟨.lst acc, m', G, M, r, q⟩)
/-- y = [elt for tg in iter if ..], on one line -/
theorem ws_setLc {ifs : List Expr} (S : Sit g k N vis loc gl sc X) (i : Nat) {y : Str} {py spos : Pos} (hl : loc.elem i = true) (hN : N[i]? = some y) (hyl : sc.names.lookup y = some .local) (hln : (py.line == pos.line) = true) (hown : (scope.names.any fun (n, k) => n == y && (k == .local || k == .cell)) = false) (own : List (Str × Nat)) (hb : blkC N sc scope own = true) (hs' : sitB scope N vis' loc' gl' = true)
    (h : WI g X tg iter ρ μ (LcAsk g k N vis' loc' gl' scope (own.map (·.2)) tg elt ifs ρ fun d m => R.nx (ρ.set i (some d)) m))
    (hif : ifs.length ≤ 1 := by decide) (hs : ∀ x, foldedSetIterable iter X.env x = pure x := by intro _; rfl) : WS g X (.Assign [.Name y py] (.ListComp elt [⟨tg, iter, ifs, 0⟩] scope pos) spos) ρ μ R := fun σ H at_ =>
  ES.of (ps_setLc (i := i) S.calm (by rw [S.hN]; exact S.nd) (by rw [S.hN]; exact hN) (S.hsc.same hyl (by decide)) (sw_true S.kind (S.hsc.same hyl (by decide)) hln hown) (EI.pi X tg iter) (S.blkOk hb) (g := gB X scope tg) (fun s H C cl fp => ⟨fun pins s1 σ H1 v u Q I r h => h s H C cl fp pins s1 u I r⟩) (tt := tts X scope ifs) (pts_all X scope hif)
    (te := eB X scope elt) (fun s H C cl fp => ⟨fun pins s1 σ H1 Q I h => h s H C cl fp pins s1 I⟩) hs)
    (lc_read S hs' h at_ fun acc m' H' p G M r q => show RQ g μ H R.nx _ H' from ⟨_, m', G, (at_.go G M).set i r, q⟩)
end
end Mb
set_option maxHeartbeats 4000000
namespace Mb
open PySem PySem.Spec L2
/-! ### what a def does, over data -/
abbrev ASp := List D → Mu → AQ → Prop
def toSp (g : Gb) (asp : ASp) : Sp := fun vs H Q _ => ∃ ds μ P, Rps g.K μ H ds vs ∧ Mk g μ H ∧ asp ds μ P ∧ ∀ v H', VQ g μ H P v H' → Q v H'
abbrev FnA (g : Gb) (k : Nat) (f : Addr) (fd : FuncData) (ps : List Str) (asp : ASp) : Prop := FnOk g.P g.w g.K g.mg g.base CX0 k f fd ps (toSp g asp)
structure FnG (g : Gb) (k : Nat) (x : Str) (asp : ASp) : Prop where
  ex : ∃ f fd ps, FnA g k f fd ps asp ∧ g.mg x = some (.ref f) ∧ PySem.W.keepIn g.K (.ref f) = true ∧ Binds g.K fd ps []
structure MeG (g : Gb) (k : Nat) (C : Addr) (m : Str) (asp : ASp) : Prop where
  ex : ∃ f fd ps, FnA g k f fd ps asp ∧ Meth g.K C m f ∧ Binds g.K fd ps []
  cl : Cls g.K C
structure MkG (g : Gb) (k : Nat) (x : Str) (C : Addr) (asp : ASp) : Prop where
  ex : ∃ f fd ps, FnA g k f fd ps asp ∧ g.mg x = some (.ref C) ∧ L2.Mk g.K C f ∧ Binds g.K fd ps []
theorem FnG.mono {g : Gb} {j k : Nat} {x : Str} {asp : ASp} (F : FnG g j x asp) (h : j ≤ k) : FnG g k x asp := let ⟨f, fd, ps, a, r⟩ := F.ex; ⟨f, fd, ps, FnOk.mono a h, r⟩
theorem MeG.mono {g : Gb} {j k : Nat} {C : Addr} {x : Str} {asp : ASp} (F : MeG g j C x asp) (h : j ≤ k) : MeG g k C x asp := let ⟨f, fd, ps, a, r⟩ := F.ex; ⟨⟨f, fd, ps, FnOk.mono a h, r⟩, F.cl⟩
/-- a weaker wish -/
theorem toSp_imp {g : Gb} {a b : ASp} (h : ∀ ds μ P, b ds μ P → a ds μ P) (vs : List V) (H : Hp) (Q : VK) (EX : XK) (q : toSp g b vs H Q EX) : toSp g a vs H Q EX :=
  let ⟨ds, μ, P, r, m, p, k⟩ := q; ⟨ds, μ, P, r, m, h _ _ _ p, k⟩
theorem FnG.imp {g : Gb} {k : Nat} {x : Str} {a b : ASp} (F : FnG g k x a) (h : ∀ ds μ P, b ds μ P → a ds μ P) : FnG g k x b := let ⟨f, fd, ps, q, r⟩ := F.ex; ⟨f, fd, ps, FnOk.imp q (toSp_imp h), r⟩
theorem MeG.imp {g : Gb} {k : Nat} {C : Addr} {x : Str} {a b : ASp} (F : MeG g k C x a) (h : ∀ ds μ P, b ds μ P → a ds μ P) : MeG g k C x b := let ⟨f, fd, ps, q, r⟩ := F.ex; ⟨⟨f, fd, ps, FnOk.imp q (toSp_imp h), r⟩, F.cl⟩
def ini (N : List Str) (ds : List D) : Ro := ds.map some ++ List.replicate (N.length - ds.length) none
theorem at_ini {g : Gb} {N : List Str} {μ : Mu} {H : Hp} {ds : List D} {vs : List V} (r : Rps g.K μ H ds vs) (m : Mk g μ H) : At g (ini N ds) μ (L2.start N vs) H := by
  have hl := rps_length r
  refine ⟨by unfold ini L2.start; simp [hl], fun i d e => ?_, m⟩
  unfold ini at e
  by_cases hi : i < ds.length
  · rw [List.getElem?_append_left (by simpa using hi), List.getElem?_map] at e
    cases q : ds[i]? with
    | none => rw [q] at e; cases e
    | some d' =>
      rw [q] at e
      cases e
      obtain ⟨v, hv, rv⟩ := rps_get r q
      refine ⟨v, ?_, rv⟩
      unfold L2.start
      rw [List.getElem?_append_left (by simpa [hl] using hi), List.getElem?_map, hv]
      rfl
  · rw [List.getElem?_append_right (by simpa using hi)] at e
    rw [List.getElem?_replicate] at e
    split at e
    · cases e
    · cases e
theorem fnA_of {g : Gb} {k : Nat} {x qual : Str} {params : Arguments} {body : List Stmt} {sc : Scope} {dvs : List V} {kws : List (Str × V)} {f : Addr} {fd : FuncData} {N ps : List Str} {vis loc : List Nat} {gl : List Str} {asp : ASp}
    (F : FunD g.K x qual params body sc dvs kws f fd) (Sc : FnScope N ps sc) (hs : sitB sc N vis loc gl = true) (len : ∀ ds μ P, asp ds μ P → ds.length = ps.length)
    (h : ∀ X, Sit g k N vis loc gl sc X → ∀ ds μ P, asp ds μ P → WB g X body (ini N ds) μ { nx := fun _ m => P .non m, rt := P }) : FnA g (k + 1) f fd ps asp := by
  refine F.ok Sc (fun vs H Q EX q => ?_) (fun cdv A outer s H vs Q EX hr q => ?_)
  · obtain ⟨ds, μ, P, r, _, p, _⟩ := q
    rw [← rps_length r]; exact len _ _ _ p
  · obtain ⟨ds, μ, P, r, m, p, kq⟩ := q
    have S := sit_fn (g := g) (outer := outer) (EX := EX) (H := H) hs Sc.nd hr
    have b := h _ S ds μ P p
    refine ⟨_, (ESs.pss _ body).nox, ?_⟩
    refine (b _ H (at_ini r m)).mono (fun σ' H' ⟨ρ', m', G, a, q⟩ => ?_) (fun v H' q => kq v H' q) (fun σ' H' ⟨_, _, _, _, q⟩ => q.elim) fun σ' H' ⟨_, _, _, _, q⟩ => q.elim
    exact kq .non H' ⟨.non, m', G, a.mu, rfl, q⟩
section
variable {g : Gb} {k j : Nat} {N : List Str} {vis loc : List Nat} {gl : List Str} {sc : Scope} {X : Cx} {ρ : Ro} {μ : Mu} {R : AE} {pos p apos : Pos} {Post : AQ} {asp : ASp} {x m : Str} {e o : Expr} {es : List Expr} {C : Addr}
theorem Sit.fn (S : Sit g k N vis loc gl sc X) {f : Addr} {fd : FuncData} {ps : List Str} {asp : ASp} (F : FnA g j f fd ps asp) : FnOk X.prog X.w X.K X.mg X.base CX0 j f fd ps (toSp g asp) := by
  have h1 := S.hP; have h2 := S.hw; have h3 := S.hK; have h4 := S.hmg; have h5 := S.hb
  rw [h1, h2, h3, h4, h5]; exact F
theorem w_call (S : Sit g k N vis loc gl sc X) (F : FnG g j x asp) (hj : j ≤ k) (i : Nat) (hx : gl[i]? = some x) (h : WA g X (e :: es) ρ μ fun ds m => asp ds m Post)
    (he : starEach (e :: es) X.env = (false, eval e X.env) :: starEach es X.env := by rfl) (hpl : (backTo pos (starEach es X.env)).any (·.1) = false := by rfl) : W g X (.Call (.Name x p) (e :: es) [] pos) ρ μ Post := fun σ H at_ => by
  obtain ⟨f, fd, ps, fa, hm, hk, hb⟩ := F.ex
  have hx' := S.hg i x hx
  refine E.of (pe_call (E := E0) (S.fn fa) (S.room.mono hj) hx'.1 (by rw [S.hmg]; exact hm) (by rw [S.hK]; exact hk) (by rw [S.hK]; exact hb) .nil pass0 (EA.pa X (e :: es)) hx'.2.1 he hpl) ?_
  refine h.then at_ fun ds m' vs H1 G a1 r1 q => ?_
  show toSp g asp (vs ++ []) H1 _ E0
  rw [List.append_nil]
  exact ⟨ds, m', Post, r1, a1.mu, q, fun v H' z => VQ.tr G z⟩
/-- the place of a name among names -/
def ix (ns : List Str) (f : Str) : Option Nat := ns.findIdx? fun x => decide (x = f)
theorem ix_nil {f : Str} : ix [] f = none := rfl
theorem lookup_ix : ∀ {ns : List Str} {xs : List V} {f : Str}, ns.length = xs.length → (ns.zip xs).lookup f = (ix ns f).bind fun i => xs[i]?
  | [], [], f, _ => rfl
  | n :: ns, v :: xs, f, h => by
    have ih := @lookup_ix ns xs f (by simpa using h)
    rw [List.zip_cons_cons, List.lookup_cons]
    unfold ix
    rw [List.findIdx?_cons]
    by_cases e : n = f
    · subst e; simp
    · have e1 : (f == n) = false := by simpa using Ne.symm e
      rw [e1]
      simp only [e, decide_false]
      rw [show List.lookup f (ns.zip xs) = _ from ih]
      unfold ix
      cases List.findIdx? (fun x => decide (x = f)) ns <;> simp
  | [], _ :: _, _, h => by simp at h
  | _ :: _, [], _, h => by simp at h
theorem w_meth {pl : Sem Bool} (S : Sit g k N vis loc gl sc X) (F : MeG g j C m asp) (hj : j ≤ k) (h : W g X o ρ μ fun d m1 => ∃ ns ds, d = .obj C ns ds ∧ ix ns m = none ∧ WA g X (e :: es) ρ m1 fun as m2 => asp (d :: as) m2 Post)
    (hst : starEach (e :: es) X.env = (false, eval e X.env) :: starEach es X.env := by rfl) (hpl : (backTo pos (starEach es X.env)).any (·.1) = false := by rfl)
    (ht : eval (.Call (.Attribute o m apos) (e :: es) [] pos) X.env = (do
      let ov ← eval o X.env
      standAt apos.atName
      let (f, first) ← holding [ov] (getMethod ov m pl)
      callWith pos f first (backTo pos (starEach (e :: es) X.env)) (backToKw pos (keywordEach [] X.env))) := by rfl) : W g X (.Call (.Attribute o m apos) (e :: es) [] pos) ρ μ Post := fun σ H at_ => by
  obtain ⟨f, fd, ps, fa, hm, hb⟩ := F.ex
  refine E.of (pe_meth (E := E0) (E.pe X o) (C := C) (by rw [S.hK]; exact F.cl) (by rw [S.hK]; exact hm) (S.fn fa) (S.room.mono hj) (by rw [S.hK]; exact hb) .nil pass0 (EA.pa X (e :: es)) hst hpl ht) ?_
  refine h.then at_ fun d m1 v H1 G a1 r1 ⟨ns, ds, ed, hn, q⟩ => ?_
  subst ed
  have r0 := r1
  obtain ⟨a, dx, xs, ev, hh, hn0, hl, rr⟩ := r1
  refine ⟨a, dx, _, ev, hh, by rw [lookup_ix hl, hn]; rfl, ?_⟩
  refine q.then a1 fun as m2 vs H2 G2 a2 r2 q2 => ?_
  show toSp g asp (v :: (vs ++ [])) H2 _ E0
  rw [List.append_nil]
  exact ⟨_ :: as, m2, Post, ⟨v, vs, rfl, rp_mono G2 _ _ r0, r2⟩, a2.mu, q2, fun v H' z => VQ.tr (G.trans G2) z⟩
theorem w_meth0 {pl : Sem Bool} (S : Sit g k N vis loc gl sc X) (F : MeG g j C m asp) (hj : j ≤ k) (h : W g X o ρ μ fun d m1 => ∃ ns ds, d = .obj C ns ds ∧ ix ns m = none ∧ asp [d] m1 Post)
    (ht : eval (.Call (.Attribute o m apos) [] [] pos) X.env = (do
      let ov ← eval o X.env
      standAt apos.atName
      let (f, first) ← holding [ov] (getMethod ov m pl)
      callWith pos f first (backTo pos (starEach [] X.env)) (backToKw pos (keywordEach [] X.env))) := by rfl) : W g X (.Call (.Attribute o m apos) [] [] pos) ρ μ Post := fun σ H at_ => by
  obtain ⟨f, fd, ps, fa, hm, hb⟩ := F.ex
  refine E.of (pe_meth0 (E := E0) (E.pe X o) (C := C) (by rw [S.hK]; exact F.cl) (by rw [S.hK]; exact hm) (S.fn fa) (S.room.mono hj) (by rw [S.hK]; exact hb) .nil pass0 ht) ?_
  refine h.then at_ fun d m1 v H1 G a1 r1 ⟨ns, ds, ed, hn, q⟩ => ?_
  subst ed
  have r0 := r1
  obtain ⟨a, dx, xs, ev, hh, hn0, hl, rr⟩ := r1
  refine ⟨a, dx, _, ev, hh, by rw [lookup_ix hl, hn]; rfl, ?_⟩
  show toSp g asp [v] H1 _ E0
  exact ⟨[_], m1, Post, ⟨v, [], rfl, r0, rfl⟩, a1.mu, q, fun v H' z => VQ.tr G z⟩
/-- a method of an object that is being changed -/
theorem w_methP {pl : Sem Bool} (S : Sit g k N vis loc gl sc X) (F : MeG g j C m asp) (hj : j ≤ k) (h : W g X o ρ μ fun d m1 => ∃ a ns ds, d = .ptr a ∧ m1 a = some (.ins C ns ds) ∧ ix ns m = none ∧ WA g X (e :: es) ρ m1 fun as m2 => asp (d :: as) m2 Post)
    (hst : starEach (e :: es) X.env = (false, eval e X.env) :: starEach es X.env := by rfl) (hpl : (backTo pos (starEach es X.env)).any (·.1) = false := by rfl)
    (ht : eval (.Call (.Attribute o m apos) (e :: es) [] pos) X.env = (do
      let ov ← eval o X.env
      standAt apos.atName
      let (f, first) ← holding [ov] (getMethod ov m pl)
      callWith pos f first (backTo pos (starEach (e :: es) X.env)) (backToKw pos (keywordEach [] X.env))) := by rfl) : W g X (.Call (.Attribute o m apos) (e :: es) [] pos) ρ μ Post := fun σ H at_ => by
  obtain ⟨f, fd, ps, fa, hm, hb⟩ := F.ex
  refine E.of (pe_meth (E := E0) (E.pe X o) (C := C) (by rw [S.hK]; exact F.cl) (by rw [S.hK]; exact hm) (S.fn fa) (S.room.mono hj) (by rw [S.hK]; exact hb) .nil pass0 (EA.pa X (e :: es)) hst hpl ht) ?_
  refine h.then at_ fun d m1 v H1 G a1 r1 ⟨a, ns, ds, ed, ha, hn, q⟩ => ?_
  subst ed
  have ev : v = .ref a := r1
  obtain ⟨dx, xs, hh, hl, rr⟩ := a1.mu a _ ha
  refine ⟨a, dx, _, ev, hh, by rw [lookup_ix hl, hn]; rfl, ?_⟩
  refine q.then a1 fun as m2 vs H2 G2 a2 r2 q2 => ?_
  show toSp g asp (v :: (vs ++ [])) H2 _ E0
  rw [List.append_nil]
  exact ⟨.ptr a :: as, m2, Post, ⟨v, vs, rfl, ev, r2⟩, a2.mu, q2, fun v H' z => VQ.tr (G.trans G2) z⟩
theorem w_methP0 {pl : Sem Bool} (S : Sit g k N vis loc gl sc X) (F : MeG g j C m asp) (hj : j ≤ k) (h : W g X o ρ μ fun d m1 => ∃ a ns ds, d = .ptr a ∧ m1 a = some (.ins C ns ds) ∧ ix ns m = none ∧ asp [d] m1 Post)
    (ht : eval (.Call (.Attribute o m apos) [] [] pos) X.env = (do
      let ov ← eval o X.env
      standAt apos.atName
      let (f, first) ← holding [ov] (getMethod ov m pl)
      callWith pos f first (backTo pos (starEach [] X.env)) (backToKw pos (keywordEach [] X.env))) := by rfl) : W g X (.Call (.Attribute o m apos) [] [] pos) ρ μ Post := fun σ H at_ => by
  obtain ⟨f, fd, ps, fa, hm, hb⟩ := F.ex
  refine E.of (pe_meth0 (E := E0) (E.pe X o) (C := C) (by rw [S.hK]; exact F.cl) (by rw [S.hK]; exact hm) (S.fn fa) (S.room.mono hj) (by rw [S.hK]; exact hb) .nil pass0 ht) ?_
  refine h.then at_ fun d m1 v H1 G a1 r1 ⟨a, ns, ds, ed, ha, hn, q⟩ => ?_
  subst ed
  have ev : v = .ref a := r1
  obtain ⟨dx, xs, hh, hl, rr⟩ := a1.mu a _ ha
  refine ⟨a, dx, _, ev, hh, by rw [lookup_ix hl, hn]; rfl, ?_⟩
  show toSp g asp [v] H1 _ E0
  exact ⟨[.ptr a], m1, Post, ⟨v, [], rfl, ev, rfl⟩, a1.mu, q, fun v H' z => VQ.tr G z⟩
/-- a new object: its __init__ fills it, then it stands still -/
theorem gs_ins {H : Hp} {q dx : Addr} {o : HO} {c : MC} (h : H q = none) (hd : H dx = none) (ne : dx ≠ q) : Gs μ (up μ q c) H (upd (upd H dx (.own q)) q o) := fun a u e n =>
  ⟨by rw [upd_ne (ne_of_none e h), upd_ne (ne_of_none e hd)]; exact e, by rw [up_ne (ne_of_none e h)]; exact n⟩
theorem w_make (S : Sit g k N vis loc gl sc X) (F : MkG g j x C asp) (hj : j + 1 ≤ k) (i : Nat) (hx : gl[i]? = some x) (h : WA g X (e :: es) ρ μ fun ds m => ∀ q, m q = none → asp (.ptr q :: ds) (up m q (.ins C [] [])) fun d m2 => d = .non ∧ ∃ ns fs, m2 q = some (.ins C ns fs) ∧ Post (.obj C ns fs) (dl m2 q))
    (he : starEach (e :: es) X.env = (false, eval e X.env) :: starEach es X.env := by rfl) (hpl : (backTo pos (starEach es X.env)).any (·.1) = false := by rfl) : W g X (.Call (.Name x p) (e :: es) [] pos) ρ μ Post := fun σ H at_ => by
  obtain ⟨f, fd, ps, fa, hm, hk, hb⟩ := F.ex
  have hx' := S.hg i x hx
  refine E.of (pe_make (E := E0) (C := C) (by rw [S.hK]; exact hk) (S.fn fa) (S.room.mono hj) hx'.1 (by rw [S.hmg]; exact hm) (by rw [S.hK]; exact hb) .nil pass0 (EA.pa X (e :: es)) hx'.2.1 he hpl) ?_
  refine h.then at_ fun ds m' vs H1 G a1 r1 q => ?_
  intro a dx ha hdx ne
  show toSp g asp (.ref a :: (vs ++ [])) _ _ E0
  rw [List.append_nil]
  have G2 : Gs m' (up m' a (.ins C [] [])) H1 (upd (upd H1 dx (.own a)) a (.ins C dx [])) := gs_ins ha hdx ne
  have M2 : Mk g (up m' a (.ins C [] [])) (upd (upd H1 dx (.own a)) a (.ins C dx [])) := fun y u eq => by
    by_cases hy : y = a
    · subst hy; rw [up_same] at eq; cases eq
      exact ⟨dx, [], upd_same, rfl, rfl⟩
    · rw [up_ne hy] at eq
      obtain ⟨w, hw⟩ := (a1.mu y u eq).some
      refine (a1.mu y u eq).mono G2 ?_
      rw [upd_ne hy, upd_ne (ne_of_none hw hdx)]
  refine ⟨.ptr a :: ds, _, _, ⟨.ref a, vs, rfl, rfl, rps_mono G2 _ _ r1⟩, M2, q a (a1.mu.new ha), fun v H' ⟨d, m2, G3, M3, r3, ed, ns, fs, hf, post⟩ => ?_⟩
  subst ed
  refine ⟨r3, .obj C ns fs, dl m2 a, (G.trans G2).trans (G3.trans gs_dl), mk_dl M3, ?_, post⟩
  exact fz_rp M3 hf rfl
/-! ### fields -/
theorem w_fld (S : Sit g k N vis loc gl sc X) (cl : Cls g.K C) {f : Str} (na : NoAttr g.K C f) {ns : List Str} {i : Nat} (hi : ix ns f = some i) (h : W g X e ρ μ fun d m => ∃ ds d', d = .obj C ns ds ∧ ds[i]? = some d' ∧ Post d' m)
    (hb : attributeBase e f X.env (eval e X.env) = eval e X.env := by rfl) : W g X (.Attribute e f pos) ρ μ Post := fun σ H at_ =>
  E.of (pe_fld (E.pe X e) hb) (h.then at_ fun d m v H1 G a1 r1 ⟨ds, d', ed, hd, q⟩ => by
    subst ed
    obtain ⟨a, dx, xs, ev, hh, hn, hl, rr⟩ := r1
    obtain ⟨u, hu, ru⟩ := rps_get rr hd
    exact ⟨a, C, dx, _, u, ev, hh, S.hK ▸ cl, S.hK ▸ na, by rw [lookup_ix hl, hi]; exact hu, d', m, G, a1.mu, ru, q⟩)
theorem w_fldP (S : Sit g k N vis loc gl sc X) (cl : Cls g.K C) {f : Str} (na : NoAttr g.K C f) {ns : List Str} {i : Nat} (hi : ix ns f = some i) (h : W g X e ρ μ fun d m => ∃ a ds d', d = .ptr a ∧ m a = some (.ins C ns ds) ∧ ds[i]? = some d' ∧ Post d' m)
    (hb : attributeBase e f X.env (eval e X.env) = eval e X.env := by rfl) : W g X (.Attribute e f pos) ρ μ Post := fun σ H at_ =>
  E.of (pe_fld (E.pe X e) hb) (h.then at_ fun d m v H1 G a1 r1 ⟨a, ds, d', ed, ha, hd, q⟩ => by
    subst ed
    obtain ⟨dx, xs, hh, hl, rr⟩ := a1.mu a _ ha
    obtain ⟨u, hu, ru⟩ := rps_get rr hd
    exact ⟨a, C, dx, _, u, r1, hh, S.hK ▸ cl, S.hK ▸ na, by rw [lookup_ix hl, hi]; exact hu, d', m, G, a1.mu, ru, q⟩)
theorem putF_new : ∀ {ns : List Str} {xs : List V} {f : Str} {v : V}, ns.length = xs.length → ix ns f = none → putF f v (ns.zip xs) = (ns ++ [f]).zip (xs ++ [v])
  | [], [], f, v, _, _ => rfl
  | n :: ns, u :: xs, f, v, h, hi => by
    unfold ix at hi
    rw [List.findIdx?_cons] at hi
    by_cases e : n = f
    · simp [e] at hi
    · simp only [e, decide_false] at hi
      have ih := @putF_new ns xs f v (by simpa using h) (by unfold ix; simpa using hi)
      show (if n = f then _ else (n, u) :: putF f v (ns.zip xs)) = _
      rw [if_neg e, ih]
      rfl
  | [], _ :: _, _, _, h, _ => by simp at h
  | _ :: _, [], _, _, h, _ => by simp at h
/-- self.f = e, a new field -/
theorem ws_fld (S : Sit g k N vis loc gl sc X) (cl : Cls g.K C) {f : Str} (na : NoAttr g.K C f) {ns : List Str} {ds : List D} {v : Expr} {apos' : Pos} (hi : ix ns f = none) (hz : ns.length < 1000) (h : W g X v ρ μ fun d m => W g X o ρ m fun d2 m2 => ∃ a ds, d2 = .ptr a ∧ m2 a = some (.ins C ns ds) ∧ R.nx ρ (up m2 a (.ins C (ns ++ [f]) (ds ++ [d]))))
    (hs : swapsWith v (some (.Attribute o f apos')) pos.line X.env = pure false := by rfl) : WS g X (.Assign [.Attribute o f apos'] v pos) ρ μ R := fun σ H at_ =>
  ES.of (ps_fld (E.pe X o) (E.pe X v) hs) (h.then at_ fun d m u H1 G a1 r1 q => q.then a1 fun d2 m2 u2 H2 G2 a2 r2 ⟨a, ds, ed, ha, kk⟩ => by
    subst ed
    obtain ⟨dx, xs, hh, hl, rr⟩ := a2.mu a _ ha
    refine ⟨a, C, dx, _, r2, hh, S.hK ▸ cl, S.hK ▸ na, by rw [List.length_zip]; omega, ?_⟩
    rw [putF_new hl hi]
    have G3 : Gs m2 (up m2 a (.ins C (ns ++ [f]) (ds ++ [d]))) H2 (upd H2 a (.ins C dx ((ns ++ [f]).zip (xs ++ [u])))) := gs_write ha
    have M3 := mk_write (o := .ins C dx ((ns ++ [f]).zip (xs ++ [u]))) (c' := .ins C (ns ++ [f]) (ds ++ [d])) a2.mu ha ⟨dx, xs ++ [u], upd_same, by simp [hl], rps_append (rps_mono G3 _ _ rr) (rps_one (rp_mono G3 _ _ (rp_mono G2 _ _ r1)))⟩
    exact show RQ g μ H R.nx _ _ from ⟨ρ, _, (G.trans G2).trans G3, a2.go G3 M3, kk⟩)
end
end Mb
set_option maxHeartbeats 4000000
namespace Mb
open PySem PySem.Spec L2
section
variable {g : Gb} {k : Nat} {N : List Str} {vis loc : List Nat} {gl : List Str} {sc : Scope} {X : Cx} {ρ : Ro} {μ : Mu} {R : AE} {pos p apos : Pos} {Post : AQ} {e o a b : Expr} {es : List Expr}
/-! ### ints -/
theorem od_I0 {f : Int → Int → D} {fv : Int → Int → V} {i j : Int} (hf : ∀ μ H, Rp g.K μ H (f i j) (fv i j)) (q : Post (f i j) μ) : OpD g (rI0 fv) (.int i) (.int j) μ Post := fun H u v Q m ru rv kk =>
  ⟨i, j, ru, rv, kk _ _ (VQ.at m (hf _ _) q)⟩
theorem od_I {C : Int → Int → Prop} {f : Int → Int → D} {fv : Int → Int → V} {i j : Int} (hc : C i j) (hf : ∀ μ H, Rp g.K μ H (f i j) (fv i j)) (q : Post (f i j) μ) : OpD g (rI C fv) (.int i) (.int j) μ Post := fun H u v Q m ru rv kk =>
  ⟨i, j, ru, rv, hc, kk _ _ (VQ.at m (hf _ _) q)⟩
theorem w_add (h : W g X a ρ μ fun x m1 => W g X b ρ m1 fun y m2 => ∃ i j, x = .int i ∧ y = .int j ∧ Post (.int (i + j)) m2) : W g X (.BinOp a .Add b pos) ρ μ Post :=
  w_bin op_add (h.mono fun x m1 hb => hb.mono fun y m2 ⟨i, j, e1, e2, q⟩ => by subst e1 e2; exact od_I0 (f := fun i j => .int (i + j)) (fun _ _ => rfl) q)
theorem w_sub (h : W g X a ρ μ fun x m1 => W g X b ρ m1 fun y m2 => ∃ i j, x = .int i ∧ y = .int j ∧ Post (.int (i - j)) m2) : W g X (.BinOp a .Sub b pos) ρ μ Post :=
  w_bin op_sub (h.mono fun x m1 hb => hb.mono fun y m2 ⟨i, j, e1, e2, q⟩ => by subst e1 e2; exact od_I0 (f := fun i j => .int (i - j)) (fun _ _ => rfl) q)
theorem w_mul (h : W g X a ρ μ fun x m1 => W g X b ρ m1 fun y m2 => ∃ i j, x = .int i ∧ y = .int j ∧ CMul i j ∧ Post (.int (i * j)) m2) : W g X (.BinOp a .Mult b pos) ρ μ Post :=
  w_bin op_mul (h.mono fun x m1 hb => hb.mono fun y m2 ⟨i, j, e1, e2, c, q⟩ => by subst e1 e2; exact od_I (f := fun i j => .int (i * j)) c (fun _ _ => rfl) q)
theorem w_mod (h : W g X a ρ μ fun x m1 => W g X b ρ m1 fun y m2 => ∃ i j, x = .int i ∧ y = .int j ∧ 0 < j ∧ Post (.int (i % j)) m2) : W g X (.BinOp a .Mod b pos) ρ μ Post :=
  w_bin op_mod (h.mono fun x m1 hb => hb.mono fun y m2 ⟨i, j, e1, e2, c, q⟩ => by subst e1 e2; exact od_I (f := fun i j => .int (i % j)) c (fun _ _ => rfl) q)
theorem w_div (h : W g X a ρ μ fun x m1 => W g X b ρ m1 fun y m2 => ∃ i j, x = .int i ∧ y = .int j ∧ CDiv i j ∧ Post (.int (i / j)) m2) : W g X (.BinOp a .FloorDiv b pos) ρ μ Post :=
  w_bin op_fdiv (h.mono fun x m1 hb => hb.mono fun y m2 ⟨i, j, e1, e2, c, q⟩ => by subst e1 e2; exact od_I (f := fun i j => .int (i / j)) c (fun _ _ => rfl) q)
theorem w_pow (h : W g X a ρ μ fun x m1 => W g X b ρ m1 fun y m2 => ∃ i j, x = .int i ∧ y = .int j ∧ CPow i j ∧ Post (.int (i ^ j.toNat)) m2) : W g X (.BinOp a .Pow b pos) ρ μ Post :=
  w_bin op_pow (h.mono fun x m1 hb => hb.mono fun y m2 ⟨i, j, e1, e2, c, q⟩ => by subst e1 e2; exact od_I (f := fun i j => .int (i ^ j.toNat)) c (fun _ _ => rfl) q)
/-- comparisons of ints: as a value, as a test -/
theorem w_cmpI {op : CmpOp} {f : Int → Int → Bool} (ho : OpR X (compareOp op) (rI0 fun i j => .bl (f i j))) (h : W g X a ρ μ fun x m1 => W g X b ρ m1 fun y m2 => ∃ i j, x = .int i ∧ y = .int j ∧ Post (.bl (f i j)) m2) (hm : behindInMarks op b = false := by exact nomark _) : W g X (.Compare a [op] [b] pos) ρ μ Post :=
  w_cmp ho hm (h.mono fun x m1 hb => hb.mono fun y m2 ⟨i, j, e1, e2, q⟩ => by subst e1 e2; exact od_I0 (f := fun i j => .bl (f i j)) (fun _ _ => rfl) q)
theorem wt_cmpI {op : CmpOp} {f : Int → Int → Bool} {PB : Bool → Mu → Prop} (ho : OpR X (compareOp op) (rI0 fun i j => .bl (f i j))) (h : W g X a ρ μ fun x m1 => W g X b ρ m1 fun y m2 => ∃ i j, x = .int i ∧ y = .int j ∧ PB (f i j) m2) (hm : behindInMarks op b = false := by exact nomark _) : WT g X (.Compare a [op] [b] pos) ρ μ PB :=
  wt_cmp ho hm (h.mono fun x m1 hb => hb.mono fun y m2 ⟨i, j, e1, e2, q⟩ => by subst e1 e2; exact od_I0 (f := fun i j => .bl (f i j)) (fun _ _ => rfl) ⟨_, rfl, q⟩)
/-! ### scalars -/
def scD : D → V
  | .int i => .int i
  | .str x => .str x
  | .bl b => .bl b
  | .non => .non
  | _ => .non
def isSc : D → Bool
  | .int _ => true
  | .str _ => true
  | .bl _ => true
  | .non => true
  | _ => false
theorem sc_rp {d : D} (h : isSc d = true) {μ : Mu} {H : Hp} {v : V} (r : Rp g.K μ H d v) : v = scD d := by
  cases d <;> first | exact r | cases h
/-- ==, != of ints, texts, bools, None of one kind -/
theorem wt_eq {PB : Bool → Mu → Prop} (h : W g X a ρ μ fun x m1 => W g X b ρ m1 fun y m2 => isSc x = true ∧ isSc y = true ∧ scal (scD x) (scD y) = true ∧ PB (decide (scD x = scD y)) m2) : WT g X (.Compare a [.Eq] [b] pos) ρ μ PB :=
  wt_cmp op_eq (nomark _) (h.mono fun x m1 hb => hb.mono fun y m2 ⟨s1, s2, s3, q⟩ => fun H u v Q m ru rv kk => by
    rw [sc_rp s1 ru, sc_rp s2 rv]
    exact ⟨s3, kk _ _ (VQ.at (d := .bl _) m rfl ⟨_, rfl, q⟩)⟩)
theorem wt_ne {PB : Bool → Mu → Prop} (h : W g X a ρ μ fun x m1 => W g X b ρ m1 fun y m2 => isSc x = true ∧ isSc y = true ∧ scal (scD x) (scD y) = true ∧ PB (!decide (scD x = scD y)) m2) : WT g X (.Compare a [.NotEq] [b] pos) ρ μ PB :=
  wt_cmp op_ne (nomark _) (h.mono fun x m1 hb => hb.mono fun y m2 ⟨s1, s2, s3, q⟩ => fun H u v Q m ru rv kk => by
    rw [sc_rp s1 ru, sc_rp s2 rv]
    exact ⟨s3, kk _ _ (VQ.at (d := .bl _) m rfl ⟨_, rfl, q⟩)⟩)
theorem w_eq (h : W g X a ρ μ fun x m1 => W g X b ρ m1 fun y m2 => isSc x = true ∧ isSc y = true ∧ scal (scD x) (scD y) = true ∧ Post (.bl (decide (scD x = scD y))) m2) : W g X (.Compare a [.Eq] [b] pos) ρ μ Post :=
  w_cmp op_eq (nomark _) (h.mono fun x m1 hb => hb.mono fun y m2 ⟨s1, s2, s3, q⟩ => fun H u v Q m ru rv kk => by
    rw [sc_rp s1 ru, sc_rp s2 rv]
    exact ⟨s3, kk _ _ (VQ.at (d := .bl _) m rfl q)⟩)
/-! ### is None -/
def isN : D → Bool
  | .non => true
  | _ => false
theorem isN_ok {d : D} {μ : Mu} {H : Hp} {v : V} (r : Rp g.K μ H d v) : decide (v = .non) = isN d := by
  cases d with
  | non => cases r; rfl
  | bl _ => cases r; rfl
  | int _ => cases r; rfl
  | str _ => cases r; rfl
  | ptr _ => cases r; rfl
  | tup _ => obtain ⟨_, _, e, _⟩ := r; subst e; rfl
  | lst _ => obtain ⟨_, _, e, _⟩ := r; subst e; rfl
  | frl _ => obtain ⟨_, _, e, _⟩ := r; subst e; rfl
  | tupx _ => obtain ⟨_, _, _, e, _⟩ := r; subst e; rfl
  | dic _ _ => obtain ⟨_, _, e, _⟩ := r; subst e; rfl
  | obj _ _ _ => obtain ⟨_, _, _, e, _⟩ := r; subst e; rfl
theorem wt_isN {PB : Bool → Mu → Prop} {j pos'} (h : W g X a ρ μ fun x m1 => PB (isN x) m1) : WT g X (.Compare a [.Is] [.Constant .none j pos'] pos) ρ μ PB :=
  wt_cmp op_isN (nomark _) (h.mono fun x m1 q => w_non fun H u v Q m ru rv kk => ⟨rv, kk _ _ (VQ.at (d := .bl _) m (by rw [isN_ok ru]; rfl) ⟨_, rfl, q⟩)⟩)
theorem wt_notN {PB : Bool → Mu → Prop} {j pos'} (h : W g X a ρ μ fun x m1 => PB (!isN x) m1) : WT g X (.Compare a [.IsNot] [.Constant .none j pos'] pos) ρ μ PB :=
  wt_cmp op_notN (nomark _) (h.mono fun x m1 q => w_non fun H u v Q m ru rv kk => ⟨rv, kk _ _ (VQ.at (d := .bl _) m (by rw [isN_ok ru]; rfl) ⟨_, rfl, q⟩)⟩)
theorem w_isN {j pos'} (h : W g X a ρ μ fun x m1 => Post (.bl (isN x)) m1) : W g X (.Compare a [.Is] [.Constant .none j pos'] pos) ρ μ Post :=
  w_cmp op_isN (nomark _) (h.mono fun x m1 q => w_non fun H u v Q m ru rv kk => ⟨rv, kk _ _ (VQ.at (d := .bl _) m (by rw [isN_ok ru]; rfl) q)⟩)
/-! ### chains a <= b <= c of ints -/
theorem wt_chain {op op' : CmpOp} {f f' : Int → Int → Bool} {PB : Bool → Mu → Prop} {c : Expr} (ho : OpR X (compareOp op) (rI0 fun i j => .bl (f i j))) (ho' : OpR X (compareOp op') (rI0 fun i j => .bl (f' i j)))
    (h : W g X a ρ μ fun x m1 => W g X b ρ m1 fun y m2 => ∃ i j, x = .int i ∧ y = .int j ∧ if f i j = true then W g X c ρ m2 (fun z m3 => ∃ l, z = .int l ∧ PB (f' j l) m3) else PB false m2)
    (hm : lastMarks [op, op'] [b, c] = false := by with_unfolding_all rfl) : WT g X (.Compare a [op, op'] [b, c] pos) ρ μ PB := fun σ H at_ => by
  refine ET.of (pt_chain ho ho' (E.pe X a) (E.pe X b) (E.pe X c) hm) ?_
  refine h.then at_ fun x m1 u H1 G1 a1 r1 hb => hb.then a1 fun y m2 v H2 G2 a2 r2 ⟨i, j, e1, e2, q⟩ => ?_
  subst e1 e2
  refine ⟨i, j, r1, r2, _, rfl, ?_⟩
  cases hf : f i j with
  | true =>
    rw [hf] at q
    refine q.then a2 fun z m3 w H3 G3 a3 r3 ⟨l, e3, q3⟩ => ?_
    subst e3
    exact ⟨j, l, r2, r3, _, rfl, m3, (G1.trans G2).trans G3, a3.mu, q3⟩
  | false =>
    rw [hf] at q
    exact ⟨_, rfl, m2, G1.trans G2, a2.mu, q⟩
end
end Mb
set_option maxHeartbeats 4000000
namespace Mb
open PySem PySem.Spec L2
section
variable {g : Gb} {k : Nat} {N : List Str} {vis loc : List Nat} {gl : List Str} {sc : Scope} {X : Cx} {ρ : Ro} {μ : Mu} {R : AE} {pos p apos : Pos} {Post : AQ} {e o a b : Expr} {es : List Expr}
theorem kb {n : Nat} (h : n ≤ 100000) : n ≤ sizeLine := Nat.le_trans h (by decide)
theorem kb' {n : Nat} (h : n < 100000) : n < sizeLine := Nat.lt_of_lt_of_le h (by decide)
/-! ### texts, tuples, lists put together -/
theorem w_addS (h : W g X a ρ μ fun x m1 => W g X b ρ m1 fun y m2 => ∃ i j : Str, x = .str i ∧ y = .str j ∧ i.length + j.length ≤ 100000 ∧ Post (.str (i ++ j)) m2) : W g X (.BinOp a .Add b pos) ρ μ Post :=
  w_bin op_add_str (h.mono fun x m1 hb => hb.mono fun y m2 ⟨i, j, e1, e2, c, q⟩ => by
    subst e1 e2; exact fun H u v Q m ru rv kk => ⟨i, j, ru, rv, kb c, kk _ _ (VQ.at (d := .str _) m rfl q)⟩)
theorem w_addT (S : Sit g k N vis loc gl sc X) (h : W g X a ρ μ fun x m1 => W g X b ρ m1 fun y m2 => ∃ i j, x = .tup i ∧ y = .tup j ∧ i.length + j.length ≤ 100000 ∧ Post (.tup (i ++ j)) m2) : W g X (.BinOp a .Add b pos) ρ μ Post :=
  w_bin op_catA (h.mono fun x m1 hb => hb.mono fun y m2 ⟨i, j, e1, e2, c, q⟩ => by
    subst e1 e2
    intro H u v Q m ru rv kk
    have ru0 := ru
    have rv0 := rv
    obtain ⟨a1, xs, eu, tu, r1⟩ := ru
    obtain ⟨a2, ys, ev, tv, r2⟩ := rv
    have l1 := rps_length r1
    have l2 := rps_length r2
    refine ⟨a1, a2, xs, ys, eu, ev, S.hK ▸ tu.sq, S.hK ▸ tv.sq, by rw [← l1, ← l2]; exact kb c, fun z => ?_, fun _ z => ?_, fun _ _ q2 hq => ?_⟩
    · subst z
      have ei : i = [] := List.length_eq_zero_iff.mp l1
      subst ei
      rw [← ev]
      exact kk _ _ ⟨_, m2, .refl _ _, m, rv0, q⟩
    · subst z
      have ej : j = [] := List.length_eq_zero_iff.mp l2
      subst ej
      rw [← eu]
      rw [List.append_nil] at q
      exact kk _ _ ⟨_, m2, .refl _ _, m, ru0, q⟩
    · exact kk _ _ ⟨.tup (i ++ j), m2, gs_new hq, mk_new m hq, ⟨q2, _, rfl, .inl ⟨.inl upd_same, m.new hq⟩, rps_mono (gs_new hq) _ _ (rps_append r1 r2)⟩, q⟩)
theorem w_addL (h : W g X a ρ μ fun x m1 => W g X b ρ m1 fun y m2 => ∃ i j, x = .lst i ∧ y = .lst j ∧ i.length + j.length ≤ 100000 ∧ Post (.lst (i ++ j)) m2) : W g X (.BinOp a .Add b pos) ρ μ Post :=
  w_bin op_cat (h.mono fun x m1 hb => hb.mono fun y m2 ⟨i, j, e1, e2, c, q⟩ => by
    subst e1 e2
    intro H u v Q m ru rv kk
    obtain ⟨a1, xs, eu, tu, n1, r1⟩ := ru
    obtain ⟨a2, ys, ev, tv, n2, r2⟩ := rv
    have l1 := rps_length r1
    have l2 := rps_length r2
    exact ⟨a1, a2, xs, ys, eu, ev, tu, tv, by rw [← l1, ← l2]; exact kb c, fun q2 hq => kk _ _ ⟨.lst (i ++ j), m2, gs_new hq, mk_new m hq, ⟨q2, _, rfl, upd_same, m.new hq, rps_mono (gs_new hq) _ _ (rps_append r1 r2)⟩, q⟩⟩)
/-! ### items -/
theorem w_ix {r : R2} (hr : IxR X r) (hs : PlainIx b) (h : W g X a ρ μ fun x m1 => W g X b ρ m1 fun y m2 => OpD g r x y m2 Post) : W g X (.Subscript a b pos) ρ μ Post := fun σ H at_ => E.of (pe_ix hr (E.pe X a) (E.pe X b) hs) (two h at_)
theorem w_ixT (S : Sit g k N vis loc gl sc X) (h : W g X a ρ μ fun x m1 => W g X b ρ m1 fun y m2 => ∃ ds i d, x = .tup ds ∧ y = .int i ∧ atI ds i = some d ∧ Post d m2) (hs : PlainIx b := by exact fun _ _ => rfl) : W g X (.Subscript a b pos) ρ μ Post :=
  w_ix ix_tup hs (h.mono fun x m1 hb => hb.mono fun y m2 ⟨ds, i, d, e1, e2, hd, q⟩ => by
    subst e1 e2
    intro H u v Q m ru rv kk
    obtain ⟨a1, xs, eu, tu, r1⟩ := ru
    have l1 := rps_length r1
    unfold atI at hd
    cases hx : ixN ds.length i with
    | none => rw [hx] at hd; cases hd
    | some j =>
      rw [hx] at hd
      obtain ⟨z, hz, rz⟩ := rps_get r1 (show ds[j]? = some d from hd)
      exact ⟨a1, xs, i, z, eu, rv, S.hK ▸ tu.sq, by unfold atI; rw [← l1, hx]; exact hz, kk _ _ ⟨d, m2, .refl _ _, m, rz, q⟩⟩)
theorem w_ixL (S : Sit g k N vis loc gl sc X) (h : W g X a ρ μ fun x m1 => W g X b ρ m1 fun y m2 => ∃ ds i d, (x = .lst ds ∨ x = .frl ds ∨ ∃ p, x = .ptr p ∧ m2 p = some (.lst ds)) ∧ y = .int i ∧ atI ds i = some d ∧ Post d m2) (hs : PlainIx b := by exact fun _ _ => rfl) : W g X (.Subscript a b pos) ρ μ Post :=
  w_ix ix_list hs (h.mono fun x m1 hb => hb.mono fun y m2 ⟨ds, i, d, e1, e2, hd, q⟩ => by
    intro H u v Q m ru rv kk
    have hh : ∃ a1 xs, u = .ref a1 ∧ SqL X.K H a1 xs ∧ Rps g.K m2 H ds xs := by
      rcases e1 with e1 | e1 | ⟨p, e1, hp⟩
      · subst e1
        obtain ⟨a1, xs, eu, tu, n1, r1⟩ := ru
        exact ⟨a1, xs, eu, SqL.of tu, r1⟩
      · subst e1
        obtain ⟨a1, xs, eu, tu, r1⟩ := ru
        exact ⟨a1, xs, eu, S.hK ▸ tu.sq, r1⟩
      · subst e1
        obtain ⟨xs, hx, r1⟩ := m p _ hp
        exact ⟨p, xs, ru, SqL.of hx, r1⟩
    obtain ⟨a1, xs, eu, tu, r1⟩ := hh
    subst e2
    have l1 := rps_length r1
    unfold atI at hd
    cases hx : ixN ds.length i with
    | none => rw [hx] at hd; cases hd
    | some j =>
      rw [hx] at hd
      obtain ⟨z, hz, rz⟩ := rps_get r1 (show ds[j]? = some d from hd)
      exact ⟨a1, xs, i, z, eu, rv, tu, by unfold atI; rw [← l1, hx]; exact hz, kk _ _ ⟨d, m2, .refl _ _, m, rz, q⟩⟩)
theorem w_ixS (h : W g X a ρ μ fun x m1 => W g X b ρ m1 fun y m2 => ∃ (z : Str) (i : Int) (c : Nat), x = .str z ∧ y = .int i ∧ z.length ≤ 100000 ∧ atI z.cps.toList i = some c ∧ Post (.str ⟨#[c]⟩) m2) (hs : PlainIx b := by exact fun _ _ => rfl) : W g X (.Subscript a b pos) ρ μ Post :=
  w_ix ix_str hs (h.mono fun x m1 hb => hb.mono fun y m2 ⟨z, i, c, e1, e2, hl, hd, q⟩ => by
    subst e1 e2
    exact fun H u v Q m ru rv kk => ⟨z, i, c, ru, rv, kb hl, hd, kk _ _ (VQ.at (d := .str _) m rfl q)⟩)
/-- t[lo:hi] of a tuple -/
def cutD (ds : List D) (lo hi : Option Int) : List D := (ds.drop (HT.sIx ds.length 0 lo)).take (HT.sIx ds.length ds.length hi - HT.sIx ds.length 0 lo)
def WO (g : Gb) (X : Cx) (e : Option Expr) (ρ : Ro) (μ : Mu) (P : Option Int → Mu → Prop) : Prop := match e with
  | none => P none μ
  | some e => W g X e ρ μ fun d m => ∃ i, d = .int i ∧ P (some i) m
theorem w_slT (S : Sit g k N vis loc gl sc X) {lo hi : Option Expr} {p2 : Pos} (h : W g X a ρ μ fun x m1 => WO g X lo ρ m1 fun l m2 => WO g X hi ρ m2 fun u m3 => ∃ ds, x = .tup ds ∧ Post (.tup (cutD ds l u)) m3) : W g X (.Subscript a (.Slice lo hi none p2) pos) ρ μ Post := fun σ H at_ => by
  have part : ∀ {eo : Option Expr}, ∃ t, PO X eo t ∧ ∀ {ρ' : Ro} {m1 : Mu} {σ' : L2.St} {H1 : Hp} {P : Option Int → Mu → Prop} {Q : Option Int → Hp → Prop}, WO g X eo ρ' m1 P → At g ρ' m1 σ' H1 → (∀ l m2 H2, Gs m1 m2 H1 H2 → At g ρ' m2 σ' H2 → P l m2 → Q l H2) → t σ' H1 Q := by
    intro eo
    cases eo with
    | none => exact ⟨_, po_none, fun q a k => k none _ _ (.refl _ _) a q⟩
    | some e => exact ⟨_, po_some (E.pe X e), fun q a k => W.then q a fun d m v H' G a2 r2 ⟨i, ed, pp⟩ => by subst ed; exact ⟨i, r2, k (some i) m H' G a2 pp⟩⟩
  obtain ⟨t1, p1, k1⟩ := part (eo := lo)
  obtain ⟨t2, p2', k2⟩ := part (eo := hi)
  refine E.of (pe_slice sl_tupA (E.pe X a) p1 p2') ?_
  refine h.then at_ fun x m1 u H1 G1 a1 r1 q => k1 q a1 fun l m2 H2 G2 a2 q2 => k2 q2 a2 fun uu m3 H3 G3 a3 ⟨ds, ex, post⟩ => ?_
  subst ex
  have r3 := rp_mono (G2.trans G3) _ _ r1
  have r4 := r3
  obtain ⟨b1, xs, eu, tu, rr⟩ := r3
  have hl := rps_length rr
  refine ⟨b1, xs, eu, S.hK ▸ tu.sq, fun hw => ?_, fun _ q hq => ?_⟩
  · rw [← eu]
    refine ⟨.tup ds, m3, (G1.trans G2).trans G3, a3.mu, r4, ?_⟩
    have : cutD ds l uu = ds := by
      unfold cutD
      rw [hl, hw.1, hw.2]
      rw [List.drop_zero, Nat.sub_zero, ← hl, List.take_length]
    rw [this] at post
    exact post
  · refine ⟨.tup (cutD ds l uu), m3, ((G1.trans G2).trans G3).trans (gs_new hq), mk_new a3.mu hq, ⟨q, _, rfl, .inl ⟨.inl upd_same, a3.mu.new hq⟩, ?_⟩, post⟩
    unfold cutD cutV
    rw [hl]
    exact rps_mono (gs_new hq) _ _ (rps_take _ (rps_drop _ rr))
/-! ### calls of what is built in -/
theorem w_callB {id : String} {x : Str} {r : List V → Hp → VK → Prop} (S : Sit g k N vis loc gl sc X) (hc : CallR X (.builtin id) r) (i : Nat) (hx : gl[i]? = some x) (hm : g.mg x = none) (hv : bootBuiltins x = some (.builtin id)) (h : WA g X (e :: es) ρ μ fun ds m => CaD g r ds m Post)
    (he : starEach (e :: es) X.env = (false, eval e X.env) :: starEach es X.env := by rfl) (hpl : (backTo pos (starEach es X.env)).any (·.1) = false := by rfl) : W g X (.Call (.Name x p) (e :: es) [] pos) ρ μ Post := fun σ H at_ => by
  have hx' := S.hg i x hx
  refine E.of (pe_callB hc hx'.1 (by rw [S.hmg]; exact hm) hv (EA.pa X (e :: es)) hx'.2.2 hx'.2.1 he hpl) ?_
  exact h.then at_ fun ds m vs H1 G a1 r1 q => q H1 vs _ a1.mu r1 fun z H' hz => VQ.tr G hz
theorem w_callTy {id : String} {x : Str} {r : List V → Hp → VK → Prop} (S : Sit g k N vis loc gl sc X) (hc : CallR X (.type id) r) (i : Nat) (hx : gl[i]? = some x) (hm : g.mg x = none) (hv : bootBuiltins x = some (.type id)) (h : WA g X (e :: es) ρ μ fun ds m => CaD g r ds m Post)
    (he : starEach (e :: es) X.env = (false, eval e X.env) :: starEach es X.env := by rfl) (hpl : (backTo pos (starEach es X.env)).any (·.1) = false := by rfl) : W g X (.Call (.Name x p) (e :: es) [] pos) ρ μ Post := fun σ H at_ => by
  have hx' := S.hg i x hx
  refine E.of (pe_callTy hc hx'.1 (by rw [S.hmg]; exact hm) hv (EA.pa X (e :: es)) hx'.2.2 hx'.2.1 he hpl) ?_
  exact h.then at_ fun ds m vs H1 G a1 r1 q => q H1 vs _ a1.mu r1 fun z H' hz => VQ.tr G hz
theorem rps1 {K : PySem.W.Frag} {H : Hp} {d : D} {us : List V} (r : Rps K μ H [d] us) : ∃ u, us = [u] ∧ Rp K μ H d u := by
  obtain ⟨v, r', e, h, t⟩ := r
  have : r' = [] := t
  subst e this
  exact ⟨v, rfl, h⟩
theorem rps2 {K : PySem.W.Frag} {H : Hp} {d d' : D} {us : List V} (r : Rps K μ H [d, d'] us) : ∃ u v, us = [u, v] ∧ Rp K μ H d u ∧ Rp K μ H d' v := by
  obtain ⟨v, r', e, h, t⟩ := r
  obtain ⟨w, e2, h2⟩ := rps1 t
  subst e e2
  exact ⟨v, w, rfl, h, h2⟩
/-- how long a thing is -/
def lenD (μ : Mu) : D → Option Nat
  | .tup ds => some ds.length
  | .tupx ds => some ds.length
  | .lst ds => some ds.length
  | .frl ds => some ds.length
  | .str x => if x.length ≤ 100000 then some x.length else none
  | .ptr p => match μ p with
    | some (.lst ds) => some ds.length
    | _ => none
  | _ => none
theorem ca_len (S : Sit g k N vis loc gl sc X) {d : D} {n : Nat} (h : lenD μ d = some n) (q : Post (.int (n : Nat)) μ) : CaD g (fun xs H Q => ∃ x n, xs = [x] ∧ LenV X.K x H n ∧ Q (.int n) H) [d] μ Post := fun H us Q m r kk => by
  obtain ⟨u, eu, ru⟩ := rps1 r
  subst eu
  refine ⟨u, n, rfl, ?_, kk _ _ (VQ.at (d := .int _) m rfl q)⟩
  cases d with
  | tup ds => cases h; obtain ⟨a, xs, e, t, rr⟩ := ru; subst e; exact .inr ⟨xs, S.hK ▸ t.sq, rps_length rr⟩
  | tupx ds => cases h; obtain ⟨a, xs, ob, e, t, _, _, rr⟩ := ru; subst e; exact .inr ⟨xs, .inl (.inr ⟨ob, t⟩), rps_length rr⟩
  | lst ds => cases h; obtain ⟨a, xs, e, t, _, rr⟩ := ru; subst e; exact .inl ⟨xs, SqL.of t, rps_length rr⟩
  | frl ds => cases h; obtain ⟨a, xs, e, t, rr⟩ := ru; subst e; exact .inl ⟨xs, S.hK ▸ t.sq, rps_length rr⟩
  | str x =>
    have eu : u = .str x := ru
    subst eu
    have h : (if x.length ≤ 100000 then some x.length else none) = some n := h
    by_cases hl : x.length ≤ 100000
    · rw [if_pos hl] at h
      cases h
      exact ⟨kb hl, rfl⟩
    · rw [if_neg hl] at h
      cases h
  | ptr p =>
    have eu : u = .ref p := ru
    subst eu
    have h : (match μ p with
      | some (.lst ds) => some ds.length
      | _ => none) = some n := h
    cases hp : μ p with
    | none => rw [hp] at h; cases h
    | some c =>
      rw [hp] at h
      cases c with
      | lst ds =>
        cases h
        obtain ⟨xs, hx, rr⟩ := m p _ hp
        exact .inl ⟨xs, SqL.of hx, rps_length rr⟩
      | _ => cases h
  | _ => cases h
theorem w_len (S : Sit g k N vis loc gl sc X) (i : Nat) (hx : gl[i]? = some ("len" : Str)) (hm : g.mg "len" = none) (h : W g X e ρ μ fun d m => ∃ n, lenD m d = some n ∧ Post (.int (n : Nat)) m)
    (he : starEach [e] X.env = [(false, eval e X.env)] := by rfl) : W g X (.Call (.Name "len" p) [e] [] pos) ρ μ Post :=
  w_callB S call_len i hx hm boot_len (wa_cons (h.mono fun d m ⟨n, hn, q⟩ => wa_nil (ca_len S hn q)) he) he rfl
theorem w_intB (S : Sit g k N vis loc gl sc X) (i : Nat) (hx : gl[i]? = some ("int" : Str)) (hm : g.mg "int" = none) (h : W g X e ρ μ fun d m => ∃ b, d = .bl b ∧ Post (.int (if b then 1 else 0)) m)
    (he : starEach [e] X.env = [(false, eval e X.env)] := by rfl) : W g X (.Call (.Name "int" p) [e] [] pos) ρ μ Post :=
  w_callTy S call_int1 i hx hm (by decide +kernel) (wa_cons (h.mono fun d m ⟨b, ed, q⟩ => wa_nil (fun H us Q mm r kk => by
    subst ed
    obtain ⟨u, eu, ru⟩ := rps1 r
    have : u = .bl b := ru
    subst eu this
    exact .inr ⟨b, rfl, kk _ _ (VQ.at (d := .int _) mm rfl q)⟩)) he) he rfl
theorem w_strI (S : Sit g k N vis loc gl sc X) (i : Nat) (hx : gl[i]? = some ("str" : Str)) (hm : g.mg "str" = none) (h : W g X e ρ μ fun d m => ∃ n : Int, d = .int n ∧ n.natAbs.log2 < 1920 ∧ Post (.str (toString n)) m)
    (he : starEach [e] X.env = [(false, eval e X.env)] := by rfl) : W g X (.Call (.Name "str" p) [e] [] pos) ρ μ Post :=
  w_callTy S call_str_int i hx hm (by decide +kernel) (wa_cons (h.mono fun d m ⟨b, ed, hl, q⟩ => wa_nil (fun H us Q mm r kk => by
    subst ed
    obtain ⟨u, eu, ru⟩ := rps1 r
    have : u = .int b := ru
    subst eu this
    exact ⟨b, rfl, hl, kk _ _ (VQ.at (d := .str _) mm rfl q)⟩)) he) he rfl
theorem w_sum (S : Sit g k N vis loc gl sc X) (i : Nat) (hx : gl[i]? = some ("sum" : Str)) (hm : g.mg "sum" = none) (h : W g X e ρ μ fun d m => ∃ ns : List Int, d = .lst (ns.map .int) ∧ Post (.int ns.sum) m)
    (he : starEach [e] X.env = [(false, eval e X.env)] := by rfl) : W g X (.Call (.Name "sum" p) [e] [] pos) ρ μ Post :=
  w_callB S (cr_sum S.calm) i hx hm (by decide +kernel) (wa_cons (h.mono fun d m ⟨ns, ed, q⟩ => wa_nil (fun H us Q mm r kk => by
    subst ed
    obtain ⟨u, eu, a, xs, e, t, _, rr⟩ := rps1 r
    subst eu e
    rw [rps_ints rr] at t
    exact ⟨a, ns, rfl, SqL.of t, kk _ _ (VQ.at (d := .int _) mm rfl q)⟩)) he) he rfl
theorem w_maxL (S : Sit g k N vis loc gl sc X) (i : Nat) (hx : gl[i]? = some ("max" : Str)) (hm : g.mg "max" = none) (h : W g X e ρ μ fun d m => ∃ ns : List Int, d = .lst (ns.map .int) ∧ 0 < ns.length ∧ ∀ z, z ∈ ns → (∀ y, y ∈ ns → y ≤ z) → Post (.int z) m)
    (he : starEach [e] X.env = [(false, eval e X.env)] := by rfl) : W g X (.Call (.Name "max" p) [e] [] pos) ρ μ Post :=
  w_callB S (cr_max S.calm) i hx hm (by decide +kernel) (wa_cons (h.mono fun d m ⟨ns, ed, hl, q⟩ => wa_nil (fun H us Q mm r kk => by
    subst ed
    obtain ⟨u, eu, a, xs, e, t, _, rr⟩ := rps1 r
    subst eu e
    rw [rps_ints rr] at t
    exact ⟨a, ns, rfl, SqL.of t, hl, fun z h1 h2 => kk _ _ (VQ.at (d := .int _) mm rfl (q z h1 h2))⟩)) he) he rfl
theorem w_max2 (S : Sit g k N vis loc gl sc X) (i : Nat) (hx : gl[i]? = some ("max" : Str)) (hm : g.mg "max" = none) (h : W g X a ρ μ fun x m1 => W g X b ρ m1 fun y m2 => ∃ i j, x = .int i ∧ y = .int j ∧ Post (.int (if j > i then j else i)) m2)
    (he : starEach [a, b] X.env = (false, eval a X.env) :: starEach [b] X.env := by rfl) (he2 : starEach [b] X.env = [(false, eval b X.env)] := by rfl) (hpl : (backTo pos (starEach [b] X.env)).any (·.1) = false := by rfl) : W g X (.Call (.Name "max" p) [a, b] [] pos) ρ μ Post :=
  w_callB S (call_max2 S.calm) i hx hm (by decide +kernel) (wa_cons (h.mono fun d m hb => wa_cons (hb.mono fun y m2 ⟨i, j, e1, e2, q⟩ => wa_nil (fun H us Q mm r kk => by
    subst e1 e2
    obtain ⟨u, v, eu, r1, r2⟩ := rps2 r
    have h1 : u = .int i := r1
    have h2 : v = .int j := r2
    subst eu h1 h2
    exact ⟨i, j, rfl, kk _ _ (VQ.at (d := .int _) mm rfl q)⟩)) he2) he) he hpl
theorem w_all (S : Sit g k N vis loc gl sc X) (i : Nat) (hx : gl[i]? = some ("all" : Str)) (hm : g.mg "all" = none) (h : W g X e ρ μ fun d m => ∃ bs : List Bool, d = .lst (bs.map .bl) ∧ Post (.bl (bs.all id)) m)
    (he : starEach [e] X.env = [(false, eval e X.env)] := by rfl) : W g X (.Call (.Name "all" p) [e] [] pos) ρ μ Post :=
  w_callB S (cr_all S.calm) i hx hm (by decide +kernel) (wa_cons (h.mono fun d m ⟨ns, ed, q⟩ => wa_nil (fun H us Q mm r kk => by
    subst ed
    obtain ⟨u, eu, a, xs, e, t, _, rr⟩ := rps1 r
    subst eu e
    rw [rps_bls rr] at t
    exact ⟨a, ns, rfl, SqL.of t, kk _ _ (VQ.at (d := .bl _) mm rfl q)⟩)) he) he rfl
theorem w_listOf (S : Sit g k N vis loc gl sc X) (i : Nat) (hx : gl[i]? = some ("list" : Str)) (hm : g.mg "list" = none) (h : W g X e ρ μ fun d m => ∃ ds, (d = .lst ds ∨ d = .tup ds ∨ d = .tupx ds) ∧ Post (.lst ds) m)
    (he : starEach [e] X.env = [(false, eval e X.env)] := by rfl) : W g X (.Call (.Name "list" p) [e] [] pos) ρ μ Post :=
  w_callTy S call_list_of i hx hm (by decide +kernel) (wa_cons (h.mono fun d m ⟨ds, ed, q⟩ => wa_nil (fun H us Q mm r kk => by
    obtain ⟨u, eu, ru⟩ := rps1 r
    subst eu
    have hh : ∃ a1 xs, u = .ref a1 ∧ (SqL X.K H a1 xs ∨ SqT X.K H a1 xs) ∧ Rps g.K m H ds xs := by
      rcases ed with e1 | e1 | e1
      · subst e1
        obtain ⟨a1, xs, eu, tu, n1, r1⟩ := ru
        exact ⟨a1, xs, eu, .inl (SqL.of tu), r1⟩
      · subst e1
        obtain ⟨a1, xs, eu, tu, r1⟩ := ru
        exact ⟨a1, xs, eu, .inr (S.hK ▸ tu.sq), r1⟩
      · subst e1
        obtain ⟨a1, xs, ob, eu, tu, _, _, r1⟩ := ru
        exact ⟨a1, xs, eu, .inr (.inl (.inr ⟨ob, tu⟩)), r1⟩
    obtain ⟨a1, xs, eu, tu, r1⟩ := hh
    subst eu
    exact ⟨a1, xs, rfl, tu, fun l hl => kk _ _ ⟨.lst ds, m, gs_new hl, mk_new mm hl, ⟨l, _, rfl, upd_same, mm.new hl, rps_mono (gs_new hl) _ _ r1⟩, q⟩⟩)) he) he rfl
end
end Mb
set_option maxHeartbeats 4000000
namespace Mb
open PySem PySem.Spec L2
section
variable {g : Gb} {k : Nat} {N : List Str} {vis loc : List Nat} {gl : List Str} {sc : Scope} {X : Cx} {ρ : Ro} {μ : Mu} {R : AE} {pos p apos : Pos} {Post : AQ} {e o a b : Expr} {es : List Expr}
/-! ### lists that are changed -/
/-- xs.append(e) -/
theorem ws_append (S : Sit g k N vis loc gl sc X) {name : Str} (hn : name = "append") (h : W g X o ρ μ fun x m1 => ∃ l, x = .ptr l ∧ (∃ ds0, m1 l = some (.lst ds0)) ∧ W g X e ρ m1 fun d m2 => ∃ ds, m2 l = some (.lst ds) ∧ ds.length < 100000 ∧ R.nx ρ (up m2 l (.lst (ds ++ [d]))))
    (hbase : attributeBase o name X.env (eval o X.env) = eval o X.env := by rfl)
    (hfew : ((backTo p (starEach [e] X.env)).all (fun x => !x.1) && (backToKw p (keywordEach [] X.env)).all (fun x => x.1.isSome)
      && decide ([e].length + ([] : List Keyword).length + (if ([] : List Keyword).isEmpty then 0 else 1) < 30)) = true := by rfl)
    (hline : (apos.endLine == p.line) = true := by rfl) (hs : starEach [e] X.env = [(false, eval e X.env)] := by rfl) (hsw : swapsWith (.Call (.Attribute o name apos) [e] [] p) none pos.line X.env = pure false := by rfl) : WS g X (.Expr (.Call (.Attribute o name apos) [e] [] p) pos) ρ μ R := fun σ H at_ => by
  subst hn
  refine ES.of (ps_expr (pe_bm PySem.F.plainAttrs_list PySem.F.slot_list_append PySem.F.type_list_append mt_append (E.pe X o) (pa_cons (E.pe X e) pa_nil hs) hbase hfew hline hs rfl) hsw) ?_
  refine h.then at_ fun x m1 u H1 G1 a1 r1 ⟨l, ex, ⟨ds0, h0⟩, q⟩ => ?_
  subst ex
  have eu : u = .ref l := r1
  subst eu
  obtain ⟨xs0, hx0, _⟩ := a1.mu l _ h0
  refine ⟨.inl ⟨rfl, xs0, SqL.of hx0⟩, q.then a1 fun d m2 v H2 G2 a2 r2 ⟨ds, hd, hz, kk⟩ => ?_⟩
  obtain ⟨xs, hx, rr⟩ := a2.mu l _ hd
  refine ⟨l, xs, v, rfl, rfl, hx, by rw [← rps_length rr]; exact kb' hz, ?_⟩
  have G3 : Gs m2 (up m2 l (.lst (ds ++ [d]))) H2 (upd H2 l (.lst (xs ++ [v]))) := gs_write hd
  have M3 := mk_write (o := .lst (xs ++ [v])) (c' := .lst (ds ++ [d])) a2.mu hd ⟨_, upd_same, rps_append (rps_mono G3 _ _ rr) (rps_one (rp_mono G3 _ _ r2))⟩
  exact show RQ g μ H R.nx _ _ from ⟨ρ, _, (G1.trans G2).trans G3, a2.go G3 M3, kk⟩
/-- xs.extend(ys), ys a list of data -/
theorem ws_extend (S : Sit g k N vis loc gl sc X) {name : Str} (hn : name = "extend") (h : W g X o ρ μ fun x m1 => ∃ l, x = .ptr l ∧ (∃ ds0, m1 l = some (.lst ds0)) ∧ W g X e ρ m1 fun d m2 => ∃ es ds, d = .lst es ∧ m2 l = some (.lst ds) ∧ ds.length + es.length ≤ 100000 ∧ R.nx ρ (up m2 l (.lst (ds ++ es))))
    (hbase : attributeBase o name X.env (eval o X.env) = eval o X.env := by rfl)
    (hfew : ((backTo p (starEach [e] X.env)).all (fun x => !x.1) && (backToKw p (keywordEach [] X.env)).all (fun x => x.1.isSome)
      && decide ([e].length + ([] : List Keyword).length + (if ([] : List Keyword).isEmpty then 0 else 1) < 30)) = true := by rfl)
    (hline : (apos.endLine == p.line) = true := by rfl) (hs : starEach [e] X.env = [(false, eval e X.env)] := by rfl) (hsw : swapsWith (.Call (.Attribute o name apos) [e] [] p) none pos.line X.env = pure false := by rfl) : WS g X (.Expr (.Call (.Attribute o name apos) [e] [] p) pos) ρ μ R := fun σ H at_ => by
  subst hn
  refine ES.of (ps_expr (pe_bm PySem.F.plainAttrs_list PySem.F.slot_list_extend PySem.F.type_list_extend mt_extend (E.pe X o) (pa_cons (E.pe X e) pa_nil hs) hbase hfew hline hs rfl) hsw) ?_
  refine h.then at_ fun x m1 u H1 G1 a1 r1 ⟨l, ex, ⟨ds0, h0⟩, q⟩ => ?_
  subst ex
  have eu : u = .ref l := r1
  subst eu
  obtain ⟨xs0, hx0, _⟩ := a1.mu l _ h0
  refine ⟨.inl ⟨rfl, xs0, SqL.of hx0⟩, q.then a1 fun d m2 v H2 G2 a2 r2 ⟨es, ds, ed, hd, hz, kk⟩ => ?_⟩
  subst ed
  obtain ⟨xs, hx, rr⟩ := a2.mu l _ hd
  obtain ⟨b2, ys, ev, hy, _, ry⟩ := r2
  subst ev
  refine ⟨l, b2, xs, ys, rfl, rfl, hx, hy, by rw [← rps_length rr, ← rps_length ry]; exact kb hz, ?_⟩
  have G3 : Gs m2 (up m2 l (.lst (ds ++ es))) H2 (upd H2 l (.lst (xs ++ ys))) := gs_write hd
  have M3 := mk_write (o := .lst (xs ++ ys)) (c' := .lst (ds ++ es)) a2.mu hd ⟨_, upd_same, rps_append (rps_mono G3 _ _ rr) (rps_mono G3 _ _ ry)⟩
  exact show RQ g μ H R.nx _ _ from ⟨ρ, _, (G1.trans G2).trans G3, a2.go G3 M3, kk⟩
/-- xs[i] = e -/
theorem ws_setIx (h : W g X e ρ μ fun d m0 => W g X o ρ m0 fun x m1 => W g X a ρ m1 fun y m2 => ∃ l i ds j, x = .ptr l ∧ y = .int i ∧ m2 l = some (.lst ds) ∧ ixN ds.length i = some j ∧ R.nx ρ (up m2 l (.lst (ds.set j d))))
    (ha : ∀ v, assign (.Subscript o a p) X.env v = (do
      let ov ← holding [v] (eval o X.env)
      let iv ← holding [v, ov] (eval a X.env)
      standAt p
      holding [v, ov, iv] (setItem ov iv v)
      release [v, ov, iv] []) := by intro _; rfl) (hs : swapsWithSole [.Subscript o a p] e pos.line X.env = pure false := by rfl) (hw : swappedStores [.Subscript o a p] e X.env = pure none := by rfl)
    (h1 : (assignEach [.Subscript o a p] X.env).map (·.2) = [assign (.Subscript o a p) X.env] := by rfl) : WS g X (.Assign [.Subscript o a p] e pos) ρ μ R := fun σ H at_ => by
  refine ES.of (ps_asg (E.pe X e) (pg_sub (E.pe X o) (E.pe X a) set_list ha) hs hw h1) ?_
  refine h.then at_ fun d m0 v H0 G0 a0 r0 q0 => q0.then a0 fun x m1 u H1 G1 a1 r1 q1 => q1.then a1 fun y m2 w H2 G2 a2 r2 ⟨l, i, ds, j, ex, ey, hd, hj, kk⟩ => ?_
  subst ex ey
  obtain ⟨xs, hx, rr⟩ := a2.mu l _ hd
  refine ⟨l, xs, i, j, r1, r2, hx, by rw [← rps_length rr]; exact hj, ?_⟩
  have G3 : Gs m2 (up m2 l (.lst (ds.set j d))) H2 (upd H2 l (.lst (xs.set j v))) := gs_write hd
  have M3 := mk_write (o := .lst (xs.set j v)) (c' := .lst (ds.set j d)) a2.mu hd ⟨_, upd_same, rps_set j (rps_mono G3 _ _ rr) (rp_mono G3 _ _ (rp_mono (G1.trans G2) _ _ r0))⟩
  exact show RQ g μ H R.nx _ _ from ⟨ρ, _, ((G0.trans G1).trans G2).trans G3, a2.go G3 M3, kk⟩
/-! ### dicts of ints and texts -/
def kD : D → Option Key
  | .int i => some (.inl i)
  | .str x => some (.inr x)
  | _ => none
theorem kD_rp {d : D} {kk : Key} (h : kD d = some kk) {m : Mu} {H : Hp} {v : V} (r : Rp g.K m H d v) : v = kV kk := by
  cases d with
  | int i => cases h; exact r
  | str x => cases h; exact r
  | _ => cases h
/-- what a dict holds at a key -/
def vD (ks : List Key) (ds : List D) (kk : Key) : Option D := ((ks.zip ds).find? fun z => decide (z.1 = kk)).map (·.2)
theorem vD_rp {m : Mu} {H : Hp} : ∀ {ks : List Key} {ds : List D} {xs : List V} {kk : Key}, Rps g.K m H ds xs → ks.length = xs.length → (∀ d, vD ks ds kk = some d → ∃ v, valV (ks.zip xs) kk = some v ∧ Rp g.K m H d v) ∧ (vD ks ds kk = none → valV (ks.zip xs) kk = none)
  | [], _, _, kk, _, _ => ⟨fun d h => (by cases h), fun _ => rfl⟩
  | k0 :: ks, [], xs, kk, r, hl => by
    have hr : xs = [] := r
    subst hr
    simp at hl
  | k0 :: ks, d0 :: ds, _, kk, ⟨v, rest, ev, rv, rr⟩, hl => by
    subst ev
    have ih := vD_rp (ks := ks) (kk := kk) rr (by simpa using hl)
    by_cases e : k0 = kk
    · subst e
      refine ⟨fun d h => ?_, fun h => ?_⟩
      · have : d = d0 := by simpa [vD, List.find?_cons] using h.symm
        subst this
        exact ⟨v, by simp [valV, List.find?_cons], rv⟩
      · simp [vD, List.find?_cons] at h
    · refine ⟨fun d h => ?_, fun h => ?_⟩
      · have h' : vD ks ds kk = some d := by simpa [vD, List.find?_cons, e] using h
        obtain ⟨v', h1, h2⟩ := ih.1 d h'
        exact ⟨v', by simpa [valV, List.find?_cons, e] using h1, h2⟩
      · have h' : vD ks ds kk = none := by simpa [vD, List.find?_cons, e] using h
        simpa [valV, List.find?_cons, e] using ih.2 h'
/-- the dict that a value stands for -/
def dicD (m : Mu) : D → Option (List Key × List D)
  | .dic ks ds => some (ks, ds)
  | .ptr q => match m q with
    | some (.dic ks ds) => some (ks, ds)
    | _ => none
  | _ => none
theorem dicD_rp {d : D} {ks : List Key} {ds : List D} {m : Mu} {H : Hp} {v : V} (M : Mk g m H) (h : dicD m d = some (ks, ds)) (r : Rp g.K m H d v) : ∃ q xs, v = .ref q ∧ H q = some (.dK (ks.zip xs)) ∧ ks.length = xs.length ∧ Rps g.K m H ds xs := by
  cases d with
  | dic ks' ds' =>
    cases h
    obtain ⟨q, xs, ev, hq, _, hl, rr⟩ := r
    exact ⟨q, xs, ev, hq, hl, rr⟩
  | ptr q =>
    have h' : (match m q with
      | some (.dic ks ds) => some (ks, ds)
      | _ => none) = some (ks, ds) := h
    cases hm : m q with
    | none => rw [hm] at h'; cases h'
    | some c =>
      rw [hm] at h'
      cases c with
      | dic ks' ds' =>
        cases h'
        obtain ⟨xs, hq, hl, rr⟩ := M q _ hm
        exact ⟨q, xs, r, hq, hl, rr⟩
      | _ => cases h'
  | _ => cases h
/-- d[k], k there -/
theorem w_dget (S : Sit g k N vis loc gl sc X) (h : W g X o ρ μ fun x m1 => W g X a ρ m1 fun y m2 => ∃ ks ds kk d, dicD m2 x = some (ks, ds) ∧ kD y = some kk ∧ vD ks ds kk = some d ∧ Post d m2) (hs : NoSl a := by exact fun _ _ => rfl) : W g X (.Subscript o a pos) ρ μ Post := fun σ H at_ => by
  refine E.of (pe_dget S.hu (E.pe X o) (E.pe X a) hs) ?_
  refine h.then at_ fun x m1 u H1 G1 a1 r1 q => q.then a1 fun y m2 v H2 G2 a2 r2 ⟨ks, ds, kk, d, hd, hk, hv, post⟩ => ?_
  obtain ⟨q, xs, eu, hq, hl, rr⟩ := dicD_rp a2.mu hd (rp_mono G2 _ _ r1)
  obtain ⟨w, hw, rw'⟩ := (vD_rp rr hl).1 d hv
  refine ⟨q, w, eu, ?_, d, m2, G1.trans G2, a2.mu, rw', post⟩
  rw [kD_rp hk r2, ← hw]
  exact DGet.k hq
/-- k in d -/
theorem wt_din (S : Sit g k N vis loc gl sc X) {PB : Bool → Mu → Prop} (h : W g X a ρ μ fun y m1 => W g X o ρ m1 fun x m2 => ∃ ks ds kk, dicD m2 x = some (ks, ds) ∧ kD y = some kk ∧ PB (vD ks ds kk).isSome m2) (hm : behindInMarks .In o = false := by rfl) : WT g X (.Compare a [.In] [o] pos) ρ μ PB := fun σ H at_ => by
  refine ET.of (pt_cmp (pc_din S.hu (E.pe X a) (E.pe X o)) hm) ?_
  refine h.then at_ fun y m1 u H1 G1 a1 r1 q => q.then a1 fun x m2 v H2 G2 a2 r2 ⟨ks, ds, kk, hd, hk, post⟩ => ?_
  obtain ⟨q, xs, ev, hq, hl, rr⟩ := dicD_rp a2.mu hd r2
  refine ⟨q, valV (ks.zip xs) kk, ev, ?_, (valV (ks.zip xs) kk).isSome, rfl, m2, G1.trans G2, a2.mu, ?_⟩
  · rw [kD_rp hk r1]; exact DGet.k hq
  · have z := vD_rp (kk := kk) rr hl
    cases e : vD ks ds kk with
    | none => rw [z.2 e]; rw [e] at post; exact post
    | some d =>
      obtain ⟨w, hw, _⟩ := z.1 d e
      rw [hw]; rw [e] at post; exact post
theorem wt_dnotin (S : Sit g k N vis loc gl sc X) {PB : Bool → Mu → Prop} (h : W g X a ρ μ fun y m1 => W g X o ρ m1 fun x m2 => ∃ ks ds kk, dicD m2 x = some (ks, ds) ∧ kD y = some kk ∧ PB (!(vD ks ds kk).isSome) m2) (hm : behindInMarks .NotIn o = false := by rfl) : WT g X (.Compare a [.NotIn] [o] pos) ρ μ PB := fun σ H at_ => by
  refine ET.of (pt_cmp (pc_dnotin S.hu (E.pe X a) (E.pe X o)) hm) ?_
  refine h.then at_ fun y m1 u H1 G1 a1 r1 q => q.then a1 fun x m2 v H2 G2 a2 r2 ⟨ks, ds, kk, hd, hk, post⟩ => ?_
  obtain ⟨q, xs, ev, hq, hl, rr⟩ := dicD_rp a2.mu hd r2
  refine ⟨q, valV (ks.zip xs) kk, ev, ?_, !(valV (ks.zip xs) kk).isSome, rfl, m2, G1.trans G2, a2.mu, ?_⟩
  · rw [kD_rp hk r1]; exact DGet.k hq
  · have z := vD_rp (kk := kk) rr hl
    cases e : vD ks ds kk with
    | none => rw [z.2 e]; rw [e] at post; exact post
    | some d =>
      obtain ⟨w, hw, _⟩ := z.1 d e
      rw [hw]; rw [e] at post; exact post
/-- what a dict is behind d[k] = v -/
def putD (ks : List Key) (ds : List D) (kk : Key) (d : D) : List Key × List D := match ks.findIdx? fun z => decide (z = kk) with
  | some i => (ks, ds.set i d)
  | none => (ks ++ [kk], ds ++ [d])
theorem valV_none_ix {kk : Key} : ∀ {ks : List Key} {xs : List V}, ks.length = xs.length → ks.findIdx? (fun z => decide (z = kk)) = none → valV (ks.zip xs) kk = none
  | [], _, _, _ => rfl
  | k0 :: ks, [], h, _ => by simp at h
  | k0 :: ks, x :: xs, h, hi => by
    rw [List.findIdx?_cons] at hi
    by_cases e : k0 = kk
    · simp [e] at hi
    · simp only [e, decide_false] at hi
      have := valV_none_ix (kk := kk) (ks := ks) (xs := xs) (by simpa using h) (by simpa using hi)
      simpa [valV, List.find?_cons, e] using this
theorem valV_some_ix {kk : Key} : ∀ {ks : List Key} {xs : List V} {i : Nat}, ks.length = xs.length → ks.findIdx? (fun z => decide (z = kk)) = some i → (valV (ks.zip xs) kk).isSome = true
  | [], _, _, _, h => by simp at h
  | k0 :: ks, [], _, h, _ => by simp at h
  | k0 :: ks, x :: xs, i, h, hi => by
    rw [List.findIdx?_cons] at hi
    by_cases e : k0 = kk
    · simp [valV, List.find?_cons, e]
    · simp only [e, decide_false] at hi
      cases q : List.findIdx? (fun z => decide (z = kk)) ks with
      | none => rw [q] at hi; simp at hi
      | some j =>
        have := valV_some_ix (kk := kk) (ks := ks) (xs := xs) (by simpa using h) q
        simpa [valV, List.find?_cons, e] using this
theorem map_zip_set {kk : Key} {v : V} : ∀ {ks : List Key} {xs : List V} {i : Nat}, ks.Nodup → ks.length = xs.length → ks.findIdx? (fun z => decide (z = kk)) = some i → (ks.zip xs).map (fun kv => if kv.1 = kk then (kv.1, v) else kv) = ks.zip (xs.set i v)
  | [], _, _, _, _, h => by simp at h
  | k0 :: ks, [], _, _, h, _ => by simp at h
  | k0 :: ks, x :: xs, i, nd, h, hi => by
    rw [List.findIdx?_cons] at hi
    by_cases e : k0 = kk
    · subst e
      simp at hi
      subst hi
      have hn : ∀ p ∈ ks.zip xs, ¬ p.1 = k0 := fun p hp e => (List.nodup_cons.mp nd).1 (e ▸ (List.of_mem_zip hp).1)
      have : (ks.zip xs).map (fun kv => if kv.1 = k0 then (kv.1, v) else kv) = ks.zip xs := by
        conv => rhs; rw [← List.map_id (ks.zip xs)]
        exact List.map_congr_left fun p hp => by rw [if_neg (hn p hp)]; rfl
      simp [this]
    · simp only [e, decide_false] at hi
      cases q : List.findIdx? (fun z => decide (z = kk)) ks with
      | none => rw [q] at hi; simp at hi
      | some j =>
        rw [q] at hi
        simp at hi
        subst hi
        have := map_zip_set (kk := kk) (v := v) (ks := ks) (xs := xs) (List.nodup_cons.mp nd).2 (by simpa using h) q
        simp [e, this]
theorem putK_zip {kk : Key} {v : V} {ks : List Key} {xs : List V} (nd : ks.Nodup) (h : ks.length = xs.length) : putK (ks.zip xs) kk v = match ks.findIdx? fun z => decide (z = kk) with
    | some i => ks.zip (xs.set i v)
    | none => (ks ++ [kk]).zip (xs ++ [v]) := by
  cases q : ks.findIdx? fun z => decide (z = kk) with
  | none =>
    rw [putK_new _ (valV_none_ix h q), List.zip_append h]
    rfl
  | some i =>
    have s := valV_some_ix h q
    have a := valV_any kk (ks.zip xs)
    unfold putK
    rw [a, s, if_pos rfl]
    exact map_zip_set nd h q
/-- d[k] = v, the dict a thing that is being changed -/
theorem ws_dput (S : Sit g k N vis loc gl sc X) {pos' : Pos} (h : W g X e ρ μ fun d m0 => W g X o ρ m0 fun x m1 => W g X a ρ m1 fun y m2 => ∃ q ks ds kk, x = .ptr q ∧ m2 q = some (.dic ks ds) ∧ kD y = some kk ∧ ks.Nodup ∧ ks.length < 100000 ∧ R.nx ρ (up m2 q (.dic (putD ks ds kk d).1 (putD ks ds kk d).2)))
    (hs : swapsWith e (some (.Subscript o a pos')) pos.line X.env = pure false := by rfl) : WS g X (.Assign [.Subscript o a pos'] e pos) ρ μ R := fun σ H at_ => by
  refine ES.of (ps_dput S.hu (E.pe X o) (E.pe X a) (E.pe X e) hs) ?_
  refine h.then at_ fun d m0 v H0 G0 a0 r0 q0 => q0.then a0 fun x m1 u H1 G1 a1 r1 q1 => q1.then a1 fun y m2 w H2 G2 a2 r2 ⟨q, ks, ds, kk, ex, hd, hk, nd, hz, post⟩ => ?_
  subst ex
  obtain ⟨xs, hq, hl, rr⟩ := a2.mu q _ hd
  have er := rps_length rr
  have r0' := rp_mono (G1.trans G2) _ _ r0
  refine ⟨q, upd H2 q (.dK (putK (ks.zip xs) kk v)), r1, ?_, ?_⟩
  · rw [kD_rp hk r2]
    exact DPut.k hq (by rw [List.length_zip]; exact Nat.lt_of_le_of_lt (Nat.min_le_left _ _) (kb' hz))
  · rw [putK_zip nd hl]
    have fin : ∀ (ks' : List Key) (ds' : List D) (xs' : List V), putD ks ds kk d = (ks', ds') → ks'.length = xs'.length → (∀ {m' : Mu} {H' : Hp}, Gs m2 m' H2 H' → Rps g.K m' H' ds' xs') → (EN g μ H R).nx σ (upd H2 q (.dK (ks'.zip xs'))) := fun ks' ds' xs' ep hl' rr' => by
      have G3 : Gs m2 (up m2 q (.dic ks' ds')) H2 (upd H2 q (.dK (ks'.zip xs'))) := gs_write hd
      have M3 : Mk g (up m2 q (.dic ks' ds')) (upd H2 q (.dK (ks'.zip xs'))) := mk_write (c' := .dic ks' ds') a2.mu hd ⟨xs', upd_same, hl', rr' G3⟩
      rw [ep] at post
      exact ⟨ρ, _, ((G0.trans G1).trans G2).trans G3, a2.go G3 M3, post⟩
    cases e2 : ks.findIdx? fun z => decide (z = kk) with
    | none => exact fin (ks ++ [kk]) (ds ++ [d]) (xs ++ [v]) (by unfold putD; rw [e2]) (by simp [hl]) fun G3 => rps_append (rps_mono G3 _ _ rr) (rps_one (rp_mono G3 _ _ r0'))
    | some i => exact fin ks (ds.set i d) (xs.set i v) (by unfold putD; rw [e2]) (by simp [hl]) fun G3 => rps_set i (rps_mono G3 _ _ rr) (rp_mono G3 _ _ r0')
end
end Mb
set_option maxHeartbeats 4000000
namespace Mb
open PySem PySem.Spec L2
/-! ### dict displays -/
def WP (g : Gb) (X : Cx) : List (Option Expr) → List Expr → Ro → Mu → (List (Key × D) → Mu → Prop) → Prop
  | [], [], _, μ, P => P [] μ
  | some ke :: ks, ve :: vs, ρ, μ, P => W g X ke ρ μ fun dk m => ∃ kk, kD dk = some kk ∧ W g X ve ρ m fun dv m2 => WP g X ks vs ρ m2 fun r m3 => P ((kk, dv) :: r) m3
  | _, _, _, _, _ => False
def trsOf (X : Cx) : List (Option Expr) → List Expr → List (TE × TE)
  | some ke :: ks, ve :: vs => (E X ke, E X ve) :: trsOf X ks vs
  | _, _ => []
theorem pps_of (X : Cx) (pos : Pos) : ∀ {ks : List (Option Expr)} {vs : List Expr}, ks.all (·.isSome) = true → ks.length = vs.length → PPs X pos ks vs (trsOf X ks vs)
  | [], [], _, _ => pps_nil
  | some ke :: ks, ve :: vs, h, hl => pps_cons (E.pe X ke) (E.pe X ve) (pps_of X pos (by simpa using h) (by simpa using hl))
  | none :: _, _, h, _ => by simp at h
  | [], _ :: _, _, h => by simp at h
  | _ :: _, [], _, h => by simp at h
theorem mergeK_apart : ∀ (kvs acc : List (Key × V)), (acc.map (·.1) ++ kvs.map (·.1)).Nodup → mergeK acc kvs = acc ++ kvs
  | [], acc, _ => by simp [mergeK]
  | p :: r, acc, nd => by
    have hn : ∀ q ∈ acc, ¬ q.1 = p.1 := fun q hq e => by
      have := (List.nodup_append.mp nd).2.2 q.1 (List.mem_map.mpr ⟨q, hq, rfl⟩) p.1 (by simp)
      exact this e
    have hv : valV acc p.1 = none := by
      unfold valV
      rw [List.find?_eq_none.mpr (fun q hq => by simpa using hn q hq)]
      rfl
    show mergeK (putK acc p.1 p.2) r = _
    rw [putK_new _ hv]
    have := mergeK_apart r (acc ++ [(p.1, p.2)]) (by simpa [List.append_assoc] using nd)
    rw [this]
    simp
section
variable {g : Gb} {k : Nat} {N : List Str} {vis loc : List Nat} {gl : List Str} {sc : Scope} {X : Cx} {ρ : Ro} {μ : Mu} {R : AE} {pos p apos : Pos} {Post : AQ} {e o a b : Expr} {es : List Expr}
theorem WP.then : ∀ {ks : List (Option Expr)} {vs : List Expr} {ρ : Ro} {μ : Mu} {P : List (Key × D) → Mu → Prop} {σ : L2.St} {H : Hp} {Q : List (V × V) → Hp → Prop}, WP g X ks vs ρ μ P → At g ρ μ σ H →
    (∀ kds m H' us, Gs μ m H H' → At g ρ m σ H' → Rps g.K m H' (kds.map (·.2)) us → P kds m → Q ((kds.map (·.1)).zipWith (fun k v => (kV k, v)) us) H') → tPairs (trsOf X ks vs) σ H Q
  | [], [], _, _, _, _, _, _, h, a, kk => kk [] _ _ [] (.refl _ _) a rfl h
  | some ke :: ks, ve :: vs, ρ, μ, P, σ, H, Q, h, a, kk => by
    refine W.then h a fun dk m u H1 G1 a1 r1 ⟨key, hk, h2⟩ => h2.then a1 fun dv m2 v H2 G2 a2 r2 h3 => WP.then h3 a2 fun kds m3 H3 us G3 a3 r3 q => ?_
    have := kk ((key, dv) :: kds) m3 H3 (v :: us) ((G1.trans G2).trans G3) a3 ⟨v, us, rfl, rp_mono G3 _ _ r2, r3⟩ q
    rw [kD_rp hk r1]
    exact this
  | none :: _, _, _, _, _, _, _, _, h, _, _ => h.elim
  | [], _ :: _, _, _, _, _, _, _, h, _, _ => h.elim
  | some _ :: _, [], _, _, _, _, _, _, h, _, _ => h.elim
theorem zipWith_kV (kds : List (Key × D)) (us : List V) : ((kds.map (·.1)).zipWith (fun k v => (kV k, v)) us) = ((kds.map (·.1)).zip us).map fun kv => (kV kv.1, kv.2) := by
  rw [List.zip_eq_zipWith, List.map_zipWith]
/-- {k: v, ..} with written keys -/
theorem w_disp {ks : List (Option Expr)} {vs : List Expr} (h : ∀ q, μ q = none → WP g X ks vs ρ (up μ q (.dic [] [])) fun kds m => ∃ m', m = up m' q (.dic [] []) ∧ m' q = none ∧ (kds.map (·.1)).Nodup ∧ kds.length ≤ 15 ∧ Post (.dic (kds.map (·.1)) (kds.map (·.2))) m')
    (hall : ks.all (·.isSome) = true := by rfl) (hl : ks.length = vs.length := by rfl) (h0 : ks ≠ [] := by exact fun z => by cases z) (h15 : ks.length ≤ 15 := by decide) : W g X (.Dict ks vs pos) ρ μ Post := fun σ H at_ => by
  refine E.of (pe_disp (pps_of X pos hall hl) hall hl h0 h15) ?_
  intro q hq
  have G0 : Gs μ (up μ q (.dic [] [])) H (upd H q (.dK [])) := gs_alloc hq
  have a0 := at_.go G0 (mk_alloc at_.mu hq ⟨[], upd_same, rfl, rfl⟩)
  refine (h q (at_.mu.new hq)).then a0 fun kds m H1 us G1 a1 r1 ⟨m', em, hm, nd, hz, post⟩ => ?_
  subst em
  obtain ⟨xs, hx, hl0, rx⟩ := a1.mu q _ up_same
  have hxs : H1 q = some (.dK []) := by rw [hx]; rfl
  have lus := rps_length r1
  rw [List.length_map] at lus
  refine ⟨hxs, (kds.map (·.1)).zip us, zipWith_kV kds us, by rw [List.length_zip, List.length_map]; omega, ?_⟩
  have em : mergeK [] ((kds.map (·.1)).zip us) = (kds.map (·.1)).zip us := by
    have := mergeK_apart ((kds.map (·.1)).zip us) [] (by
      rw [List.map_nil, List.nil_append, List.map_fst_zip (by rw [List.length_map]; omega)]
      exact nd)
    simpa using this
  rw [em]
  have G2 := gs_write (μ := up m' q (.dic [] [])) (H := H1) (o := .dK ((kds.map (·.1)).zip us)) (c' := .dic (kds.map (·.1)) (kds.map (·.2))) up_same
  have M2 := mk_write (o := .dK ((kds.map (·.1)).zip us)) (c' := .dic (kds.map (·.1)) (kds.map (·.2))) a1.mu up_same ⟨us, upd_same, by rw [List.length_map]; omega, rps_mono G2 _ _ r1⟩
  rw [up_up] at G2 M2
  have ed : dl (up m' q (.dic (kds.map (·.1)) (kds.map (·.2)))) q = m' := dl_up hm
  have G3 := gs_dl (μ := up m' q (.dic (kds.map (·.1)) (kds.map (·.2)))) (H := upd H1 q (.dK ((kds.map (·.1)).zip us))) (p := q)
  have M3 := mk_dl (p := q) M2
  have r3 := fz_rp (d := .dic (kds.map (·.1)) (kds.map (·.2))) M2 up_same rfl
  rw [ed] at G3 M3 r3
  exact ⟨_, m', ((G0.trans G1).trans G2).trans G3, M3, r3, post⟩
/-- d.get(k, x) -/
theorem w_dget2 (S : Sit g k N vis loc gl sc X) {name : Str} (hn : name = "get") {f : Expr} (h : W g X o ρ μ fun x m1 => ∃ ks ds, x = .dic ks ds ∧ W g X e ρ m1 fun y m2 => W g X f ρ m2 fun z m3 => ∃ kk, kD y = some kk ∧ Post ((vD ks ds kk).getD z) m3)
    (h1 : attributeBase o "get" X.env (eval o X.env) = eval o X.env := by rfl)
    (h2 : ((backTo p (starEach [e, f] X.env)).all (fun x => !x.1) && (backToKw p (keywordEach [] X.env)).all (fun x => x.1.isSome)
      && decide (([e, f] : List Expr).length + ([] : List Keyword).length + (if ([] : List Keyword).isEmpty then 0 else 1) < 30)) = true := by rfl)
    (h3 : (apos.endLine == p.line) = true := by rfl) (h4 : backTo p (starEach [e, f] X.env) = [(false, eval e X.env), (false, eval f X.env)] := by rfl) : W g X (.Call (.Attribute o name apos) [e, f] [] p) ρ μ Post := fun σ H at_ => by
  subst hn
  refine E.of (pe_dget2 S.hu (E.pe X o) (E.pe X e) (E.pe X f) ⟨h1, h2, h3, h4⟩) ?_
  refine h.then at_ fun x m1 u H1 G1 a1 r1 ⟨ks, ds, ex, q⟩ => ?_
  subst ex
  have r1' := r1
  obtain ⟨q0, xs, eu, hq, _, hl, rr⟩ := r1
  refine ⟨q0, eu, .inl ⟨_, .inl hq⟩, q.then a1 fun y m2 v H2 G2 a2 r2 q2 => q2.then a2 fun z m3 w H3 G3 a3 r3 ⟨kk, hk, post⟩ => ?_⟩
  obtain ⟨q1, ys, eu2, hq2, n3, hl2, rr2⟩ := rp_mono (G2.trans G3) _ _ r1'
  have eq : q1 = q0 := by rw [eu] at eu2; cases eu2; rfl
  subst eq
  refine ⟨valV (ks.zip ys) kk, ?_, ?_⟩
  · rw [kD_rp hk r2]; exact DGet.k hq2
  · have zz := vD_rp (kk := kk) rr2 hl2
    refine ⟨_, m3, (G1.trans G2).trans G3, a3.mu, ?_, post⟩
    cases e2 : vD ks ds kk with
    | none => rw [zz.2 e2]; exact r3
    | some d =>
      obtain ⟨w', hw, rw'⟩ := zz.1 d e2
      rw [hw]; exact rw'
/-! ### tuples of a list, told exactly -/
theorem call_tupx : CallR X (.type "tuple") (fun xs H Q => ∃ p ys, xs = [.ref p] ∧ SqL X.K H p ys ∧ ∀ l ob, H l = none → ob.dict = none → Q (.ref l) (upd H l (.frz ob (.tup ys)))) := by
  intro pins s σ H xs us Q I r h
  obtain ⟨p, ys, rfl, hq, q⟩ := h
  obtain ⟨u, rfl, rx⟩ := vals1 r
  cases rx
  obtain ⟨its, r', pl, hz⟩ := I.list hq
  have hlen := r'.length
  refine call_tuple_list pl.isList (fun h' kp => ?_) (by simp only [List.size_toArray] <;> omega)
  have I1 : Inv X pins σ H { s with heap := h' } := I.kept (t' := s.toks) kp
  have hg : (h'.push { cls := .type "tuple", data := .seq its.toArray }).get? h'.objs.size = some { cls := .type "tuple", data := .seq its.toArray } := Heap.get?_push_size _ rfl
  have I2 : Inv X pins σ (upd H h'.objs.size (.frz { cls := .type "tuple", data := .seq its.toArray } (.tup ys))) { s with heap := h'.push { cls := .type "tuple", data := .seq its.toArray } } :=
    I1.laid (t' := s.toks) (fun b o e => Heap.get?_push_of_some _ e) (Nat.le_refl _) ⟨hg, hz, its, r', PyProof.Rows.IsTup.new _ _⟩
  exact ⟨.ref h'.objs.size, _, I2, rfl, q _ _ (I1.hok.fresh (Nat.le_refl _)) rfl⟩
theorem w_tupOf (S : Sit g k N vis loc gl sc X) (i : Nat) (hx : gl[i]? = some ("tuple" : Str)) (hm : g.mg "tuple" = none) (h : W g X e ρ μ fun d m => ∃ ds, d = .lst ds ∧ Post (.tupx ds) m)
    (he : starEach [e] X.env = [(false, eval e X.env)] := by rfl) : W g X (.Call (.Name "tuple" p) [e] [] pos) ρ μ Post :=
  w_callTy S call_tupx i hx hm (by decide +kernel) (wa_cons (h.mono fun d m ⟨ds, ed, q⟩ => wa_nil (fun H us Q mm r kk => by
    subst ed
    obtain ⟨u, eu, a1, xs, ea, t, _, rr⟩ := rps1 r
    subst eu ea
    exact ⟨a1, xs, rfl, SqL.of t, fun l ob hl hd => kk _ _ ⟨.tupx ds, m, gs_new hl, mk_new mm hl, ⟨l, xs, ob, rfl, upd_same, hd, mm.new hl, rps_mono (gs_new hl) _ _ rr⟩, q⟩⟩)) he) he rfl
/-- .. as a plain tuple -/
theorem w_tupOfP (S : Sit g k N vis loc gl sc X) (i : Nat) (hx : gl[i]? = some ("tuple" : Str)) (hm : g.mg "tuple" = none) (h : W g X e ρ μ fun d m => ∃ ds, d = .lst ds ∧ Post (.tup ds) m)
    (he : starEach [e] X.env = [(false, eval e X.env)] := by rfl) : W g X (.Call (.Name "tuple" p) [e] [] pos) ρ μ Post :=
  w_callTy S call_tupx i hx hm (by decide +kernel) (wa_cons (h.mono fun d m ⟨ds, ed, q⟩ => wa_nil (fun H us Q mm r kk => by
    subst ed
    obtain ⟨u, eu, a1, xs, ea, t, _, rr⟩ := rps1 r
    subst eu ea
    exact ⟨a1, xs, rfl, SqL.of t, fun l ob hl hd => kk _ _ ⟨.tup ds, m, gs_new hl, mk_new mm hl, ⟨l, xs, rfl, .inl ⟨.inr ⟨ob, upd_same⟩, mm.new hl⟩, rps_mono (gs_new hl) _ _ rr⟩, q⟩⟩)) he) he rfl
theorem tupx_tup {m : Mu} {H : Hp} {ds : List D} {v : V} (h : Rp g.K m H (.tupx ds) v) : Rp g.K m H (.tup ds) v := by
  obtain ⟨a1, xs, ob, e, t, _, n, rr⟩ := h
  exact ⟨a1, xs, e, .inl ⟨.inr ⟨ob, t⟩, n⟩, rr⟩
/-- what is told exactly may be told as a plain tuple -/
theorem w_x {ds : List D} (h : W g X e ρ μ fun d m => ∃ ds, d = .tupx ds ∧ Post (.tup ds) m) : W g X e ρ μ Post := fun σ H at_ =>
  (h σ H at_).mono fun v H' ⟨d, m, G, M, r, ds, ed, q⟩ => by subst ed; exact ⟨_, m, G, M, tupx_tup r, q⟩
/-- a method of such a tuple -/
theorem tupx_is {pins : List (Addr × Obj)} {σ : L2.St} {H : Hp} {s : Shared} {q : Addr} {ob : Obj} {xs : List V} (I : Inv X pins σ H s) (h : H q = some (.frz ob (.tup xs))) (hd : ob.dict = none) : s.TypeIs (.ref q) "tuple" ∧ ∀ a, Value.ref q = .ref a → ∃ o, s.heap.get? a = some o ∧ o.dict = none := by
  obtain ⟨e, _, its, rv, o, e2, hc, n, hdat⟩ := (show ObjOk X.prog X.w H s.heap q (.frz ob (.tup xs)) from I.hok q _ h)
  refine ⟨⟨o, e2, hc⟩, fun a ea => ?_⟩
  cases ea
  exact ⟨ob, e, hd⟩
def tBX (r : V → List V → Hp → VK → Prop) (to : TE) (t : TA) : TE := fun σ H Q => to σ H fun x H1 => (∃ q ob xs, x = .ref q ∧ H1 q = some (.frz ob (.tup xs)) ∧ ob.dict = none) ∧ t σ H1 fun xs H2 => r x xs H2 Q
theorem pe_bmX {name : Str} {id : String} {r : V → List V → Hp → VK → Prop} {to : TE} {t : TA} (slot : Slot "tuple" name id) (hty : typeOf (.builtin id) = pure (.type "method_descriptor")) (hm : MtR X id r) (ho : PE X o to) (ha : PA X (e :: es) t)
    (hbase : attributeBase o name X.env (eval o X.env) = eval o X.env := by rfl)
    (hfew : ((backTo p (starEach (e :: es) X.env)).all (fun x => !x.1) && (backToKw p (keywordEach [] X.env)).all (fun x => x.1.isSome)
      && decide ((e :: es).length + ([] : List Keyword).length + (if ([] : List Keyword).isEmpty then 0 else 1) < 30)) = true := by rfl)
    (hline : (apos.endLine == p.line) = true := by rfl) (hs : starEach (e :: es) X.env = (false, eval e X.env) :: starEach es X.env := by rfl) (hplain : (backTo p (starEach es X.env)).any (·.1) = false := by rfl) :
    PE X (.Call (.Attribute o name apos) (e :: es) [] p) (tBX r to t) := by
  refine ⟨fun pins s σ H Q I h => ?_⟩
  refine wpAny_Call_method_late hbase hfew hline rfl (thn (ho.run pins s σ H _ I h) fun v s1 ⟨x, H1, I1, r1, ⟨q, ob, xs0, ex, hq, hd⟩, q1⟩ => ?_)
  subst ex
  have ev : v = .ref q := r1
  subst ev
  obtain ⟨h1, h2⟩ := tupx_is I1 hq hd
  refine ⟨"tuple", id, PySem.F.plainAttrs_tuple, slot, hty, h1, h2, ?_⟩
  have hA := ha.run p pins s1 σ H1 _ I1 q1
  rw [hs] at hA ⊢
  refine Calls.callWith_builtin (by show (false || (backTo p (starEach es X.env)).any (·.1)) = false; rw [hplain] <;> rfl) (Calls.evalArgs_plain ?_)
  exact thn hA fun us s2 ⟨vs, H2, I2, r2, q2⟩ => hm pins s2 σ H2 _ vs _ us Q I2 r1 r2 q2
/-- t.index(x), t a tuple of texts -/
theorem w_tindex (S : Sit g k N vis loc gl sc X) {name : Str} (hn : name = "index") (h : W g X o ρ μ fun x m1 => ∃ ys : List Str, x = .tupx (ys.map .str) ∧ W g X e ρ m1 fun y m2 => ∃ z j, y = .str z ∧ ys[j]? = some z ∧ (∀ m, m < j → ys[m]? ≠ some z) ∧ Post (.int (j : Nat)) m2)
    (hbase : attributeBase o name X.env (eval o X.env) = eval o X.env := by rfl)
    (hfew : ((backTo p (starEach [e] X.env)).all (fun x => !x.1) && (backToKw p (keywordEach [] X.env)).all (fun x => x.1.isSome)
      && decide ([e].length + ([] : List Keyword).length + (if ([] : List Keyword).isEmpty then 0 else 1) < 30)) = true := by rfl)
    (hline : (apos.endLine == p.line) = true := by rfl) (hs : starEach [e] X.env = [(false, eval e X.env)] := by rfl) : W g X (.Call (.Attribute o name apos) [e] [] p) ρ μ Post := fun σ H at_ => by
  subst hn
  refine E.of (pe_bmX PySem.F.slot_tuple_index PySem.F.type_tuple_index mt_tup_index (E.pe X o) (pa_cons (E.pe X e) pa_nil hs) hbase hfew hline hs rfl) ?_
  refine h.then at_ fun x m1 u H1 G1 a1 r1 ⟨ys, ex, q⟩ => ?_
  subst ex
  have r1' := r1
  obtain ⟨q0, xs, ob, eu, hq, hd, _, rr⟩ := r1
  refine ⟨⟨q0, ob, xs, eu, hq, hd⟩, q.then a1 fun y m2 v H2 G2 a2 r2 ⟨z, j, ey, hj, hno, post⟩ => ?_⟩
  subst ey
  obtain ⟨q1, xs2, ob2, eu2, hq2, hd2, _, rr2⟩ := rp_mono G2 _ _ r1'
  have exs := rps_strs rr2
  subst exs
  have ev : v = .str z := r2
  subst ev
  exact ⟨q1, ys, z, j, eu2, rfl, .inl (.inr ⟨ob2, hq2⟩), hj, hno, .int (j : Nat), m2, G1.trans G2, a2.mu, rfl, post⟩
/-- over such a tuple -/
theorem wi_tupx (S : Sit g k N vis loc gl sc X) {tg it : Expr} {P : List D → Mu → Prop} (h : W g X it ρ μ fun d m => ∃ ds, d = .tupx ds ∧ P ds m) : WI g X tg it ρ μ P :=
  wi_tup S fun σ H at_ => (h σ H at_).mono fun v H' ⟨d, m, G, M, r, ds, ed, q⟩ => by subst ed; exact ⟨_, m, G, M, tupx_tup r, ds, rfl, q⟩
end
end Mb
set_option maxHeartbeats 4000000
namespace Mb
open PySem PySem.Spec L2
/-! ### one rule for each form: what an operator answers, told as a relation on data -/
def orR (r r' : R2) : R2 := fun u v H Q => r u v H Q ∨ r' u v H Q
theorem opR_or {X : Cx} {op} {r r' : R2} (h : OpR X op r) (h' : OpR X op r') : OpR X op (orR r r') := by
  intro pins s σ H x y v u Q I rx ry q
  rcases q with q | q
  · exact h pins s σ H x y v u Q I rx ry q
  · exact h' pins s σ H x y v u Q I rx ry q
theorem opd_l {g : Gb} {r r' : R2} {x y : D} {μ : Mu} {Post : AQ} (h : OpD g r x y μ Post) : OpD g (orR r r') x y μ Post := fun H u v Q m ru rv kk => .inl (h H u v Q m ru rv kk)
theorem opd_r {g : Gb} {r r' : R2} {x y : D} {μ : Mu} {Post : AQ} (h : OpD g r' x y μ Post) : OpD g (orR r r') x y μ Post := fun H u v Q m ru rv kk => .inr (h H u v Q m ru rv kk)
/-- + -/
inductive PlusD : D → D → D → Prop where
  | ii {i j : Int} : PlusD (.int i) (.int j) (.int (i + j))
  | ss {i j : Str} (h : i.length + j.length ≤ 100000) : PlusD (.str i) (.str j) (.str (i ++ j))
  | tt {i j : List D} (h : i.length + j.length ≤ 100000) : PlusD (.tup i) (.tup j) (.tup (i ++ j))
  | ll {i j : List D} (h : i.length + j.length ≤ 100000) : PlusD (.lst i) (.lst j) (.lst (i ++ j))
/-- * -/
inductive MulD : D → D → D → Prop where
  | ii {i j : Int} (h : CMul i j) : MulD (.int i) (.int j) (.int (i * j))
/-- flat things in lists, tuples -/
def flD : D → Bool
  | .int _ => true
  | .str _ => true
  | .bl _ => true
  | .non => true
  | _ => false
theorem fl_rp {K : PySem.W.Frag} {d : D} (h : flD d = true) {μ : Mu} {H : Hp} {v : V} (r : Rp K μ H d v) : v = scD d ∧ flatV v = true := by
  cases d <;> first | (cases (show v = _ from r); exact ⟨rfl, rfl⟩) | cases h
theorem fls_rp {K : PySem.W.Frag} {μ : Mu} {H : Hp} : ∀ {ds : List D} {vs : List V}, ds.all flD = true → Rps K μ H ds vs → vs = ds.map scD ∧ vs.all flatV = true
  | [], _, _, h => by cases h; exact ⟨rfl, rfl⟩
  | d :: ds, _, hf, ⟨v, r, e, h, t⟩ => by
    obtain ⟨h1, h2⟩ := Bool.and_eq_true_iff.mp (show (flD d && ds.all flD) = true from hf)
    obtain ⟨e1, e2⟩ := fl_rp h1 h
    obtain ⟨e3, e4⟩ := fls_rp h2 t
    subst e
    exact ⟨by rw [e1, e3]; rfl, by simp only [List.all_cons, e2, e4, Bool.and_self]⟩
section
variable {g : Gb} {k : Nat} {N : List Str} {vis loc : List Nat} {gl : List Str} {sc : Scope} {X : Cx} {ρ : Ro} {μ : Mu} {R : AE} {pos p apos : Pos} {Post : AQ} {e o a b : Expr} {es : List Expr}
theorem w_plus (S : Sit g k N vis loc gl sc X) (h : W g X a ρ μ fun x m1 => W g X b ρ m1 fun y m2 => ∃ d, PlusD x y d ∧ Post d m2) : W g X (.BinOp a .Add b pos) ρ μ Post := by
  refine w_bin (opR_or op_add (opR_or op_add_str (opR_or op_catA op_cat))) (h.mono fun x m1 hb => hb.mono fun y m2 ⟨d, hd, q⟩ => ?_)
  cases hd with
  | ii => exact opd_l (od_I0 (f := fun i j => .int (i + j)) (fun _ _ => rfl) q)
  | ss c => exact opd_r (opd_l fun H u v Q m ru rv kk => ⟨_, _, ru, rv, kb c, kk _ _ (VQ.at (d := .str _) m rfl q)⟩)
  | @tt i j c =>
    refine opd_r (opd_r (opd_l ?_))
    intro H u v Q m ru rv kk
    have ru0 := ru
    have rv0 := rv
    obtain ⟨a1, xs, eu, tu, r1⟩ := ru
    obtain ⟨a2, ys, ev, tv, r2⟩ := rv
    have l1 := rps_length r1
    have l2 := rps_length r2
    refine ⟨a1, a2, xs, ys, eu, ev, S.hK ▸ tu.sq, S.hK ▸ tv.sq, by rw [← l1, ← l2]; exact kb c, fun z => ?_, fun _ z => ?_, fun _ _ q2 hq => ?_⟩
    · subst z
      have ei : i = [] := List.length_eq_zero_iff.mp l1
      subst ei
      rw [← ev]
      exact kk _ _ ⟨_, m2, .refl _ _, m, rv0, q⟩
    · subst z
      have ej : j = [] := List.length_eq_zero_iff.mp l2
      subst ej
      rw [← eu]
      rw [List.append_nil] at q
      exact kk _ _ ⟨_, m2, .refl _ _, m, ru0, q⟩
    · exact kk _ _ ⟨.tup (i ++ j), m2, gs_new hq, mk_new m hq, ⟨q2, _, rfl, .inl ⟨.inl upd_same, m.new hq⟩, rps_mono (gs_new hq) _ _ (rps_append r1 r2)⟩, q⟩
  | @ll i j c =>
    refine opd_r (opd_r (opd_r ?_))
    intro H u v Q m ru rv kk
    obtain ⟨a1, xs, eu, tu, n1, r1⟩ := ru
    obtain ⟨a2, ys, ev, tv, n2, r2⟩ := rv
    have l1 := rps_length r1
    have l2 := rps_length r2
    exact ⟨a1, a2, xs, ys, eu, ev, tu, tv, by rw [← l1, ← l2]; exact kb c, fun q2 hq => kk _ _ ⟨.lst (i ++ j), m2, gs_new hq, mk_new m hq, ⟨q2, _, rfl, upd_same, m.new hq, rps_mono (gs_new hq) _ _ (rps_append r1 r2)⟩, q⟩⟩
/-- items: of a tuple, a list, a text, a dict -/
inductive SubD (m : Mu) : D → D → D → Prop where
  | t {ds : List D} {i : Int} {d : D} (h : atI ds i = some d) : SubD m (.tup ds) (.int i) d
  | x {ds : List D} {i : Int} {d : D} (h : atI ds i = some d) : SubD m (.tupx ds) (.int i) d
  | l {ds : List D} {i : Int} {d : D} (h : atI ds i = some d) : SubD m (.lst ds) (.int i) d
  | f {ds : List D} {i : Int} {d : D} (h : atI ds i = some d) : SubD m (.frl ds) (.int i) d
  | p {q : Addr} {ds : List D} {i : Int} {d : D} (hp : m q = some (.lst ds)) (h : atI ds i = some d) : SubD m (.ptr q) (.int i) d
  | s {z : Str} {i : Int} {c : Nat} (hl : z.length ≤ 100000) (h : atI z.cps.toList i = some c) : SubD m (.str z) (.int i) (.str ⟨#[c]⟩)
theorem w_sub1 (S : Sit g k N vis loc gl sc X) (h : W g X a ρ μ fun x m1 => W g X b ρ m1 fun y m2 => ∃ d, SubD m2 x y d ∧ Post d m2) (hs : PlainIx b := by exact fun _ _ => rfl) : W g X (.Subscript a b pos) ρ μ Post := by
  have tupc : ∀ {m : Mu} {ds : List D} {i : Int} {d : D} {x : D}, (∀ H v, Rp g.K m H x v → Rp g.K m H (.tup ds) v) → atI ds i = some d → Post d m → OpD g (fun x y H Q => ∃ a1 xs i z, x = .ref a1 ∧ y = .int i ∧ SqT X.K H a1 xs ∧ atI xs i = some z ∧ Q z H) x (.int i) m Post := by
    intro m ds i d x hx hd q H u v Q mm ru rv kk
    obtain ⟨a1, xs, eu, tu, r1⟩ := hx H u ru
    have l1 := rps_length r1
    unfold atI at hd
    cases hi : ixN ds.length i with
    | none => rw [hi] at hd; cases hd
    | some j =>
      rw [hi] at hd
      obtain ⟨z, hz, rz⟩ := rps_get r1 (show ds[j]? = some d from hd)
      exact ⟨a1, xs, i, z, eu, rv, S.hK ▸ tu.sq, by unfold atI; rw [← l1, hi]; exact hz, kk _ _ ⟨d, m, .refl _ _, mm, rz, q⟩⟩
  have lstc : ∀ {m : Mu} {ds : List D} {i : Int} {d : D} {x : D}, (∀ H v, Mk g m H → Rp g.K m H x v → ∃ a1 xs, v = .ref a1 ∧ SqL X.K H a1 xs ∧ Rps g.K m H ds xs) → atI ds i = some d → Post d m → OpD g (fun x y H Q => ∃ a1 xs i z, x = .ref a1 ∧ y = .int i ∧ SqL X.K H a1 xs ∧ atI xs i = some z ∧ Q z H) x (.int i) m Post := by
    intro m ds i d x hx hd q H u v Q mm ru rv kk
    obtain ⟨a1, xs, eu, tu, r1⟩ := hx H u mm ru
    have l1 := rps_length r1
    unfold atI at hd
    cases hi : ixN ds.length i with
    | none => rw [hi] at hd; cases hd
    | some j =>
      rw [hi] at hd
      obtain ⟨z, hz, rz⟩ := rps_get r1 (show ds[j]? = some d from hd)
      exact ⟨a1, xs, i, z, eu, rv, tu, by unfold atI; rw [← l1, hi]; exact hz, kk _ _ ⟨d, m, .refl _ _, mm, rz, q⟩⟩
  have ixor : ∀ {r r' : R2}, IxR X r → IxR X r' → IxR X (orR r r') := by
    intro r r' h h'
    intro e e2 pins s σ H x y v u Q I rx ry q hh
    rcases q with q | q
    · exact h e e2 pins s σ H x y v u Q I rx ry q hh
    · exact h' e e2 pins s σ H x y v u Q I rx ry q hh
  refine w_ix (ixor ix_tup (ixor ix_list ix_str)) hs (h.mono fun x m1 hb => hb.mono fun y m2 ⟨d, hd, q⟩ => ?_)
  cases hd with
  | t hd => exact opd_l (tupc (fun _ _ r => r) hd q)
  | x hd => exact opd_l (tupc (fun _ _ r => tupx_tup r) hd q)
  | l hd => exact opd_r (opd_l (lstc (fun _ _ _ r => let ⟨a1, xs, eu, tu, n1, r1⟩ := r; ⟨a1, xs, eu, SqL.of tu, r1⟩) hd q))
  | f hd => exact opd_r (opd_l (lstc (fun _ _ _ r => let ⟨a1, xs, eu, tu, r1⟩ := r; ⟨a1, xs, eu, S.hK ▸ tu.sq, r1⟩) hd q))
  | p hp hd => exact opd_r (opd_l (lstc (fun _ _ mm r => let ⟨xs, hx, r1⟩ := mm _ _ hp; ⟨_, xs, r, SqL.of hx, r1⟩) hd q))
  | s hl hd => exact opd_r (opd_r fun H u v Q m ru rv kk => ⟨_, _, _, ru, rv, kb hl, hd, kk _ _ (VQ.at (d := .str _) m rfl q)⟩)
/-! ### in, not in: flat lists and tuples, signs of a text, dicts -/
inductive InD (m : Mu) : D → D → Bool → Prop where
  | l {x : D} {ds : List D} (hx : flD x = true) (hd : ds.all flD = true) : InD m x (.lst ds) (inV (scD x) (ds.map scD))
  | t {x : D} {ds : List D} (hx : flD x = true) (hd : ds.all flD = true) : InD m x (.tup ds) (inV (scD x) (ds.map scD))
  | p {x : D} {q : Addr} {ds : List D} (hq : m q = some (.lst ds)) (hx : flD x = true) (hd : ds.all flD = true) : InD m x (.ptr q) (inV (scD x) (ds.map scD))
  | s {c : Nat} {z : Str} : InD m (.str ⟨#[c]⟩) (.str z) (decide (c ∈ z.cps.toList))
theorem in_of {m : Mu} {x y : D} {bb : Bool} {Post : AQ} (S : Sit g k N vis loc gl sc X) (neg : Bool) (h : InD m x y bb) (q : Post (.bl (if neg then !bb else bb)) m) :
    OpD g (orR (rIn X.K neg) (fun x y H Q => ∃ (c : Nat) (z : Str), x = .str ⟨#[c]⟩ ∧ y = .str z ∧ Q (.bl (if neg then !(decide (c ∈ z.cps.toList)) else decide (c ∈ z.cps.toList))) H)) x y m Post := by
  cases h with
  | l hx hd =>
    refine opd_l fun H u v Q mm ru rv kk => ?_
    obtain ⟨a1, xs, ev, tv, _, rr⟩ := rv
    obtain ⟨e1, f1⟩ := fl_rp hx ru
    obtain ⟨e2, f2⟩ := fls_rp hd rr
    refine ⟨a1, xs, ev, .inl (SqL.of tv), f1, f2, kk _ _ (VQ.at (d := .bl _) mm ?_ q)⟩
    rw [e1, e2]; rfl
  | t hx hd =>
    refine opd_l fun H u v Q mm ru rv kk => ?_
    obtain ⟨a1, xs, ev, tv, rr⟩ := rv
    obtain ⟨e1, f1⟩ := fl_rp hx ru
    obtain ⟨e2, f2⟩ := fls_rp hd rr
    refine ⟨a1, xs, ev, .inr (S.hK ▸ tv.sq), f1, f2, kk _ _ (VQ.at (d := .bl _) mm ?_ q)⟩
    rw [e1, e2]; rfl
  | p hq hx hd =>
    refine opd_l fun H u v Q mm ru rv kk => ?_
    obtain ⟨xs, hh, rr⟩ := mm _ _ hq
    obtain ⟨e1, f1⟩ := fl_rp hx ru
    obtain ⟨e2, f2⟩ := fls_rp hd rr
    refine ⟨_, xs, rv, .inl (SqL.of hh), f1, f2, kk _ _ (VQ.at (d := .bl _) mm ?_ q)⟩
    rw [e1, e2]; rfl
  | s => exact opd_r fun H u v Q mm ru rv kk => ⟨_, _, ru, rv, kk _ _ (VQ.at (d := .bl _) mm rfl q)⟩
theorem wt_in (S : Sit g k N vis loc gl sc X) {PB : Bool → Mu → Prop} (h : W g X a ρ μ fun x m1 => W g X b ρ m1 fun y m2 => ∃ bb, InD m2 x y bb ∧ PB bb m2) (hm : behindInMarks .In b = false := by rfl) : WT g X (.Compare a [.In] [b] pos) ρ μ PB :=
  wt_cmp (opR_or op_in_seq op_in_sign) hm (h.mono fun x m1 hb => hb.mono fun y m2 ⟨bb, hd, q⟩ => in_of S false hd ⟨_, rfl, q⟩)
theorem wt_nin (S : Sit g k N vis loc gl sc X) {PB : Bool → Mu → Prop} (h : W g X a ρ μ fun x m1 => W g X b ρ m1 fun y m2 => ∃ bb, InD m2 x y bb ∧ PB (!bb) m2) (hm : behindInMarks .NotIn b = false := by rfl) : WT g X (.Compare a [.NotIn] [b] pos) ρ μ PB :=
  wt_cmp (opR_or op_notIn_seq op_notIn_sign) hm (h.mono fun x m1 hb => hb.mono fun y m2 ⟨bb, hd, q⟩ => in_of S true hd ⟨_, rfl, q⟩)
theorem w_in (S : Sit g k N vis loc gl sc X) (h : W g X a ρ μ fun x m1 => W g X b ρ m1 fun y m2 => ∃ bb, InD m2 x y bb ∧ Post (.bl bb) m2) (hm : behindInMarks .In b = false := by rfl) : W g X (.Compare a [.In] [b] pos) ρ μ Post :=
  w_cmp (opR_or op_in_seq op_in_sign) hm (h.mono fun x m1 hb => hb.mono fun y m2 ⟨bb, hd, q⟩ => in_of S false hd q)
end
theorem inV_strs {z : Str} : ∀ {ys : List Str}, inV (.str z) (ys.map fun y => scD (.str y)) = decide (z ∈ ys)
  | [] => by simp [inV]
  | y :: ys => by
    have ih := @inV_strs z ys
    unfold inV at ih ⊢
    simp only [List.map_cons, List.any_cons, ih, List.mem_cons]
    by_cases e : y = z
    · subst e; simp [eqV, scD]
    · have e1 : (y == z) = false := by simpa using e
      have e2 : ¬ z = y := fun q => e q.symm
      simp [eqV, scD, e2, e1]
end Mb
set_option maxHeartbeats 4000000
namespace Mb
open PySem PySem.Spec L2
/-- what a comprehension without effects asks -/
def LcP (g : Gb) (k : Nat) (N : List Str) (vis' loc' : List Nat) (gl' : List Str) (scope : Scope) (vs : List Nat) (tg elt : Expr) (ifs : List Expr) (ρ : Ro) (Post : AQ) (ds : List D) (m : Mu) : Prop :=
  ∃ (α : Type) (ss : List α) (φ f : α → D) (keep : α → Bool), ds = ss.map φ ∧ ss.length ≤ 100000 ∧
    (∀ s, s ∈ ss → ∀ p acc, m p = none → ∃ ρ2 : Ro,
      (∀ X', Sit g k N vis' loc' gl' scope X' → WG g X' (some vs) tg (φ s) (wipeR ρ vs) (up m p (.lst acc)) (· = ρ2)) ∧
      (∀ X', Sit g k N vis' loc' gl' scope X' → WTs g X' ifs ρ2 (up m p (.lst acc)) fun b n2 => b = keep s ∧ n2 = up m p (.lst acc)) ∧
      (keep s = true → ∀ X', Sit g k N vis' loc' gl' scope X' → W g X' elt ρ2 (up m p (.lst acc)) (fun e n3 => e = f s ∧ n3 = up m p (.lst acc)))) ∧
    Post (.lst ((ss.filter keep).map f)) m
theorem filter_take_succ {α : Type} {keep : α → Bool} {ss : List α} {i : Nat} {s : α} (h : ss[i]? = some s) : (ss.take (i + 1)).filter keep = (ss.take i).filter keep ++ (if keep s then [s] else []) := by
  have hi : i < ss.length := (List.getElem?_eq_some_iff.mp h).1
  have e : ss[i] = s := (List.getElem?_eq_some_iff.mp h).2
  rw [List.take_succ, List.filter_append, h]
  simp only [Option.toList_some, List.filter_cons, List.filter_nil]
theorem lcp_ask {g : Gb} {k : Nat} {N : List Str} {vis' loc' : List Nat} {gl' : List Str} {scope : Scope} {vs : List Nat} {tg elt : Expr} {ifs : List Expr} {ρ : Ro} {Post : AQ} {ds : List D} {m : Mu}
    (h : LcP g k N vis' loc' gl' scope vs tg elt ifs ρ Post ds m) : LcAsk g k N vis' loc' gl' scope vs tg elt ifs ρ Post ds m := by
  obtain ⟨α, ss, φ, f, keep, ed, hl, turn, post⟩ := h
  subst ed
  refine ⟨by rw [List.length_map]; omega, fun i acc m' => m' = m ∧ acc = ((ss.take i).filter keep).map f, ⟨rfl, by simp⟩, fun i d acc m' hd ⟨em, ea⟩ _ p hp => ?_, fun acc m' ⟨em, ea⟩ _ => ?_⟩
  · subst em
    rw [List.getElem?_map] at hd
    cases hs : ss[i]? with
    | none => rw [hs] at hd; cases hd
    | some s =>
      rw [hs] at hd
      have hd' : φ s = d := Option.some.inj hd
      subst hd'
      obtain ⟨ρ2, h1, h2, h3⟩ := turn s (List.mem_of_getElem? hs) p acc hp
      refine ⟨ρ2, keep s, h1, h2, ?_⟩
      have ef := filter_take_succ (keep := keep) hs
      cases hk : keep s with
      | true =>
        refine fun X' S' => (h3 hk X' S').mono fun e n3 ⟨e1, e2⟩ => ⟨m', e2, hp, rfl, ?_⟩
        rw [ef, hk, ea, e1]; simp
      | false =>
        refine ⟨rfl, ?_⟩
        rw [ef, hk, ea]; simp
  · subst em
    rw [ea, List.length_map, List.take_length]
    exact post
section
variable {g : Gb} {k : Nat} {N : List Str} {vis loc : List Nat} {gl : List Str} {sc : Scope} {X : Cx} {ρ : Ro} {μ : Mu} {R : AE} {pos : Pos} {Post : AQ} {elt tg iter cond : Expr} {scope : Scope} {vis' loc' : List Nat} {gl' : List Str}
theorem WI.mono {P P' : List D → Mu → Prop} (h : WI g X tg iter ρ μ P) (k : ∀ ds m, P ds m → P' ds m) : WI g X tg iter ρ μ P' := fun σ H a pins s I =>
  thn (h σ H a pins s I) fun v s1 h1 => thn h1 fun itv s2 ⟨it, fp, tn, J, H', e1, I2, T, t0, f0, ds, m, G, M, w, p⟩ => ⟨it, fp, tn, J, H', e1, I2, T, t0, f0, ds, m, G, M, w, k _ _ p⟩
/-- [elt for tg in iter if ..], without effects -/
theorem w_lcP {ifs : List Expr} (S : Sit g k N vis loc gl sc X) (own : List (Str × Nat)) (hb : blkC N sc scope own = true) (hs' : sitB scope N vis' loc' gl' = true) (h : WI g X tg iter ρ μ (LcP g k N vis' loc' gl' scope (own.map (·.2)) tg elt ifs ρ Post))
    (hif : ifs.length ≤ 1 := by decide) (hs : ∀ x, foldedSetIterable iter X.env x = pure x := by intro _; rfl) : W g X (.ListComp elt [⟨tg, iter, ifs, 0⟩] scope pos) ρ μ Post :=
  w_lc S own hb hs' (h.mono fun _ _ q => lcp_ask q) hif hs
theorem ws_setLcP {ifs : List Expr} (S : Sit g k N vis loc gl sc X) {i : Nat} {y : Str} {py spos : Pos} (hN : N[i]? = some y) (hl : loc.elem i = true) (hyl : sc.names.lookup y = some .local) (hln : (py.line == pos.line) = true) (hown : (scope.names.any fun (n, k) => n == y && (k == .local || k == .cell)) = false) (own : List (Str × Nat)) (hb : blkC N sc scope own = true) (hs' : sitB scope N vis' loc' gl' = true)
    (h : WI g X tg iter ρ μ (LcP g k N vis' loc' gl' scope (own.map (·.2)) tg elt ifs ρ fun d m => R.nx (ρ.set i (some d)) m))
    (hif : ifs.length ≤ 1 := by decide) (hs : ∀ x, foldedSetIterable iter X.env x = pure x := by intro _; rfl) : WS g X (.Assign [.Name y py] (.ListComp elt [⟨tg, iter, ifs, 0⟩] scope pos) spos) ρ μ R :=
  ws_setLc S i hl hN hyl hln hown own hb hs' (h.mono fun _ _ q => lcp_ask q) hif hs
end
end Mb
set_option maxHeartbeats 4000000
namespace Mb
open PySem PySem.Spec L2
theorem ix3 {α : Type} {ds : List α} {i : Int} (h0 : 0 ≤ i) (h1 : i < ds.length) : ixN ds.length i = some i.toNat := by
  unfold ixN; rw [if_pos h0, if_pos h1]
theorem at0 {α : Type} {x : α} {xs : List α} : atI (x :: xs) 0 = some x := by
  unfold atI
  rw [ix3 (by omega) (by rw [List.length_cons]; omega)]
  rfl
/-! ### == of anything -/
mutual
def pdD : D → Option PyData
  | .non => some .none
  | .bl b => some (.bool b)
  | .int i => some (.int i)
  | .str x => some (.str x)
  | .tup ds => match pdDs ds with | some l => some (.tuple l) | none => none
  | .tupx ds => match pdDs ds with | some l => some (.tuple l) | none => none
  | .lst ds => match pdDs ds with | some l => some (.list l) | none => none
  | .frl _ => none
  | .dic _ _ => none
  | .obj _ _ _ => none
  | .ptr _ => none
def pdDs : List D → Option (List PyData)
  | [] => some []
  | d :: ds => match pdD d, pdDs ds with | some a, some l => some (a :: l) | _, _ => none
end
mutual
theorem pd_dp {K : PySem.W.Frag} {μ : Mu} {H : Hp} : ∀ {d : D} {a : PyData} {v : V}, pdD d = some a → Rp K μ H d v → Dp K H v a
  | .non, _, _, h, r => by cases h; cases (show _ = _ from r); exact .non
  | .bl b, _, _, h, r => by cases h; cases (show _ = _ from r); exact .bl b
  | .int i, _, _, h, r => by cases h; cases (show _ = _ from r); exact .int i
  | .str x, _, _, h, r => by cases h; cases (show _ = _ from r); exact .str x
  | .tup ds, a, v, h, r => by
    obtain ⟨p, xs, e, t, rr⟩ := r
    unfold pdD at h
    cases hl : pdDs ds with
    | none => rw [hl] at h; cases h
    | some l => rw [hl] at h; cases h; subst e; exact .tup t.sq (pds_dp hl rr)
  | .tupx ds, a, v, h, r => by
    obtain ⟨p, xs, ob, e, t, _, n, rr⟩ := r
    unfold pdD at h
    cases hl : pdDs ds with
    | none => rw [hl] at h; cases h
    | some l => rw [hl] at h; cases h; subst e; exact .tup (.inl (.inr ⟨ob, t⟩)) (pds_dp hl rr)
  | .lst ds, a, v, h, r => by
    obtain ⟨p, xs, e, t, _, rr⟩ := r
    unfold pdD at h
    cases hl : pdDs ds with
    | none => rw [hl] at h; cases h
    | some l => rw [hl] at h; cases h; subst e; exact .lst (SqL.of t) (pds_dp hl rr)
  | .frl _, _, _, h, _ => by cases h
  | .dic _ _, _, _, h, _ => by cases h
  | .obj _ _ _, _, _, h, _ => by cases h
  | .ptr _, _, _, h, _ => by cases h
theorem pds_dp {K : PySem.W.Frag} {μ : Mu} {H : Hp} : ∀ {ds : List D} {l : List PyData} {vs : List V}, pdDs ds = some l → Rps K μ H ds vs → DpAll K H vs l
  | [], _, _, h, r => by cases h; cases (show _ = _ from r); exact .nil
  | d :: ds, l, vs, h, r => by
    obtain ⟨v, w, e, r1, r2⟩ := r
    unfold pdDs at h
    cases h1 : pdD d with
    | none => rw [h1] at h; cases h
    | some a =>
      cases h2 : pdDs ds with
      | none => rw [h1, h2] at h; cases h
      | some l2 => rw [h1, h2] at h; cases h; subst e; exact .cons (pd_dp h1 r1) (pds_dp h2 r2)
end
inductive EqD : D → D → Bool → Prop where
  | ii {i j : Int} : EqD (.int i) (.int j) (decide (i = j))
  | ss {i j : Str} : EqD (.str i) (.str j) (decide (i = j))
  | bb {i j : Bool} : EqD (.bl i) (.bl j) (decide (i = j))
  | ns {j : Str} : EqD .non (.str j) false
  | sn {j : Str} : EqD (.str j) .non false
  | nn : EqD .non .non true
  | deep {x y : D} {a b : PyData} (hx : pdD x = some a) (hy : pdD y = some b) (sa : SeqAt.shaped a = true) (sb : SeqAt.shaped b = true) : EqD x y (PyData.eqv a b)
def nb (neg b : Bool) : Bool := if neg then !b else b
theorem eq_of {g : Gb} {X : Cx} {m : Mu} {x y : D} {bb : Bool} {Post : AQ} (hK : X.K = g.K) (neg : Bool) (h : EqD x y bb) (q : Post (.bl (nb neg bb)) m) :
    OpD g (orR (fun x y H Q => scal x y = true ∧ Q (.bl (nb neg (decide (x = y)))) H) (fun x y H Q => ∃ d e, Dp X.K H x d ∧ Dp X.K H y e ∧ SeqAt.shaped d = true ∧ SeqAt.shaped e = true ∧ Q (.bl (nb neg (PyData.eqv d e))) H)) x y m Post := by
  have sc : ∀ {u0 v0 : V}, scal u0 v0 = true → decide (u0 = v0) = bb → (∀ H u, Rp g.K m H x u → u = u0) → (∀ H v, Rp g.K m H y v → v = v0) → OpD g (fun x y H Q => scal x y = true ∧ Q (.bl (nb neg (decide (x = y)))) H) x y m Post := by
    intro u0 v0 hs hb hu hv H u v Q mm ru rv kk
    rw [hu H u ru, hv H v rv]
    exact ⟨hs, kk _ _ (VQ.at (d := .bl _) mm (by rw [hb]; rfl) q)⟩
  cases h with
  | @ii i j => exact opd_l (sc (u0 := .int i) (v0 := .int j) rfl (decide_eq_decide.mpr ⟨fun z => V.int.inj z, fun z => by rw [z]⟩) (fun _ _ r => r) fun _ _ r => r)
  | @ss i j => exact opd_l (sc (u0 := .str i) (v0 := .str j) rfl (decide_eq_decide.mpr ⟨fun z => V.str.inj z, fun z => by rw [z]⟩) (fun _ _ r => r) fun _ _ r => r)
  | @bb i j => exact opd_l (sc (u0 := .bl i) (v0 := .bl j) rfl (decide_eq_decide.mpr ⟨fun z => V.bl.inj z, fun z => by rw [z]⟩) (fun _ _ r => r) fun _ _ r => r)
  | @ns j => exact opd_l (sc (u0 := .non) (v0 := .str j) rfl (decide_eq_false fun z => by cases z) (fun _ _ r => r) fun _ _ r => r)
  | @sn j => exact opd_l (sc (u0 := .str j) (v0 := .non) rfl (decide_eq_false fun z => by cases z) (fun _ _ r => r) fun _ _ r => r)
  | nn => exact opd_l (sc (u0 := .non) (v0 := .non) rfl (decide_eq_true rfl) (fun _ _ r => r) fun _ _ r => r)
  | deep hx hy sa sb => exact opd_r fun H u v Q mm ru rv kk => ⟨_, _, hK ▸ pd_dp hx ru, hK ▸ pd_dp hy rv, sa, sb, kk _ _ (VQ.at (d := .bl _) mm rfl q)⟩
section
variable {g : Gb} {k : Nat} {N : List Str} {vis loc : List Nat} {gl : List Str} {sc : Scope} {X : Cx} {ρ : Ro} {μ : Mu} {R : AE} {pos : Pos} {Post : AQ} {a b : Expr}
theorem wt_eqE (S : Sit g k N vis loc gl sc X) {PB : Bool → Mu → Prop} (h : W g X a ρ μ fun x m1 => W g X b ρ m1 fun y m2 => ∃ bb, EqD x y bb ∧ PB bb m2) : WT g X (.Compare a [.Eq] [b] pos) ρ μ PB :=
  wt_cmp (opR_or op_eq (op_eqD S.hu64)) (nomark _) (h.mono fun x m1 hb => hb.mono fun y m2 ⟨bb, hd, q⟩ => eq_of S.hK false hd ⟨_, rfl, q⟩)
theorem wt_neE (S : Sit g k N vis loc gl sc X) {PB : Bool → Mu → Prop} (h : W g X a ρ μ fun x m1 => W g X b ρ m1 fun y m2 => ∃ bb, EqD x y bb ∧ PB (!bb) m2) : WT g X (.Compare a [.NotEq] [b] pos) ρ μ PB :=
  wt_cmp (opR_or op_ne (op_neD S.hu64)) (nomark _) (h.mono fun x m1 hb => hb.mono fun y m2 ⟨bb, hd, q⟩ => eq_of S.hK true hd ⟨_, rfl, q⟩)
theorem w_eqE (S : Sit g k N vis loc gl sc X) (h : W g X a ρ μ fun x m1 => W g X b ρ m1 fun y m2 => ∃ bb, EqD x y bb ∧ Post (.bl bb) m2) : W g X (.Compare a [.Eq] [b] pos) ρ μ Post :=
  w_cmp (opR_or op_eq (op_eqD S.hu64)) (nomark _) (h.mono fun x m1 hb => hb.mono fun y m2 ⟨bb, hd, q⟩ => eq_of S.hK false hd q)
theorem w_neE (S : Sit g k N vis loc gl sc X) (h : W g X a ρ μ fun x m1 => W g X b ρ m1 fun y m2 => ∃ bb, EqD x y bb ∧ Post (.bl (!bb)) m2) : W g X (.Compare a [.NotEq] [b] pos) ρ μ Post :=
  w_cmp (opR_or op_ne (op_neD S.hu64)) (nomark _) (h.mono fun x m1 hb => hb.mono fun y m2 ⟨bb, hd, q⟩ => eq_of S.hK true hd q)
end
section
variable {g : Gb} {k : Nat} {N : List Str} {vis loc : List Nat} {gl : List Str} {sc : Scope} {X : Cx} {ρ : Ro} {μ : Mu} {R : AE} {pos : Pos} {Post : AQ}
theorem wo_some {e : Expr} {P : Option Int → Mu → Prop} (h : W g X e ρ μ fun d m => ∃ i, d = .int i ∧ P (some i) m) : WO g X (some e) ρ μ P := h
theorem wo_none {P : Option Int → Mu → Prop} (h : P none μ) : WO g X none ρ μ P := h
theorem wp_cons {ke ve : Expr} {ks : List (Option Expr)} {vs : List Expr} {P : List (Key × D) → Mu → Prop} (h : W g X ke ρ μ fun dk m => ∃ kk, kD dk = some kk ∧ W g X ve ρ m fun dv m2 => WP g X ks vs ρ m2 fun r m3 => P ((kk, dv) :: r) m3) : WP g X (some ke :: ks) (ve :: vs) ρ μ P := h
theorem wp_nil {P : List (Key × D) → Mu → Prop} (h : P [] μ) : WP g X [] [] ρ μ P := h
/-- a statement's ends meet in J -/
theorem ws_join {st : Stmt} (J : Ro → Mu → Prop) (h : WS g X st ρ μ { R with nx := J }) (kk : ∀ ρ' m', J ρ' m' → R.nx ρ' m') : WS g X st ρ μ R := fun σ H a =>
  (h σ H a).mono (fun _ _ ⟨r, m, x, y, q⟩ => ⟨r, m, x, y, kk _ _ q⟩) (fun _ _ q => q) (fun _ _ q => q) fun _ _ q => q
/-- return [..], a list that is to be changed -/
theorem ws_retL {es : List Expr} {lp : Pos} (h : WA g X es ρ μ fun ds m => ds.length ≤ 1000 ∧ ∀ p, m p = none → R.rt (.ptr p) (up m p (.lst ds))) : WS g X (.Return (some (.List es lp)) pos) ρ μ R := fun σ H at_ => by
  refine ES.of (ps_ret (pe_lst (EA.pa X es))) ?_
  refine h.then at_ fun ds m us H1 G a1 r1 ⟨hz, q⟩ => ⟨by rw [← rps_length r1]; exact Nat.le_trans hz (by decide), fun p hp => ?_⟩
  have G2 : Gs m (up m p (.lst ds)) H1 (upd H1 p (.lst us)) := gs_alloc hp
  exact show VQ g μ H R.rt _ _ from ⟨.ptr p, _, G.trans G2, mk_alloc a1.mu hp ⟨us, upd_same, rps_mono G2 _ _ r1⟩, rfl, q p (a1.mu.new hp)⟩
end
/-- .. with no test -/
def LcM (g : Gb) (k : Nat) (N : List Str) (vis' loc' : List Nat) (gl' : List Str) (scope : Scope) (vs : List Nat) (tg elt : Expr) (ρ : Ro) (Post : AQ) (ds : List D) (m : Mu) : Prop :=
  ∃ (α : Type) (ss : List α) (φ f : α → D), ds = ss.map φ ∧ ss.length ≤ 100000 ∧
    (∀ s, s ∈ ss → ∀ p acc, m p = none → ∃ ρ2 : Ro,
      (∀ X', Sit g k N vis' loc' gl' scope X' → WG g X' (some vs) tg (φ s) (wipeR ρ vs) (up m p (.lst acc)) (· = ρ2)) ∧
      (∀ X', Sit g k N vis' loc' gl' scope X' → W g X' elt ρ2 (up m p (.lst acc)) (fun e n3 => e = f s ∧ n3 = up m p (.lst acc)))) ∧
    Post (.lst (ss.map f)) m
theorem lcm_lcp {g : Gb} {k : Nat} {N : List Str} {vis' loc' : List Nat} {gl' : List Str} {scope : Scope} {vs : List Nat} {tg elt : Expr} {ρ : Ro} {Post : AQ} {ds : List D} {m : Mu}
    (h : LcM g k N vis' loc' gl' scope vs tg elt ρ Post ds m) : LcP g k N vis' loc' gl' scope vs tg elt [] ρ Post ds m := by
  obtain ⟨α, ss, φ, f, e, l, t, q⟩ := h
  exact ⟨α, ss, φ, f, fun _ => true, e, l, fun s hs p acc hp => let ⟨ρ2, h1, h2⟩ := t s hs p acc hp; ⟨ρ2, h1, fun _ _ => ⟨rfl, rfl⟩, fun _ => h2⟩, by rw [List.filter_eq_self.mpr (fun _ _ => rfl)]; exact q⟩
section
variable {g : Gb} {k : Nat} {N : List Str} {vis loc : List Nat} {gl : List Str} {sc : Scope} {X : Cx} {ρ : Ro} {μ : Mu} {R : AE} {pos : Pos} {Post : AQ} {elt tg iter : Expr} {scope : Scope} {vis' loc' : List Nat} {gl' : List Str}
theorem w_lcM (S : Sit g k N vis loc gl sc X) (own : List (Str × Nat)) (hb : blkC N sc scope own = true) (hs' : sitB scope N vis' loc' gl' = true) (h : WI g X tg iter ρ μ (LcM g k N vis' loc' gl' scope (own.map (·.2)) tg elt ρ Post))
    (hs : ∀ x, foldedSetIterable iter X.env x = pure x := by intro _; rfl) : W g X (.ListComp elt [⟨tg, iter, [], 0⟩] scope pos) ρ μ Post :=
  w_lcP S own hb hs' (h.mono fun _ _ q => lcm_lcp q) (by decide) hs
theorem ws_setLcM (S : Sit g k N vis loc gl sc X) {i : Nat} {y : Str} {py spos : Pos} (hN : N[i]? = some y) (hl : loc.elem i = true) (hyl : sc.names.lookup y = some .local) (hln : (py.line == pos.line) = true) (hown : (scope.names.any fun (n, k) => n == y && (k == .local || k == .cell)) = false) (own : List (Str × Nat)) (hb : blkC N sc scope own = true) (hs' : sitB scope N vis' loc' gl' = true)
    (h : WI g X tg iter ρ μ (LcM g k N vis' loc' gl' scope (own.map (·.2)) tg elt ρ fun d m => R.nx (ρ.set i (some d)) m))
    (hs : ∀ x, foldedSetIterable iter X.env x = pure x := by intro _; rfl) : WS g X (.Assign [.Name y py] (.ListComp elt [⟨tg, iter, [], 0⟩] scope pos) spos) ρ μ R :=
  ws_setLcP S hN hl hyl hln hown own hb hs' (h.mono fun _ _ q => lcm_lcp q) (by decide) hs
end
end Mb
set_option maxHeartbeats 4000000
namespace Mb
open PySem PySem.Spec L2
/-! ### a comprehension over a list that is being changed (not by the comprehension) -/
structure WalkC (g : Gb) (J : It) (ds : List D) (μ : Mu) (H1 : Hp) (C : Mu → Prop) : Prop where
  goes : ∀ i μ' H', i < ds.length → Gs μ μ' H1 H' → Mk g μ' H' → C μ' → J.go i H'
  stops : ∀ μ' H', Gs μ μ' H1 H' → Mk g μ' H' → C μ' → J.stop ds.length H'
  yields : ∀ i x μ' H' H'', i < ds.length → Gs μ μ' H1 H' → Mk g μ' H' → C μ' → J.yld i H' x H'' → ∃ d, ds[i]? = some d ∧ Gs μ' μ' H' H'' ∧ Mk g μ' H'' ∧ Rp g.K μ' H'' d x
def WIC (g : Gb) (X : Cx) (tg iter : Expr) (ρ : Ro) (μ : Mu) (C : Mu → Prop) (P : List D → Mu → Prop) : Prop := ∀ σ H, At g ρ μ σ H → EI X tg iter σ H fun J H' => ∃ ds m, Gs μ m H H' ∧ Mk g m H' ∧ WalkC g J ds m H' C ∧ P ds m
section
variable {g : Gb} {k : Nat} {N : List Str} {vis loc : List Nat} {gl : List Str} {sc : Scope} {X : Cx} {ρ : Ro} {μ : Mu} {R : AE} {pos : Pos} {Post : AQ} {elt tg iter cond : Expr} {scope : Scope} {own : List (Str × Nat)} {vis' loc' : List Nat} {gl' : List Str} {C : Mu → Prop}
def LcAskC (C : Mu → Prop) (g : Gb) (k : Nat) (N : List Str) (vis' loc' : List Nat) (gl' : List Str) (scope : Scope) (vs : List Nat) (tg elt : Expr) (ifs : List Expr) (ρ : Ro) (Post : AQ) (ds : List D) (m : Mu) : Prop :=
  ds.length ≤ 1000000 ∧ ∃ I : Nat → List D → Mu → Prop, (∀ i acc m' p, I i acc m' → m' p = none → C (up m' p (.lst acc))) ∧ I 0 [] m ∧ (∀ i d acc m', ds[i]? = some d → I i acc m' → acc.length ≤ i → ∀ p, m' p = none → ∃ (ρ2 : Ro) (b0 : Bool),
      (∀ X', Sit g k N vis' loc' gl' scope X' → WG g X' (some vs) tg d (wipeR ρ vs) (up m' p (.lst acc)) (· = ρ2)) ∧
      (∀ X', Sit g k N vis' loc' gl' scope X' → WTs g X' ifs ρ2 (up m' p (.lst acc)) fun b n2 => b = b0 ∧ n2 = up m' p (.lst acc)) ∧
      if b0 = true then ∀ X', Sit g k N vis' loc' gl' scope X' → W g X' elt ρ2 (up m' p (.lst acc)) (fun e n3 => ∃ m3, n3 = up m3 p (.lst acc) ∧ m3 p = none ∧ I (i + 1) (acc ++ [e]) m3) else I (i + 1) acc m') ∧
    ∀ acc m', I ds.length acc m' → acc.length ≤ ds.length → Post (.lst acc) m'
theorem lc_readC {ifs : List Expr} (S : Sit g k N vis loc gl sc X) (hs' : sitB scope N vis' loc' gl' = true) {vs : List Nat} (h : WIC g X tg iter ρ μ C (LcAskC C g k N vis' loc' gl' scope vs tg elt ifs ρ Post)) {σ : L2.St} {H : Hp} (at_ : At g ρ μ σ H) {Q : VK}
    (kk : ∀ acc m' H' p, Gs μ m' H H' → Mk g m' H' → Rp g.K m' H' (.lst acc) (.ref p) → Post (.lst acc) m' → Q (.ref p) H') : tLc (EI X tg iter) (gB X scope tg) (tts X scope ifs) (eB X scope elt) vs σ H Q := by
  intro pins s In
  refine thn (h σ H at_ pins s In) fun v s1 h1 => thn h1 fun itv s2 ⟨it, fp, tn, J, H', e1, I2, T, t0, f0, ds, m, G, M, w, hlen, I, hC, i0, turn, done⟩ => ⟨it, fp, tn, J, H', e1, I2, T, t0, f0, ?_⟩
  intro p hp
  have mp : m p = none := M.new hp
  refine ⟨fun i n H2 => n = ds.length - i ∧ i ≤ ds.length ∧ ∃ acc m', m' p = none ∧ Gs m (up m' p (.lst acc)) H' H2 ∧ Mk g (up m' p (.lst acc)) H2 ∧ I i acc m' ∧ acc.length ≤ i,
    ⟨ds.length, rfl, Nat.zero_le _, [], m, mp, gs_alloc hp, mk_alloc M hp ⟨[], upd_same, rfl⟩, i0, Nat.le_refl _⟩, ?_⟩
  rintro i n H2 ⟨rfl, hi, acc, m', hm, G2, M2, ii, hacc⟩
  by_cases hlt : i < ds.length
  · refine .inr ⟨w.goes i _ H2 hlt G2 M2 (hC i acc m' p ii hm), fun H3 => ∃ acc m', m' p = none ∧ Gs m (up m' p (.lst acc)) H' H3 ∧ Mk g (up m' p (.lst acc)) H3 ∧ I (i + 1) acc m' ∧ acc.length ≤ i + 1,
      fun H3 ⟨acc3, m3, q1, q2, q3, q4, q5⟩ => ⟨ds.length - (i + 1), by omega, rfl, hlt, acc3, m3, q1, q2, q3, q4, q5⟩, fun x H3 y => ?_⟩
    obtain ⟨d, hd, G3, M3, rd⟩ := w.yields i x _ H2 H3 hlt G2 M2 (hC i acc m' p ii hm) y
    have G4 := G2.trans G3
    have a3 : At g (wipeR ρ vs) (up m' p (.lst acc)) (L2.wipe σ vs) H3 := (at_.go (G.trans G4) M3).wipe vs
    obtain ⟨ρ2, b0, t1, t2, t3⟩ := turn i d acc m' hd ii hacc p hm
    intro s5 H5 C5 cl5 fp5
    refine (t1 _ (S.blk hs' s5 H5 C5 cl5 fp5) _ H3 x a3 rd).mono fun σ4 H4 ⟨e4, ch, ρ4, a4, q⟩ => ?_
    subst e4 q
    refine ⟨wipe_chg ch, ?_⟩
    have fin : ∀ H6, Gs (up m' p (.lst acc)) (up m' p (.lst acc)) H4 H6 → Mk g (up m' p (.lst acc)) H6 → (if b0 = true then eB X scope elt σ4 H6 fun y H7 => ∃ acc, H7 p = some (.lst acc) ∧ acc.length < sizeLine ∧ ∃ acc_1 m', m' p = none ∧ Gs m (up m' p (.lst acc_1)) H' (upd H7 p (.lst (acc ++ [y]))) ∧ Mk g (up m' p (.lst acc_1)) (upd H7 p (.lst (acc ++ [y]))) ∧ I (i + 1) acc_1 m' ∧ acc_1.length ≤ i + 1
        else ∃ acc m', m' p = none ∧ Gs m (up m' p (.lst acc)) H' H6 ∧ Mk g (up m' p (.lst acc)) H6 ∧ I (i + 1) acc m' ∧ acc.length ≤ i + 1) := fun H6 G6 M6 => by
      cases b0 with
      | false => exact ⟨acc, m', hm, G4.trans G6, M6, t3, by omega⟩
      | true =>
        intro s8 H8 C8 cl8 fp8
        have t3' := t3
        refine (t3' _ (S.blk hs' s8 H8 C8 cl8 fp8)).then (a4.go G6 M6) fun e n3 y H7 G7 a7 r7 ⟨m3, e3, h3, i3⟩ => ?_
        subst e3
        obtain ⟨xs, hx, rx⟩ := a7.mu p _ up_same
        have lx := rps_length rx
        refine ⟨xs, hx, Nat.lt_of_le_of_lt (by omega : xs.length ≤ 1000000) (by decide), acc ++ [e], m3, h3, ?_, ?_, i3, by simp; omega⟩
        · have q := gs_write (μ := up m3 p (.lst acc)) (H := H7) (o := .lst (xs ++ [y])) (c' := .lst (acc ++ [e])) up_same
          rw [up_up] at q
          exact (G4.trans G6).trans (G7.trans q)
        · have q := gs_write (μ := up m3 p (.lst acc)) (H := H7) (o := .lst (xs ++ [y])) (c' := .lst (acc ++ [e])) up_same
          have z := mk_write (o := .lst (xs ++ [y])) (c' := .lst (acc ++ [e])) a7.mu up_same ⟨xs ++ [y], upd_same, rps_append (rps_mono q _ _ rx) (rps_one (rp_mono q _ _ r7))⟩
          rw [up_up] at z
          exact z
    match ifs, t2 with
    | [], t2 =>
      obtain ⟨e7, _⟩ := t2 _ (S.blk hs' s5 H5 C5 cl5 fp5)
      subst e7
      exact fin H4 (.refl _ _) a4.mu
    | [c], t2 =>
      intro s8 H8 C8 cl8 fp8
      refine WT.then (t2 _ (S.blk hs' s8 H8 C8 cl8 fp8)) a4 fun b n2 H6 G6 a6 ⟨e7, e8⟩ => ?_
      subst e7 e8
      exact fin H6 G6 a6.mu
    | _ :: _ :: _, t2 => exact False.elim (t2 _ (S.blk hs' s5 H5 C5 cl5 fp5))
  · have e : i = ds.length := by omega
    subst e
    refine .inl ⟨w.stops _ H2 G2 M2 (hC _ acc m' p ii hm), ?_⟩
    have ed : dl (up m' p (.lst acc)) p = m' := dl_up hm
    have G5 : Gs (up m' p (.lst acc)) m' H2 H2 := by
      have := gs_dl (μ := up m' p (.lst acc)) (H := H2) (p := p)
      rw [ed] at this; exact this
    have M5 : Mk g m' H2 := by
      have := mk_dl (p := p) M2
      rw [ed] at this; exact this
    have r5 : Rp g.K m' H2 (.lst acc) (.ref p) := by
      have := fz_rp (d := .lst acc) M2 up_same rfl
      rw [ed] at this
      exact this
    exact kk acc m' H2 p (G.trans (G2.trans G5)) M5 r5 (done acc m' ii hacc)
/-- the list at l -/
theorem wic_ptr (S : Sit g k N vis loc gl sc X) {tg it : Expr} {l : Addr} {ds : List D} {P : List D → Mu → Prop} (h : W g X it ρ μ fun d m => d = .ptr l ∧ m l = some (.lst ds) ∧ P ds m) : WIC g X tg it ρ μ (fun m => m l = some (.lst ds)) P := fun σ H at_ =>
  EI.of (pi_list (E.pe X it)) (h.then at_ fun d m u H1 G a1 r1 ⟨e, hl, p⟩ => by
    subst e
    obtain ⟨xs0, hx0, r0⟩ := a1.mu l _ hl
    refine ⟨l, r1, ⟨xs0, S.hK ▸ SqL.of hx0⟩, ds, m, G, a1.mu, ?_, p⟩
    rw [S.hK]
    have key : ∀ {μ' : Mu} {H' : Hp}, Mk g μ' H' → μ' l = some (.lst ds) → ∃ xs, SqL g.K H' l xs ∧ Rps g.K μ' H' ds xs := fun M c => by
      obtain ⟨xs, hx, rr⟩ := M l _ c
      exact ⟨xs, SqL.of hx, rr⟩
    refine ⟨fun i μ' H' hi _ M c => ?_, fun μ' H' _ M c => ?_, fun i x μ' H' H'' hi _ M c y => ?_⟩
    · obtain ⟨xs, hs, rr⟩ := key M c
      exact (walk_list (K := g.K) (a := l) (xs := xs)).goes i H' (by rw [← rps_length rr]; exact hi) hs
    · obtain ⟨xs, hs, rr⟩ := key M c
      exact rps_length rr ▸ (walk_list (K := g.K) (a := l) (xs := xs)).stops H' hs
    · obtain ⟨xs, hs, rr⟩ := key M c
      obtain ⟨e, z⟩ := (walk_list (K := g.K) (a := l) (xs := xs)).yields i H' x H'' (by rw [← rps_length rr]; exact hi) hs y
      subst e
      obtain ⟨d, hd, rd⟩ := rps_get' rr z
      exact ⟨d, hd, .refl _ _, M, rd⟩)
theorem w_lcMp (S : Sit g k N vis loc gl sc X) (own : List (Str × Nat)) (hb : blkC N sc scope own = true) (hs' : sitB scope N vis' loc' gl' = true) {l : Addr} {ds0 : List D}
    (h : W g X iter ρ μ fun d m => d = .ptr l ∧ m l = some (.lst ds0) ∧ LcM g k N vis' loc' gl' scope (own.map (·.2)) tg elt ρ Post ds0 m)
    (hs : ∀ x, foldedSetIterable iter X.env x = pure x := by intro _; rfl) : W g X (.ListComp elt [⟨tg, iter, [], 0⟩] scope pos) ρ μ Post := fun σ H at_ => by
  have h2 : WIC g X tg iter ρ μ (fun m => m l = some (.lst ds0)) (LcAskC (fun m => m l = some (.lst ds0)) g k N vis' loc' gl' scope (own.map (·.2)) tg elt [] ρ Post) := wic_ptr S (h.mono fun d m ⟨e, hl, q⟩ => ⟨e, hl, by
    obtain ⟨α, ss, φ, f, ed, hlen, turn, post⟩ := q
    subst ed
    refine ⟨by rw [List.length_map]; omega, fun i acc m' => m' = m ∧ acc = (ss.take i).map f, fun i acc m' p ⟨em, _⟩ hp => ?_, ⟨rfl, by simp⟩, fun i d acc m' hd ⟨em, ea⟩ _ p hp => ?_, fun acc m' ⟨em, ea⟩ _ => ?_⟩
    · subst em; rw [up_ne (mu_ne hl hp)]; exact hl
    · subst em
      rw [List.getElem?_map] at hd
      cases hs : ss[i]? with
      | none => rw [hs] at hd; cases hd
      | some s =>
        rw [hs] at hd
        have hd' : φ s = d := Option.some.inj hd
        subst hd'
        obtain ⟨ρ2, h1, h2⟩ := turn s (List.mem_of_getElem? hs) p acc hp
        refine ⟨ρ2, true, h1, fun _ _ => ⟨rfl, rfl⟩, ?_⟩
        refine fun X' S' => (h2 X' S').mono fun e n3 ⟨e1, e2⟩ => ⟨m', e2, hp, rfl, ?_⟩
        rw [List.take_succ, hs, ea, e1]; simp
    · subst em
      rw [ea, List.length_map, List.take_length]
      exact post⟩)
  exact E.of (pe_lc S.calm (by rw [S.hN]; exact S.nd) (EI.pi X tg iter) (S.blkOk hb) (g := gB X scope tg) (fun s H C cl fp => ⟨fun pins s1 σ H1 v u Q I r h => h s H C cl fp pins s1 u I r⟩) (tt := tts X scope []) (pts_all X scope (by decide))
    (te := eB X scope elt) (fun s H C cl fp => ⟨fun pins s1 σ H1 Q I h => h s H C cl fp pins s1 I⟩) hs) (lc_readC S hs' h2 at_ fun acc m' H' p G M r q => ⟨.lst acc, m', G, M, r, q⟩)
/-- an if by what its test means -/
theorem ws_ifc {c : Expr} {a b : List Stmt} (P : Bool → Mu → Prop) (h : WT g X c ρ μ P) (h1 : ∀ m, P true m → WB g X a ρ m R) (h2 : ∀ m, P false m → WB g X b ρ m R) : WS g X (.If c a b pos) ρ μ R :=
  ws_if fun σ H at_ => (h σ H at_).mono fun t H' ⟨m, G, M, q⟩ => ⟨m, G, M, by cases t with | true => exact h1 m q | false => exact h2 m q⟩
end
end Mb
namespace Mb
open PySem PySem.Spec L2
/-- the facts of the head -/
structure Fx (g : Gb) : Prop where
  says : He.SaysD fa fn g.K
  ex : (exs.all fun f => f g.K) = true
  hp : ∃ h, g.K.In h ∧ h.Ns mainGlobals g.mg
section
variable {g : Gb}
theorem Fx.ext (Z : Fx g) (i : Nat) {f : PySem.W.Frag → Bool} (h : exs[i]? = some f := by rfl) : f g.K = true := List.all_eq_true.mp Z.ex f (List.mem_of_getElem? h)
theorem Fx.glo (Z : Fx g) (j : Nat) {x : Str} (h : fa[j]? = some (.glo x) := by rfl) : g.mg x = some (.ref (He.ga g.K x)) := let ⟨_, X, G⟩ := Z.hp; He.glo_ok X G (Z.says.fact j h)
theorem Fx.free (Z : Fx g) (j : Nat) {x : Str} (h : fa[j]? = some (.free x) := by rfl) : g.mg x = none := let ⟨_, X, G⟩ := Z.hp; He.free_ok X G (Z.says.fact j h)
theorem Fx.int (Z : Fx g) (j : Nat) {x : Str} {i : Int} (h : fa[j]? = some (.int x i) := by rfl) : ∃ t, g.mg x = some (.int i t) := let ⟨_, X, G⟩ := Z.hp; He.int_ok X G (Z.says.fact j h)
theorem Fx.str (Z : Fx g) (j : Nat) {x z : Str} (h : fa[j]? = some (.str x z) := by rfl) : ∃ t, g.mg x = some (.str z t) := let ⟨_, X, G⟩ := Z.hp; He.str_ok X G (Z.says.fact j h)
theorem Fx.cls (Z : Fx g) (j : Nat) {x : Str} (h : fa[j]? = some (.cls x) := by rfl) : Cls g.K (He.ga g.K x) := He.cls_ok (Z.says.fact j h)
theorem Fx.na (Z : Fx g) (j : Nat) {x f : Str} (h : fa[j]? = some (.noat x f) := by rfl) : NoAttr g.K (He.ga g.K x) f := He.noat_ok (Z.says.fact j h)
theorem Fx.meth (Z : Fx g) (j : Nat) {x m : Str} (h : fa[j]? = some (.meth x m) := by rfl) : Meth g.K (He.ga g.K x) m (He.ma g.K (He.ga g.K x) m) := He.meth_ok (Z.says.fact j h)
theorem Fx.mkr (Z : Fx g) (j : Nat) {x : Str} (h : fa[j]? = some (.mkr x) := by rfl) : L2.Mk g.K (He.ga g.K x) (He.ma g.K (He.ga g.K x) "__init__") := He.mkr_ok (Z.says.fact j h)
theorem Fx.kit (Z : Fx g) (i : Nat) {x y : Str} {b : Bool} (h : exs[i]? = some (kit x y b) := by rfl) : PySem.W.kitOne g.K (.ref (He.ga g.K x)) (.ref (He.ga g.K y)) = some b := of_decide_eq_true (Z.ext i h)
theorem Fx.eqm (Z : Fx g) (i : Nat) {x y m : Str} (h : exs[i]? = some (eqm x m y) := by rfl) : He.ma g.K (He.ga g.K x) m = He.ma g.K (He.ga g.K y) m := of_decide_eq_true (Z.ext i h)
abbrev BdOk (d : He.DefD) (ps : List Str) : Prop := ∀ (kV doc pm : Value) (an : Option Addr) (cdv ct : Value) (us : List Value), us.length = ps.length → bindArgs (PySem.W.fnOf d.name d.qual d.params d.body d.scope .none kV doc pm an cdv ct) ⟨us, []⟩ = pure (ps.zip us)
variable {k : Nat} {N ps : List Str} {vis loc : List Nat} {gl : List Str} {asp : ASp}
/-- a def's walk -/
structure Wlk (g : Gb) (k : Nat) (d : He.DefD) (N ps : List Str) (vis loc : List Nat) (gl : List Str) (asp : ASp) : Prop where
  sc : FnScope N ps d.scope
  hs : sitB d.scope N vis loc gl = true
  len : ∀ ds μ P, asp ds μ P → ds.length = ps.length
  run : ∀ X, Sit g k N vis loc gl d.scope X → ∀ ds μ P, asp ds μ P → WB g X d.body (ini N ds) μ { nx := fun _ m => P .non m, rt := P }
theorem Fx.fnA (Z : Fx g) {d : He.DefD} (i : Nat) (hi : Mb.fn[i]? = some d) (h0 : d.dfl = []) (bd : BdOk d ps) (w : Wlk g k d N ps vis loc gl asp) : ∃ fd, FnA g (k + 1) (He.fAd g.K d.at_) fd ps asp ∧ Binds g.K fd ps [] ∧ PySem.W.keepIn g.K (.ref (He.fAd g.K d.at_)) = true := by
  obtain ⟨fd, F⟩ := Z.says.def_ i hi
  refine ⟨fd, fnA_of F w.sc w.hs w.len w.run, ?_, F.kp⟩
  have e : He.DefD.dvs g.K d = [] := by unfold He.DefD.dvs; rw [h0]; rfl
  rw [e] at F
  exact F.bindsN bd
theorem Fx.fn (Z : Fx g) {d : He.DefD} {x : Str} (i j : Nat) (hi : Mb.fn[i]? = some d) (hj : fa[j]? = some (.glo x)) (hat : d.at_ = (x, none)) (h0 : d.dfl = []) (bd : BdOk d ps) (w : Wlk g k d N ps vis loc gl asp) : FnG g (k + 1) x asp := by
  obtain ⟨fd, F, b, kp⟩ := Z.fnA i hi h0 bd w
  have e : He.fAd g.K d.at_ = He.ga g.K x := by rw [hat]; rfl
  rw [e] at F kp
  exact ⟨_, fd, ps, F, Z.glo j hj, kp, b⟩
theorem Fx.me (Z : Fx g) {d : He.DefD} {x y m : Str} (i j jc : Nat) (hi : Mb.fn[i]? = some d) (hj : fa[j]? = some (.meth x m)) (hc : fa[jc]? = some (.cls x)) (hat : d.at_ = (y, some m)) (heq : He.ma g.K (He.ga g.K x) m = He.ma g.K (He.ga g.K y) m) (h0 : d.dfl = []) (bd : BdOk d ps) (w : Wlk g k d N ps vis loc gl asp) : MeG g (k + 1) (He.ga g.K x) m asp := by
  obtain ⟨fd, F, b, kp⟩ := Z.fnA i hi h0 bd w
  have e : He.fAd g.K d.at_ = He.ma g.K (He.ga g.K x) m := by rw [hat, heq]; rfl
  rw [e] at F kp
  exact ⟨⟨_, fd, ps, F, Z.meth j hj, b⟩, Z.cls jc hc⟩
theorem Fx.mkG (Z : Fx g) {d : He.DefD} {x y : Str} (i j jg : Nat) (hi : Mb.fn[i]? = some d) (hj : fa[j]? = some (.mkr x)) (hg : fa[jg]? = some (.glo x)) (hat : d.at_ = (y, some ("__init__" : Str))) (heq : He.ma g.K (He.ga g.K x) "__init__" = He.ma g.K (He.ga g.K y) "__init__") (h0 : d.dfl = []) (bd : BdOk d ps) (w : Wlk g k d N ps vis loc gl asp) : MkG g (k + 1) x (He.ga g.K x) asp := by
  obtain ⟨fd, F, b, kp⟩ := Z.fnA i hi h0 bd w
  have e : He.fAd g.K d.at_ = He.ma g.K (He.ga g.K x) "__init__" := by rw [hat, heq]; rfl
  rw [e] at F kp
  exact ⟨_, fd, ps, F, Z.glo jg hg, Z.mkr j hj, b⟩
end
/-- a variable, its slot found from its name -/
theorem w_v {g : Gb} {k : Nat} {N : List Str} {vis loc : List Nat} {gl : List Str} {sc : Scope} {X : Cx} {ρ : Ro} {μ : Mu} {Post : AQ} {pos : Pos} (S : Sit g k N vis loc gl sc X) {i : Nat} {x : Str} {d : D} (hN : N[i]? = some x) (hv : vis.elem i = true) (hd : ρ[i]? = some (some d)) (q : Post d μ) : W g X (.Name x pos) ρ μ Post := w_var S i hv hN hd q
theorem ws_v {g : Gb} {k : Nat} {N : List Str} {vis loc : List Nat} {gl : List Str} {sc : Scope} {X : Cx} {ρ : Ro} {μ : Mu} {R : AE} {pos : Pos} {e : Expr} (S : Sit g k N vis loc gl sc X) {i : Nat} {x : Str} {pos' : Pos} (hN : N[i]? = some x) (hl : loc.elem i = true) (h : W g X e ρ μ fun d m => R.nx (ρ.set i (some d)) m)
    (hs : swapsWith e (some (.Name x pos')) pos.line X.env = pure false := by rfl) : WS g X (.Assign [.Name x pos'] e pos) ρ μ R := ws_set S i hl hN h hs
theorem wg_v {g : Gb} {k : Nat} {N : List Str} {vis loc : List Nat} {gl : List Str} {sc : Scope} {X : Cx} {ρ : Ro} {μ : Mu} {pos : Pos} {d : D} {q : Ro → Prop} {cs : Option (List Nat)} (S : Sit g k N vis loc gl sc X) {i : Nat} {x : Str} (hN : N[i]? = some x) (hl : loc.elem i = true) (hc : okc cs i = true) (h : q (ρ.set i (some d))) : WG g X cs (.Name x pos) d ρ μ q := wg_name S i hl hN hc h
end Mb
set_option maxHeartbeats 4000000
namespace Mb
open PySem PySem.Spec L2
abbrev cl (g : Gb) (x : Str) : Addr := He.ga g.K x
section
variable {g : Gb} {k : Nat} {N : List Str} {vis loc : List Nat} {gl : List Str} {sc : Scope} {X : Cx} {ρ : Ro} {μ : Mu} {R : AE} {pos : Pos} {Post : AQ} {e : Expr}
/-- a module's int, text, class, the tuple GO -/
theorem w_gint (S : Sit g k N vis loc gl sc X) {j : Nat} {x : Str} {i : Int} (hx : gl[j]? = some x) (hm : ∃ t, g.mg x = some (.int i t)) (q : Post (.int i) μ) : W g X (.Name x pos) ρ μ Post := by
  obtain ⟨t, hm⟩ := hm
  exact w_glb S j (d := .int i) (v := .int i) hx hm ⟨t, rfl⟩ (fun _ _ => rfl) q
theorem w_gstr (S : Sit g k N vis loc gl sc X) {j : Nat} {x : Str} {i : Str} (hx : gl[j]? = some x) (hm : ∃ t, g.mg x = some (.str i t)) (q : Post (.str i) μ) : W g X (.Name x pos) ρ μ Post := by
  obtain ⟨t, hm⟩ := hm
  exact w_glb S j (d := .str i) (v := .str i) hx hm ⟨t, rfl⟩ (fun _ _ => rfl) q
theorem w_gcls (S : Sit g k N vis loc gl sc X) {j : Nat} {x : Str} (hx : gl[j]? = some x) (hm : g.mg x = some (.ref (cl g x))) (q : Post (.ptr (cl g x)) μ) : W g X (.Name x pos) ρ μ Post :=
  w_glb S j (d := .ptr (cl g x)) (v := .ref (cl g x)) hx hm rfl (fun _ _ => rfl) q
theorem w_gGO (Z : Fx g) (ig jg : Nat) (hi : exs[ig]? = some goT) (hj : fa[jg]? = some (.glo "GO")) (S : Sit g k N vis loc gl sc X) {j : Nat} (hx : gl[j]? = some ("GO" : Str)) (q : Post (.tup [.str "go"]) μ) : W g X (.Name "GO" pos) ρ μ Post := by
  have h := Z.ext ig hi
  have ht := He.tupB_ok (vs := [.str "go"]) h (fun _ => none)
  refine w_glb S j (v := .ref (cl g "GO")) hx (Z.glo jg hj) rfl (fun μ H => ?_) q
  rcases ht with ht | ht
  · rcases ht with ht | ⟨o, ht⟩ <;> cases ht
  · exact ⟨_, [.str "go"], rfl, .inr ht, .str "go", [], rfl, rfl, rfl⟩
/-- the signs of a text -/
def signs (z : Str) : List D := z.cps.toList.map fun c => .str ⟨#[c]⟩
theorem wi_str {tg it : Expr} {P : List D → Mu → Prop} (h : W g X it ρ μ fun d m => ∃ z, d = .str z ∧ P (signs z) m) : WI g X tg it ρ μ P := fun σ H at_ =>
  EI.of (pi_str (E.pe X it)) (h.then at_ fun d m u H1 G a1 r1 ⟨z, e, p⟩ => by
    subst e
    have w := walk_str (z := z)
    have hl : (signs z).length = z.cps.size := by unfold signs; simp
    refine ⟨z, r1, signs z, m, G, a1.mu, ⟨fun i μ' H' hi _ => w.goes i H' (by rw [← hl]; exact hi) trivial, fun μ' H' _ => hl ▸ w.stops H' trivial, fun i x μ' H' H'' hi _ M y => ?_⟩, p⟩
    obtain ⟨e, c, hc, ex⟩ := w.yields i H' x H'' (by rw [← hl]; exact hi) trivial y
    subst e ex
    refine ⟨.str ⟨#[c]⟩, ?_, .refl _ _, M, rfl⟩
    unfold signs
    rw [List.getElem?_map, Array.getElem?_toList, hc]; rfl)
end
end Mb
set_option maxHeartbeats 4000000
namespace Mb
open PySem PySem.Spec L2
/-! ### C(), C without an own __init__ -/
theorem pe_bare {X : Cx} {C : Addr} {x : Str} {p pos : Pos} (hm : PySem.W.makesIn X.K C = true) (hi : PySem.W.findIn X.K (.ref C) "__init__" = some (some (.builtin "object.__init__"))) (kp : PySem.W.keepIn X.K (.ref C) = true) (hg : Gl X x) (hx : X.mg x = some (.ref C)) (hdb : (x == ("__debug__" : Str)) = false) :
    PE X (.Call (.Name x p) [] [] pos) (fun σ H Q => ∀ y dx, H y = none → H dx = none → dx ≠ y → Q (.ref y) (upd (upd H dx (.own y)) y (.ins C dx []))) := by
  refine ⟨fun pins s σ H Q I h => ?_⟩
  refine wpAny_Call_Name_kw (ld_glob I hg hx ?_ hdb)
  refine PySem.W.callWith_K0 I.kIn kp ?_
  have I2 := Inv.made (C := C) I
  have q := h (s.heap.objs.size + 1) s.heap.objs.size (I.hok.fresh (Nat.le_succ _)) (I.hok.fresh (Nat.le_refl _)) (Nat.ne_of_lt (Nat.lt_succ_self _))
  refine wpAny_call (make_map0 I.kIn hm hi (fun self => PySem.W.Looks.of_pure (PySem.W.oi_bind self)) ?_)
  obtain ⟨hh, gg, d, t, os⟩ := s
  have Y := PySem.W.makes_of (M := model X.prog X.w) I.kIn hm
  have e2 : ((hh.push PySem.W.emptyDict).push (PySem.W.instObj C hh.objs.size)).get? (hh.objs.size + 1) = some (PySem.W.instObj C hh.objs.size) := by
    have := Heap.get?_push_size (hh.push PySem.W.emptyDict) (o := PySem.W.instObj C hh.objs.size) rfl
    rw [Heap.size_push] at this
    exact this
  have t1 : PySem.W.Looks (model X.prog X.w) ((hh.push PySem.W.emptyDict).push (PySem.W.instObj C hh.objs.size)) (typeOf (.ref (hh.objs.size + 1))) (.ref C) := (PySem.W.Looks.ld e2).andThen .now
  have t2 : PySem.W.Looks (model X.prog X.w) ((hh.push PySem.W.emptyDict).push (PySem.W.instObj C hh.objs.size)) (isInstance (.ref (hh.objs.size + 1)) (.type "object")) true := t1.andThen (Y.top.keeps fun b o e => Heap.get?_push_of_some _ (Heap.get?_push_of_some _ e))
  refine codeAny_call_builtin PySem.W.oi_plain PySem.W.entry_oi (@PySem.W.check_slot (model X.prog X.w) _ _ _ "object.__init__" "object" "__init__" (.ref (hh.objs.size + 1)) [] [] _ PySem.W.oi_kind PySem.W.oi_split t2 (PySem.W.oi_args (.ref (hh.objs.size + 1))) ?_)
  rw [PySem.W.oi_run]
  exact wpAny_pure (And.intro rfl ⟨.ref (hh.objs.size + 1), _, I2, rfl, q⟩)
section
variable {g : Gb} {k j : Nat} {N : List Str} {vis loc : List Nat} {gl : List Str} {sc : Scope} {X : Cx} {ρ : Ro} {μ : Mu} {R : AE} {pos p apos : Pos} {Post : AQ} {e o : Expr} {es : List Expr} {x m : Str} {C : Addr} {asp : ASp}
theorem w_bare (S : Sit g k N vis loc gl sc X) (Z : Fx g) (i jg : Nat) (hi : exs[i]? = some (bare x)) (hj : fa[jg]? = some (.glo x)) {n : Nat} (hx : gl[n]? = some x) (q : Post (.obj (cl g x) [] []) μ) : W g X (.Call (.Name x p) [] [] pos) ρ μ Post := fun σ H at_ => by
  obtain ⟨h1, h2⟩ := He.ba (Z.ext i hi)
  obtain ⟨h2, h3⟩ := He.ba h2
  have hx' := S.hg n x hx
  refine E.of (pe_bare (C := cl g x) (by rw [S.hK]; exact h1) (by rw [S.hK]; exact He.eqO_ok h2) (by rw [S.hK]; exact h3) hx'.1 (by rw [S.hmg]; exact Z.glo jg hj) hx'.2.1) ?_
  intro a dx ha hdx ne
  have G2 : Gs μ μ H (upd (upd H dx (.own a)) a (.ins (cl g x) dx [])) := fun b u e n => ⟨by rw [upd_ne (ne_of_none e ha), upd_ne (ne_of_none e hdx)]; exact e, n⟩
  have M2 : Mk g μ (upd (upd H dx (.own a)) a (.ins (cl g x) dx [])) := fun y u eq => by
    obtain ⟨w, hw⟩ := (at_.mu y u eq).some
    refine (at_.mu y u eq).mono G2 ?_
    rw [upd_ne (ne_of_none hw ha), upd_ne (ne_of_none hw hdx)]
  exact ⟨.obj (cl g x) [] [], μ, G2, M2, ⟨a, dx, [], rfl, upd_same, at_.mu.new ha, rfl, rfl⟩, q⟩
/-! ### C.m(e, ..), m a def of C -/
theorem pe_clsf {pl : Sem Bool} {X : Cx} {k : Nat} {C f : Addr} {fd : FuncData} {ps : List Str} {sp : Sp} {ta : TE} {t : TA} (he : PE X o ta) (hr : PySem.W.readsIn X.K C (.type "type") = true) (hga : PySem.W.specialIn X.K (.ref C) "__getattribute__" = some (some (.builtin "type.__getattribute__"))) (hf : PySem.W.findCls X.K (.ref C) (.type "type") m = some (.val (.ref f)))
    (hk : PySem.W.keepIn X.K (.ref f) = true) (hh : PySem.W.handedIn (.ref f) = true) (F : FnOk X.prog X.w X.K X.mg X.base CX0 k f fd ps sp) (hrm : Room k X.A) (hb : Binds X.K fd ps []) (ha : PA X (e :: es) t)
    (hst : starEach (e :: es) X.env = (false, eval e X.env) :: starEach es X.env := by rfl) (hpl : (backTo pos (starEach es X.env)).any (·.1) = false := by rfl)
    (ht : eval (.Call (.Attribute o m apos) (e :: es) [] pos) X.env = (do
      let ov ← eval o X.env
      standAt apos.atName
      let (f, first) ← holding [ov] (getMethod ov m pl)
      callWith pos f first (backTo pos (starEach (e :: es) X.env)) (backToKw pos (keywordEach [] X.env))) := by rfl) :
    PE X (.Call (.Attribute o m apos) (e :: es) [] pos) (fun σ H Q => ta σ H fun x H1 => x = .ref C ∧ t σ H1 fun vs H2 => sp vs H2 Q E0) := by
  refine ⟨fun pins s σ H Q I h => ?_⟩
  refine PySem.W.methodCall_KW (pl := pl) (thn (he.run pins s σ H _ I h) fun u s1 ⟨x, H1, I1, rx, ex, q⟩ => ?_) ht
  subst ex
  obtain rfl : u = Value.ref C := rx
  refine PySem.W.method_cls I1.kIn hga (PySem.W.cls_value I1.kIn hr hf hh ?_)
  refine PySem.W.callWith_K (first := []) (h₀ := X.base) I.ok.mod.kin hk (thn (ha.run pos pins _ σ H1 _ (I1.tok _) q) fun us s2 ⟨vs, H2, I2, r, q2⟩ => ⟨I2.kIn, ?_⟩) hst hpl
  have q3 : sp (vs ++ []) H2 Q E0 := by rw [List.append_nil]; exact q2
  exact run_fn F hrm hb .nil pass0 I2 r q3
end
/-- C.m as a def, told by what it does -/
structure ClG (g : Gb) (k : Nat) (x : Str) (m : Str) (asp : ASp) : Prop where
  ex : ∃ f fd ps, FnA g k f fd ps asp ∧ PySem.W.keepIn g.K (.ref f) = true ∧ Binds g.K fd ps [] ∧ PySem.W.readsIn g.K (cl g x) (.type "type") = true ∧ PySem.W.specialIn g.K (.ref (cl g x)) "__getattribute__" = some (some (.builtin "type.__getattribute__")) ∧ PySem.W.findCls g.K (.ref (cl g x)) (.type "type") m = some (.val (.ref f)) ∧ PySem.W.handedIn (.ref f) = true
theorem Fx.clsG {g : Gb} {k : Nat} {N ps : List Str} {vis loc : List Nat} {gl : List Str} {asp : ASp} (Z : Fx g) {d : He.DefD} {x m : Str} (i ie : Nat) (hi : Mb.fn[i]? = some d) (he : exs[ie]? = some (clsf x m)) (hat : d.at_ = (x, some m)) (h0 : d.dfl = []) (bd : BdOk d ps) (w : Wlk g k d N ps vis loc gl asp) : ClG g (k + 1) x m asp := by
  obtain ⟨fd, F, b, kp⟩ := Z.fnA i hi h0 bd w
  have e : He.fAd g.K d.at_ = He.ma g.K (He.ga g.K x) m := by rw [hat]; rfl
  rw [e] at F kp
  obtain ⟨h1, h2⟩ := He.ba (Z.ext ie he)
  obtain ⟨h2, h3⟩ := He.ba h2
  obtain ⟨h3, h4⟩ := He.ba h3
  refine ⟨_, fd, ps, F, kp, b, h1, of_decide_eq_true h2, ?_, h4⟩
  cases q : PySem.W.findCls g.K (.ref (He.ga g.K x)) (.type "type") m with
  | none => rw [q] at h3; cases h3
  | some c =>
    rw [q] at h3
    cases c with
    | val v => rw [of_decide_eq_true h3]
    | get _ _ _ _ => cases h3
section
variable {g : Gb} {k j : Nat} {N : List Str} {vis loc : List Nat} {gl : List Str} {sc : Scope} {X : Cx} {ρ : Ro} {μ : Mu} {R : AE} {pos p apos : Pos} {Post : AQ} {e o : Expr} {es : List Expr} {x m : Str} {C : Addr} {asp : ASp}
theorem w_clsf {pl : Sem Bool} (S : Sit g k N vis loc gl sc X) (F : ClG g j x m asp) (hj : j ≤ k) (h : W g X o ρ μ fun d m1 => d = .ptr (cl g x) ∧ WA g X (e :: es) ρ m1 fun as m2 => asp as m2 Post)
    (hst : starEach (e :: es) X.env = (false, eval e X.env) :: starEach es X.env := by rfl) (hpl : (backTo pos (starEach es X.env)).any (·.1) = false := by rfl)
    (ht : eval (.Call (.Attribute o m apos) (e :: es) [] pos) X.env = (do
      let ov ← eval o X.env
      standAt apos.atName
      let (f, first) ← holding [ov] (getMethod ov m pl)
      callWith pos f first (backTo pos (starEach (e :: es) X.env)) (backToKw pos (keywordEach [] X.env))) := by rfl) : W g X (.Call (.Attribute o m apos) (e :: es) [] pos) ρ μ Post := fun σ H at_ => by
  obtain ⟨f, fd, ps, fa, hk, hb, h1, h2, h3, h4⟩ := F.ex
  refine E.of (pe_clsf (E.pe X o) (by rw [S.hK]; exact h1) (by rw [S.hK]; exact h2) (by rw [S.hK]; exact h3) (by rw [S.hK]; exact hk) h4 (S.fn fa) (S.room.mono hj) (by rw [S.hK]; exact hb) (EA.pa X (e :: es)) hst hpl ht) ?_
  refine h.then at_ fun d m1 v H1 G a1 r1 ⟨ed, q⟩ => ?_
  subst ed
  refine ⟨r1, q.then a1 fun as m2 vs H2 G2 a2 r2 q2 => ?_⟩
  exact ⟨as, m2, Post, r2, a2.mu, q2, fun v H' z => VQ.tr (G.trans G2) z⟩
/-- a new object, whose __init__ changes nothing but the object -/
theorem w_mkX (S : Sit g k N vis loc gl sc X) (F : MkG g j x C asp) (hj : j + 1 ≤ k) {i : Nat} (hx : gl[i]? = some x) (h : WA g X (e :: es) ρ μ fun ds m => ∀ q, m q = none → asp (.ptr q :: ds) (up m q (.ins C [] [])) fun d m2 => d = .non ∧ ∃ ns fs, m2 = up m q (.ins C ns fs) ∧ Post (.obj C ns fs) m)
    (hi : ∀ ds m P P', (∀ d m, P d m → P' d m) → asp ds m P → asp ds m P')
    (he : starEach (e :: es) X.env = (false, eval e X.env) :: starEach es X.env := by rfl) (hpl : (backTo pos (starEach es X.env)).any (·.1) = false := by rfl) : W g X (.Call (.Name x p) (e :: es) [] pos) ρ μ Post :=
  w_make S F hj i hx (fun σ H a => (h σ H a).mono fun vs H' ⟨ds, m, G, M, r, q⟩ => ⟨ds, m, G, M, r, fun a ha => hi _ _ _ _ (fun d m2 ⟨e1, ns, fs, e2, q2⟩ => ⟨e1, ns, fs, by rw [e2, up_same], by rw [e2, dl_up ha]; exact q2⟩) (q a ha)⟩) he hpl
end
end Mb
set_option maxHeartbeats 4000000
namespace Mb
open PySem PySem.Spec L2
open AutoSeq1 (wpAny_loadPart')
/-! ### enumerate(a tuple) -/
theorem meets_enumT (l : Addr) (items : Array Value) (n : Nat) (dct : Option Addr) (sl : Array (Option Value)) :
    Meets (Builtin.«enumerate.__new__» ⟨[.type "enumerate", .ref l], []⟩) (fun _ R s => s.heap.get? l = some { cls := .type "tuple", dict := dct, data := .seq items n, slots := sl } ∧
      R (.ok (.ret (.ref (s.heap.push { cls := .type "tuple_iterator", data := .fields #[.ref l, .int 0 0] }).objs.size)))
        { s with heap := (s.heap.push { cls := .type "tuple_iterator", data := .fields #[.ref l, .int 0 0] }).push { cls := .type "enumerate", data := .fields #[.none, .bool false, .ref s.heap.objs.size, rawInt 0, .none, .none] } }) :=
  .of_wp fun prog w A R s h => by
    obtain ⟨hp, g, d, tk, os⟩ := s; obtain ⟨hl, h⟩ := h
    have hsub := sub_enumerate
    have hL : Heap.IsTuple (Shared.heap ⟨hp, g, d, tk, os⟩) l items := ⟨_, hl, rfl, n, rfl⟩
    wp_walk using wpAny_loadPart' hl
    refine wpAny_stack_any fun st => wpAny_pure ?_
    split
    · rename_i c _ _ _ _ _
      cases (c == Value.type "enumerate")
      · wp_walk using wpAny_loadPart' hl, wpAny_pyIter_tuple hL
        exact ⟨_, rfl, h⟩
      · wp_walk using wpAny_loadPart' hl, wpAny_pyIter_tuple hL
        exact ⟨_, rfl, h⟩
    · wp_walk using wpAny_loadPart' hl, wpAny_pyIter_tuple hL
      exact ⟨_, rfl, h⟩
theorem call_enumT {prog : Program} {w : World} {A : Around} {E : Value → Shared → Prop} {s : Shared} {l : Addr} {items : Array Value} {Q : Value → Shared → Prop} (hL : s.heap.IsTuple l items)
    (h : ∀ h', IsEnum h' (s.heap.objs.size + 1) s.heap.objs.size 0 .none → h'.IsTupleIter s.heap.objs.size l 0 → h'.objs.size = s.heap.objs.size + 2 →
      (∀ b o, s.heap.get? b = some o → h'.get? b = some o) → Q (.ref (s.heap.objs.size + 1)) { s with heap := h' }) :
    wpAny (model prog w) A (call (.type "enumerate") [.ref l]) Q E s := by
  obtain ⟨⟨c, dct, dt, sl⟩, hl, hc, n, hd⟩ := hL
  replace hc : c = .type "tuple" := hc
  replace hd : dt = .seq items n := hd
  subst hc hd
  refine callType_new F.called_enumerate (by decide) (F.typeCall_enumerate_1 _) (F.newCall_enumerate_1 _) (fun obj => F.args_object_init_2 obj _) F.entry_enumerate_new
    (meets_enumT l items n dct sl) ⟨hl, ?_⟩
  have hz : (s.heap.push { cls := .type "tuple_iterator", data := .fields #[.ref l, .int 0 0] }).objs.size = s.heap.objs.size + 1 := Heap.size_push ..
  show _ ∧ _
  rw [hz]
  have he : IsEnum ((s.heap.push { cls := .type "tuple_iterator", data := .fields #[.ref l, .int 0 0] }).push
      { cls := .type "enumerate", data := .fields #[.none, .bool false, .ref s.heap.objs.size, rawInt 0, .none, .none] }) (s.heap.objs.size + 1) s.heap.objs.size 0 .none := by
    have := Heap.get?_push_size (s.heap.push { cls := .type "tuple_iterator", data := .fields #[.ref l, .int 0 0] })
      (o := { cls := .type "enumerate", data := .fields #[.none, .bool false, .ref s.heap.objs.size, rawInt 0, .none, .none] }) rfl
    rw [hz] at this; exact this
  refine ⟨⟨_, he, rfl⟩, h _ he ⟨_, Heap.get?_push_of_some _ (Heap.get?_push_size _ rfl), rfl, rfl⟩ (by rw [Heap.size_push, hz]) fun b o x => Heap.get?_push_of_some _ (Heap.get?_push_of_some _ x)⟩
/-- the tuple at a as it stands, each item in a new pair -/
def ItT (K : PySem.W.Frag) (a : Addr) : It :=
  ⟨fun i H => ∃ (xs : List V) (x : V), SqT K H a xs ∧ xs[i]? = some x, fun i H v H' => ∃ T x, v = .ref T ∧ H T = none ∧ H' = upd H T (.tup [.int (i : Nat), x]) ∧ ∀ xs, SqT K H a xs → xs[i]? = some x, fun i H => ∃ xs : List V, SqT K H a xs ∧ xs.length ≤ i⟩
theorem turn_enumT {P : Program} {w : World} {K : PySem.W.Frag} {elts : List Expr} {kk : Nat} {tpos : Pos} (a e it : Addr) :
    Turn P w K (.Tuple elts kk tpos) (ItT K a) [e, it] e (fun i h => (∃ old, IsEnum h e it ((i : Nat) : Int) old) ∧ h.IsTupleIter it a i ∧ e ≠ it) where
  mem := by simp
  obj := fun i h st b hb => by
    obtain ⟨⟨old, he⟩, ⟨o, ho, hc, hd⟩, _⟩ := st
    have e' : b = e ∨ b = it := by simpa using hb
    rcases e' with z | z
    · rw [z]; exact ⟨_, he, fun v q => nomatch q⟩
    · rw [z]; exact ⟨o, ho, fun v q => by rw [hd] at q; cases q⟩
  keep := fun i h h' st k => let ⟨⟨old, he⟩, hi, hne⟩ := st; ⟨⟨old, k e (by simp) _ he⟩, hi.at fun o q => k it (by simp) o q, hne⟩
  item := by
    intro X hP hw hK hc i pins s σ H E I hf st hg
    subst hP hw hK
    obtain ⟨⟨old, he⟩, hit, hne⟩ := st
    obtain ⟨xs, x, hq, hx⟩ := hg
    obtain ⟨its, rv, p, hz⟩ := I.tuple hq
    have p' : s.heap.IsTuple a its.toArray := p
    obtain ⟨u, hu, ru⟩ := rv.get hx
    have hel : e < s.heap.objs.size := Heap.lt_size he
    have hil : it < s.heap.objs.size := by obtain ⟨_, q, _⟩ := hit; exact Heap.lt_size q
    have hae : a ≠ e := fun z => by
      subst z
      obtain ⟨o, ho, hcl, _⟩ := p'
      rw [he] at ho
      cases ho
      exact absurd (Value.type.inj hcl) (by decide)
    have hai : a ≠ it := fun z => by
      subst z
      obtain ⟨o, ho, hcl, _⟩ := p'
      obtain ⟨o2, ho2, hcl2, _⟩ := hit
      rw [ho2] at ho
      cases ho
      rw [hcl2] at hcl
      exact absurd (Value.type.inj hcl) (by decide)
    have hi : i < its.toArray.size := by
      have := (List.getElem?_eq_some_iff.mp hu).1
      simpa using this
    have D := Draws.tuple (prog := X.prog) (w := X.w) (A := X.A.in1) (I.ok.hd hc) it a hai its.toArray
    refine wpAny_pyNext_enum_itemD D he ⟨hit, p'⟩ hi hne (by simp only [List.mem_cons, List.not_mem_nil, or_false, not_or]; exact ⟨hne, Ne.symm hae⟩) fun x' h' tk hP ho hit' hT hsz hk => ?_
    have ex : x' = u := by
      have : its.toArray[i]? = some x' := hP
      rw [List.getElem?_toArray, hu] at this
      exact (Option.some.inj this).symm
    subst ex
    refine ⟨_, rfl, wpAny_letOwnedTupleGo_enum (s := { s with heap := h', toks := tk + 1 }) ho fun h'' he' sb => ?_⟩
    have hT2 : h''.get? s.heap.objs.size = some { cls := .type "tuple", data := .seq #[.int i tk, x'] } := (sb.2 _ (Nat.ne_of_gt hel)).trans hT
    have new : ObjOk X.prog X.w (upd H s.heap.objs.size (.tup [.int (i : Nat), x])) h'' s.heap.objs.size (.tup [.int (i : Nat), x]) :=
      ⟨by show 2 ≤ sizeLine; decide, [.int i tk, x'], .cons ⟨_, rfl⟩ (.cons ru .nil), ⟨_, hT2, rfl, _, rfl⟩⟩
    have I1 : Inv X pins σ (upd H s.heap.objs.size (.tup [.int (i : Nat), x])) { s with heap := h'', toks := tk + 1 } :=
      I.turnedNew (ch := [e, it]) (fun b ob hb q => (sb.2 b (fun z => hb (by simp [z]))).trans (hk b ob (fun z => hb (by simp [z])) (fun z => hb (by simp [z])) q)) hf (Nat.le_refl _) new
    refine ⟨.ref s.heap.objs.size, _, I1, rfl, ⟨_, x, rfl, I.hok.fresh (Nat.le_refl _), rfl, fun ys hy => by rw [I.tuple_inj hy hq]; exact hx⟩, ⟨⟨x', ?_⟩, hit'.1.at fun o q => (sb.2 it (Ne.symm hne)).trans q, hne⟩, fun b hb => ?_⟩
    · have e1 : ((i + 1 : Nat) : Int) = (i : Int) + 1 := by omega
      rw [e1]; exact he'
    · have hb' : b < s.heap.objs.size := by
        have e' : b = e ∨ b = it := by simpa using hb
        rcases e' with z | z
        · rw [z]; exact hel
        · rw [z]; exact hil
      rw [upd_ne (Nat.ne_of_lt hb')]
      exact (hf b hb).1
  done := by
    intro X hP hw hK hc i pins s σ H E I hf st hg
    subst hP hw hK
    obtain ⟨⟨old, he⟩, hit, hne⟩ := st
    obtain ⟨xs, hq, hx⟩ := hg
    obtain ⟨its, rv, p, hz⟩ := I.tuple hq
    have p' : s.heap.IsTuple a its.toArray := p
    obtain ⟨f0, f1, f2, f3, f4, f5⟩ := hf it (by simp)
    have hl := rv.length
    have hai : a ≠ it := fun z => by
      subst z
      obtain ⟨o, ho, hcl, _⟩ := p'
      obtain ⟨o2, ho2, hcl2, _⟩ := hit
      rw [ho2] at ho
      cases ho
      rw [hcl2] at hcl
      exact absurd (Value.type.inj hcl) (by decide)
    have T := hit
    have hT : s.TypeIs (.ref e) "enumerate" := ⟨_, he, rfl⟩
    unfold pyNext
    refine wpAny_bind (wpAny_attempt (wpAny_callSpecial?_slot (name := Str.ofString "__next__") hT F.slot_enumerate_next
      (wpAny_call_entry F.slot_enumerate_next hT F.entry_enumerate_next ?_ (F.args_enumerate_next_1 _))))
    show wpAny _ _ (field (.ref e) 2 >>= _) _ _ _
    refine wpAny_bind (wpAny_field he rfl (x := .ref it) rfl ?_)
    refine wpAny_bind (wpAny_nextOf_tuple_end (I.ok.hd hc) hit p' (by simp; omega) fun h' x he' hx' => ?_)
    obtain ⟨o, ho, hc2⟩ := hx'
    refine wpAny_bind (wpAny_isInstance (T := "StopIteration") (b := true) ⟨o, ho, hc2⟩ isSubtype_stop ?_)
    exact wpAny_pure ⟨rfl, I.turned (t' := s.toks) (fun b o hb q => he' b o hb q) f0 f1 f3 f4 f5⟩
  self := fun A i s Q E st h => let ⟨⟨_, he⟩, _⟩ := st; wpAny_pyIter_enum he h
def iEnumT (K : PySem.W.Frag) (ta : TA) : TI := fun σ H R => ta σ H fun vs H1 => ∃ a xs, vs = [.ref a] ∧ SqT K H1 a xs ∧ R (ItT K a) H1
theorem pi_enumT {X : Cx} {e : Expr} {ta : TA} {p pos tpos : Pos} {elts : List Expr} {kk : Nat} (hg : Gl X "enumerate") (hm : X.mg "enumerate" = none) (ha : PA X [e] ta) (hs : starEach [e] X.env = [(false, eval e X.env)] := by rfl) :
    PI X (.Tuple elts kk tpos) (.Call (.Name "enumerate" p) [e] [] pos) (iEnumT X.K ta) := by
  refine ⟨fun pins s σ H R I h => ?_⟩
  refine PyProof.Rows.Call_ (ld_blt I hg hm PyProof.Rows.boot_enumerate (PyProof.Rows.callWith_type1 (thn (ha.run pos pins s σ H _ I h) fun us s1 ⟨vs, H1, I1, r1, q1⟩ => ?_) hs rfl))
  obtain ⟨a, xs, ex, hq, q⟩ := q1
  subst ex
  cases r1 with
  | cons r rr =>
    cases rr
    cases r
    obtain ⟨its, rv, p', hz⟩ := I1.tuple hq
    refine call_enumT (show s1.heap.IsTuple a its.toArray from p') fun h' he hit hsz hk => wpAny_pyIter_enum he ?_
    have I2 : Inv X pins σ H1 { s1 with heap := h' } := I1.kept (t' := s1.toks) hk
    refine ⟨s1.heap.objs.size + 1, [s1.heap.objs.size + 1, s1.heap.objs.size], _, _, H1, rfl, I2, turn_enumT a (s1.heap.objs.size + 1) s1.heap.objs.size, ⟨⟨.none, he⟩, hit, Nat.succ_ne_self _⟩, fun b hb => ?_, q⟩
    have e' : b = s1.heap.objs.size + 1 ∨ b = s1.heap.objs.size := by simpa using hb
    have hle : s1.heap.objs.size ≤ b := by
      rcases e' with z | z
      · rw [z]; exact Nat.le_add_right _ _
      · rw [z]; exact Nat.le_refl _
    exact I1.fpOk hle (I1.hok.fresh hle)
/-- numbered -/
def numD (i : Nat) : List D → List D
  | [] => []
  | d :: ds => .tup [.int (i : Nat), d] :: numD (i + 1) ds
theorem numD_get : ∀ {ds : List D} {n i : Nat} {d : D}, ds[i]? = some d → (numD n ds)[i]? = some (.tup [.int ((n + i : Nat) : Int), d])
  | d0 :: ds, n, 0, d, h => by simp at h; subst h; rfl
  | d0 :: ds, n, i + 1, d, h => by
    have := numD_get (n := n + 1) (show ds[i]? = some d by simpa using h)
    rw [show n + 1 + i = n + (i + 1) by omega] at this
    simpa [numD] using this
  | [], _, _, _, h => by simp at h
theorem numD_len : ∀ {ds : List D} {n : Nat}, (numD n ds).length = ds.length
  | [], _ => rfl
  | d :: ds, n => by simp [numD, numD_len]
section
variable {g : Gb} {k : Nat} {N : List Str} {vis loc : List Nat} {gl : List Str} {sc : Scope} {X : Cx} {ρ : Ro} {μ : Mu} {pos p tpos : Pos} {e : Expr} {es : List Expr} {kk : Nat}
theorem enum_new {H : Hp} {T : Addr} {i : Nat} {x : V} {d : D} {m : Mu} (M : Mk g m H) (hT : H T = none) (rd : Rp g.K m H d x) : Gs m m H (upd H T (.tup [.int (i : Nat), x])) ∧ Mk g m (upd H T (.tup [.int (i : Nat), x])) ∧ Rp g.K m (upd H T (.tup [.int (i : Nat), x])) (.tup [.int (i : Nat), d]) (.ref T) :=
  ⟨gs_new hT, mk_new M hT, T, _, rfl, .inl ⟨.inl upd_same, M.new hT⟩, .int (i : Nat), [x], rfl, rfl, x, [], rfl, rp_mono (gs_new hT) _ _ rd, rfl⟩
/-- for i, x in enumerate(t), t a tuple -/
theorem wi_enumT (S : Sit g k N vis loc gl sc X) {P : List D → Mu → Prop} {j : Nat} (hj : gl[j]? = some ("enumerate" : Str)) (hm : g.mg "enumerate" = none)
    (h : W g X e ρ μ fun d m => ∃ ds, d = .tup ds ∧ P (numD 0 ds) m) (hs : starEach [e] X.env = [(false, eval e X.env)] := by rfl) : WI g X (.Tuple es kk tpos) (.Call (.Name "enumerate" p) [e] [] pos) ρ μ P := fun σ H at_ => by
  refine EI.of (pi_enumT (S.hg j _ hj).1 (by rw [S.hmg]; exact hm) (pa_cons (E.pe X e) pa_nil hs) hs) ?_
  refine h.then at_ fun d m u H1 G a1 r1 ⟨ds, ed, p⟩ => ?_
  subst ed
  obtain ⟨a, xs, ev, hx, rr⟩ := r1
  have hl := rps_length rr
  refine ⟨a, xs, by rw [ev], S.hK ▸ hx.sq, numD 0 ds, m, G, a1.mu, ⟨fun i μ' H' hi G2 => ?_, fun μ' H' G2 => ?_, fun i x μ' H' H'' hi G2 M y => ?_⟩, p⟩
  · rw [numD_len] at hi
    obtain ⟨d, hd⟩ : ∃ d, xs[i]? = some d := ⟨_, List.getElem?_eq_getElem (by omega)⟩
    exact ⟨xs, d, S.hK ▸ (G2.tup hx).sq, hd⟩
  · exact ⟨xs, S.hK ▸ (G2.tup hx).sq, by rw [numD_len]; omega⟩
  · obtain ⟨T, x0, e1, hT, e2, hall⟩ := y
    subst e1 e2
    obtain ⟨d, hd, rd⟩ := rps_get' rr (hall xs (S.hK ▸ (G2.tup hx).sq))
    obtain ⟨q1, q2, q3⟩ := enum_new (i := i) M hT (rp_mono G2 _ _ rd)
    refine ⟨_, numD_get hd, q1, q2, ?_⟩
    rw [Nat.zero_add]; exact q3
/-- .. l a list that stands still -/
theorem wi_enumL (S : Sit g k N vis loc gl sc X) {P : List D → Mu → Prop} {j : Nat} (hj : gl[j]? = some ("enumerate" : Str)) (hm : g.mg "enumerate" = none)
    (h : W g X e ρ μ fun d m => ∃ ds, d = .lst ds ∧ P (numD 0 ds) m) (hs : starEach [e] X.env = [(false, eval e X.env)] := by rfl) : WI g X (.Tuple es kk tpos) (.Call (.Name "enumerate" p) [e] [] pos) ρ μ P := fun σ H at_ => by
  refine EI.of (pi_enum (S.hg j _ hj).1 (by rw [S.hmg]; exact hm) (pa_cons (E.pe X e) pa_nil hs) hs) ?_
  refine h.then at_ fun d m u H1 G a1 r1 ⟨ds, ed, p⟩ => ?_
  subst ed
  obtain ⟨a, xs, ev, hx, hn, rr⟩ := r1
  have hl := rps_length rr
  refine ⟨a, xs, by rw [ev], SqL.of hx, numD 0 ds, m, G, a1.mu, ⟨fun i μ' H' hi G2 => ?_, fun μ' H' G2 => ?_, fun i x μ' H' H'' hi G2 M y => ?_⟩, p⟩
  · rw [numD_len] at hi
    obtain ⟨d, hd⟩ : ∃ d, xs[i]? = some d := ⟨_, List.getElem?_eq_getElem (by omega)⟩
    exact ⟨xs, d, SqL.of (G2 a _ hx hn).1, hd⟩
  · exact ⟨xs, SqL.of (G2 a _ hx hn).1, by rw [numD_len]; omega⟩
  · obtain ⟨T, x0, e1, hT, e2, hall⟩ := y
    subst e1 e2
    obtain ⟨d, hd, rd⟩ := rps_get' rr (hall xs (SqL.of (G2 a _ hx hn).1))
    obtain ⟨q1, q2, q3⟩ := enum_new (i := i) M hT (rp_mono G2 _ _ rd)
    refine ⟨_, numD_get hd, q1, q2, ?_⟩
    rw [Nat.zero_add]; exact q3
end
end Mb
set_option maxHeartbeats 4000000
namespace Mb
open PySem PySem.Spec L2
section
variable {g : Gb} {k : Nat} {N : List Str} {vis loc : List Nat} {gl : List Str} {sc : Scope} {X : Cx} {ρ : Ro} {μ : Mu} {R : AE} {pos : Pos} {Post : AQ} {elt tg iter cond : Expr} {scope : Scope} {own : List (Str × Nat)} {vis' loc' : List Nat} {gl' : List Str}
/-! ### new things that are to be changed, as values -/
theorem w_newL {es : List Expr} (h : WA g X es ρ μ fun ds m => ds.length ≤ 1000 ∧ ∀ p, m p = none → Post (.ptr p) (up m p (.lst ds))) : W g X (.List es pos) ρ μ Post := fun σ H at_ =>
  E.of (pe_lst (EA.pa X es)) (h.then at_ fun ds m us H1 G a1 r1 ⟨hl, q⟩ => ⟨by rw [← rps_length r1]; exact Nat.le_trans hl (by decide), fun p hp =>
    let G2 : Gs m (up m p (.lst ds)) H1 (upd H1 p (.lst us)) := gs_alloc hp
    ⟨.ptr p, up m p (.lst ds), G.trans G2, mk_alloc a1.mu hp ⟨us, upd_same, rps_mono G2 _ _ r1⟩, rfl, q p (a1.mu.new hp)⟩⟩)
theorem w_newD (q : ∀ p, μ p = none → Post (.ptr p) (up μ p (.dic [] []))) : W g X (.Dict [] [] pos) ρ μ Post := fun σ H at_ =>
  E.of pe_dnewK fun p hp =>
    let G2 : Gs μ (up μ p (.dic [] [])) H (upd H p (.dK [])) := gs_alloc hp
    ⟨.ptr p, _, G2, mk_alloc at_.mu hp ⟨[], upd_same, rfl, rfl⟩, rfl, q p (at_.mu.new hp)⟩
theorem lc_readM {ifs : List Expr} (S : Sit g k N vis loc gl sc X) (hs' : sitB scope N vis' loc' gl' = true) {vs : List Nat} (h : WI g X tg iter ρ μ (LcAsk g k N vis' loc' gl' scope vs tg elt ifs ρ Post)) {σ : L2.St} {H : Hp} (at_ : At g ρ μ σ H) {Q : VK}
    (kk : ∀ acc m' H' p, Gs μ (up m' p (.lst acc)) H H' → Mk g (up m' p (.lst acc)) H' → m' p = none → Post (.lst acc) m' → Q (.ref p) H') : tLc (EI X tg iter) (gB X scope tg) (tts X scope ifs) (eB X scope elt) vs σ H Q := by
  intro pins s In
  refine thn (h σ H at_ pins s In) fun v s1 h1 => thn h1 fun itv s2 ⟨it, fp, tn, J, H', e1, I2, T, t0, f0, ds, m, G, M, w, hlen, I, i0, turn, done⟩ => ⟨it, fp, tn, J, H', e1, I2, T, t0, f0, ?_⟩
  intro p hp
  have mp : m p = none := M.new hp
  refine ⟨fun i n H2 => n = ds.length - i ∧ i ≤ ds.length ∧ ∃ acc m', m' p = none ∧ Gs m (up m' p (.lst acc)) H' H2 ∧ Mk g (up m' p (.lst acc)) H2 ∧ I i acc m' ∧ acc.length ≤ i,
    ⟨ds.length, rfl, Nat.zero_le _, [], m, mp, gs_alloc hp, mk_alloc M hp ⟨[], upd_same, rfl⟩, i0, Nat.le_refl _⟩, ?_⟩
  rintro i n H2 ⟨rfl, hi, acc, m', hm, G2, M2, ii, hacc⟩
  by_cases hlt : i < ds.length
  · refine .inr ⟨w.goes i _ H2 hlt G2, fun H3 => ∃ acc m', m' p = none ∧ Gs m (up m' p (.lst acc)) H' H3 ∧ Mk g (up m' p (.lst acc)) H3 ∧ I (i + 1) acc m' ∧ acc.length ≤ i + 1,
      fun H3 ⟨acc3, m3, q1, q2, q3, q4, q5⟩ => ⟨ds.length - (i + 1), by omega, rfl, hlt, acc3, m3, q1, q2, q3, q4, q5⟩, fun x H3 y => ?_⟩
    obtain ⟨d, hd, G3, M3, rd⟩ := w.yields i x _ H2 H3 hlt G2 M2 y
    have G4 := G2.trans G3
    have a3 : At g (wipeR ρ vs) (up m' p (.lst acc)) (L2.wipe σ vs) H3 := (at_.go (G.trans G4) M3).wipe vs
    obtain ⟨ρ2, b0, t1, t2, t3⟩ := turn i d acc m' hd ii hacc p hm
    intro s5 H5 C5 cl5 fp5
    refine (t1 _ (S.blk hs' s5 H5 C5 cl5 fp5) _ H3 x a3 rd).mono fun σ4 H4 ⟨e4, ch, ρ4, a4, q⟩ => ?_
    subst e4 q
    refine ⟨wipe_chg ch, ?_⟩
    have fin : ∀ H6, Gs (up m' p (.lst acc)) (up m' p (.lst acc)) H4 H6 → Mk g (up m' p (.lst acc)) H6 → (if b0 = true then eB X scope elt σ4 H6 fun y H7 => ∃ acc, H7 p = some (.lst acc) ∧ acc.length < sizeLine ∧ ∃ acc_1 m', m' p = none ∧ Gs m (up m' p (.lst acc_1)) H' (upd H7 p (.lst (acc ++ [y]))) ∧ Mk g (up m' p (.lst acc_1)) (upd H7 p (.lst (acc ++ [y]))) ∧ I (i + 1) acc_1 m' ∧ acc_1.length ≤ i + 1
        else ∃ acc m', m' p = none ∧ Gs m (up m' p (.lst acc)) H' H6 ∧ Mk g (up m' p (.lst acc)) H6 ∧ I (i + 1) acc m' ∧ acc.length ≤ i + 1) := fun H6 G6 M6 => by
      cases b0 with
      | false => exact ⟨acc, m', hm, G4.trans G6, M6, t3, by omega⟩
      | true =>
        intro s8 H8 C8 cl8 fp8
        have t3' := t3
        refine (t3' _ (S.blk hs' s8 H8 C8 cl8 fp8)).then (a4.go G6 M6) fun e n3 y H7 G7 a7 r7 ⟨m3, e3, h3, i3⟩ => ?_
        subst e3
        obtain ⟨xs, hx, rx⟩ := a7.mu p _ up_same
        have lx := rps_length rx
        refine ⟨xs, hx, Nat.lt_of_le_of_lt (by omega : xs.length ≤ 1000000) (by decide), acc ++ [e], m3, h3, ?_, ?_, i3, by simp; omega⟩
        · have q := gs_write (μ := up m3 p (.lst acc)) (H := H7) (o := .lst (xs ++ [y])) (c' := .lst (acc ++ [e])) up_same
          rw [up_up] at q
          exact (G4.trans G6).trans (G7.trans q)
        · have q := gs_write (μ := up m3 p (.lst acc)) (H := H7) (o := .lst (xs ++ [y])) (c' := .lst (acc ++ [e])) up_same
          have z := mk_write (o := .lst (xs ++ [y])) (c' := .lst (acc ++ [e])) a7.mu up_same ⟨xs ++ [y], upd_same, rps_append (rps_mono q _ _ rx) (rps_one (rp_mono q _ _ r7))⟩
          rw [up_up] at z
          exact z
    match ifs, t2 with
    | [], t2 =>
      obtain ⟨e7, _⟩ := t2 _ (S.blk hs' s5 H5 C5 cl5 fp5)
      subst e7
      exact fin H4 (.refl _ _) a4.mu
    | [c], t2 =>
      intro s8 H8 C8 cl8 fp8
      refine WT.then (t2 _ (S.blk hs' s8 H8 C8 cl8 fp8)) a4 fun b n2 H6 G6 a6 ⟨e7, e8⟩ => ?_
      subst e7 e8
      exact fin H6 G6 a6.mu
    | _ :: _ :: _, t2 => exact False.elim (t2 _ (S.blk hs' s5 H5 C5 cl5 fp5))
  · have e : i = ds.length := by omega
    subst e
    refine .inl ⟨w.stops _ H2 G2, ?_⟩
    exact kk acc m' H2 p (G.trans G2) M2 hm (done acc m' ii hacc)
/-- [elt for tg in iter], a list that is to be changed -/
theorem w_lcMm (S : Sit g k N vis loc gl sc X) (own : List (Str × Nat)) (hb : blkC N sc scope own = true) (hs' : sitB scope N vis' loc' gl' = true) (h : WI g X tg iter ρ μ (LcM g k N vis' loc' gl' scope (own.map (·.2)) tg elt ρ fun d m => ∀ acc, d = .lst acc → ∀ p, m p = none → Post (.ptr p) (up m p (.lst acc))))
    (hs : ∀ x, foldedSetIterable iter X.env x = pure x := by intro _; rfl) : W g X (.ListComp elt [⟨tg, iter, [], 0⟩] scope pos) ρ μ Post := fun σ H at_ =>
  E.of (pe_lc S.calm (by rw [S.hN]; exact S.nd) (EI.pi X tg iter) (S.blkOk hb) (g := gB X scope tg) (fun s H C cl fp => ⟨fun pins s1 σ H1 v u Q I r h => h s H C cl fp pins s1 u I r⟩) (tt := tts X scope []) (pts_all X scope (by decide))
    (te := eB X scope elt) (fun s H C cl fp => ⟨fun pins s1 σ H1 Q I h => h s H C cl fp pins s1 I⟩) hs) (lc_readM S hs' (h.mono fun _ _ q => lcp_ask (lcm_lcp q)) at_ fun acc m' H' p G M hm q => ⟨.ptr p, _, G, M, rfl, q acc rfl p hm⟩)
end
end Mb
set_option maxHeartbeats 4000000
namespace Mb
open PySem PySem.Spec L2
section
variable {g : Gb} {k : Nat} {N : List Str} {vis loc : List Nat} {gl : List Str} {sc : Scope} {X : Cx} {ρ : Ro} {μ : Mu} {pos p : Pos} {Post : AQ} {e : Expr}
def keyD : Key → D
  | .inl i => .int i
  | .inr s => .str s
theorem keys_rps {K : PySem.W.Frag} {m : Mu} {H : Hp} : ∀ (ks : List Key), Rps K m H (ks.map keyD) (ks.map kV)
  | [] => rfl
  | .inl i :: r => ⟨.int i, _, rfl, rfl, keys_rps r⟩
  | .inr s :: r => ⟨.str s, _, rfl, rfl, keys_rps r⟩
/-- list(a dict) -/
theorem w_listKeys (S : Sit g k N vis loc gl sc X) {i : Nat} (hx : gl[i]? = some ("list" : Str)) (hm : g.mg "list" = none) (h : W g X e ρ μ fun d m => ∃ ks ds, d = .dic ks ds ∧ Post (.lst (ks.map keyD)) m)
    (he : starEach [e] X.env = [(false, eval e X.env)] := by rfl) : W g X (.Call (.Name "list" p) [e] [] pos) ρ μ Post :=
  w_callTy S (call_listD S.calm) i hx hm (by decide +kernel) (wa_cons (h.mono fun d m ⟨ks, ds, ed, q⟩ => wa_nil (fun H us Q mm r kk => by
    subst ed
    obtain ⟨u, eu, a1, xs, ea, t, _, hl, rr⟩ := rps1 r
    subst eu ea
    refine ⟨a1, ks.zip xs, rfl, .inl t, fun l hlp => kk _ _ ⟨.lst (ks.map keyD), m, gs_new hlp, mk_new mm hlp, ⟨l, _, rfl, upd_same, mm.new hlp, ?_⟩, q⟩⟩
    have : (ks.zip xs).map (fun kv => kV kv.1) = ks.map kV := by
      rw [show (fun kv : Key × V => kV kv.1) = kV ∘ Prod.fst from rfl, ← List.map_map, List.map_fst_zip (by omega)]
    rw [this]
    exact keys_rps ks)) he) he rfl
/-- sorted(a list of texts) -/
theorem w_sortedS (S : Sit g k N vis loc gl sc X) {i : Nat} (hx : gl[i]? = some ("sorted" : Str)) (hm : g.mg "sorted" = none) (h : W g X e ρ μ fun d m => ∃ xs : List Str, d = .lst (xs.map .str) ∧ xs.length < 64 ∧ ∀ ys : List Str, ys.Perm xs → Post (.lst (ys.map .str)) m)
    (he : starEach [e] X.env = [(false, eval e X.env)] := by rfl) : W g X (.Call (.Name "sorted" p) [e] [] pos) ρ μ Post :=
  w_callB S cr_sortedS i hx hm (by decide +kernel) (wa_cons (h.mono fun d m ⟨xs, ed, hl, q⟩ => wa_nil (fun H us Q mm r kk => by
    subst ed
    obtain ⟨u, eu, a1, vs, ea, t, _, rr⟩ := rps1 r
    subst eu ea
    have ev := rps_strs rr
    subst ev
    exact ⟨a1, xs, rfl, SqL.of t, hl, fun ys l hp _ hlp => kk _ _ ⟨.lst (ys.map .str), m, gs_new hlp, mk_new mm hlp, ⟨l, _, rfl, upd_same, mm.new hlp, rps_of_strs⟩, q ys hp⟩⟩)) he) he rfl
end
end Mb
set_option maxHeartbeats 4000000
namespace Mb
open PySem PySem.Spec L2 PyProof.Rows
theorem tuple_mul1 (l : Addr) (items : Array Value) (n : Nat) (dd : Option Addr) (sl : Array (Option Value)) (u : Tok) :
    Meets (Builtin.«tuple.__mul__» ⟨[.ref l, .int 1 u], []⟩) (fun _ R s => s.heap.get? l = some { cls := .type "tuple", dict := dd, data := .seq items n, slots := sl } ∧
      R (.ok (.ret (Value.ref l))) s) :=
  .of_wp fun prog w A R s h => by
    obtain ⟨hp, g, d, tk, os⟩ := s
    obtain ⟨hl, h⟩ := h
    have f1 := AutoSeq1.idx_int
    have c1 : (items.isEmpty || (1 : Int) == 1) = true := by simp
    wp_walk using wpAny_loadPart' hl
    exact ⟨_, rfl, h⟩
theorem tuple_mul0 (l : Addr) (items : Array Value) (n : Nat) (dd : Option Addr) (sl : Array (Option Value)) (u : Tok) (hne : items.isEmpty = false) :
    Meets (Builtin.«tuple.__mul__» ⟨[.ref l, .int 0 u], []⟩) (fun _ R s => s.heap.get? l = some { cls := .type "tuple", dict := dd, data := .seq items n, slots := sl } ∧
      R (.ok (.ret (Value.ref s.heap.objs.size))) { s with heap := s.heap.push { cls := Value.type "tuple", data := Data.seq #[] }, toks := s.toks }) :=
  .of_wp fun prog w A R s h => by
    obtain ⟨hp, g, d, tk, os⟩ := s
    obtain ⟨hl, h⟩ := h
    have f1 := AutoSeq1.idx_int
    wp_walk using wpAny_loadPart' hl
    exact ⟨_, rfl, h⟩
def rRepA (K : PySem.W.Frag) : R2 := fun x y H Q => ∃ l k xs, x = .ref l ∧ y = .int k ∧ SqT K H l xs ∧ xs ≠ [] ∧ 0 ≤ k ∧ k ≤ 1000 ∧ xs.length ≤ 1000 ∧ (k = 1 → Q (.ref l) H) ∧ (k ≠ 1 → ∀ p, H p = none → Q (.ref p) (upd H p (.tup (List.replicate k.toNat xs).flatten)))
theorem op_repA {X : Cx} : OpR X (binaryOp .Mult) (rRepA X.K) := by
  intro pins s σ H x y v u Q I rx ry h
  obtain ⟨l, k, xs, rfl, rfl, hT, hne, h1, h2, hz, q1, q2⟩ := h
  by_cases hk : 2 ≤ k
  · exact op_repT pins s σ H _ _ v u Q I rx ry ⟨l, k, xs, rfl, rfl, hT, hne, hk, h2, hz, q2 (by omega)⟩
  cases rx
  obtain ⟨t, rfl⟩ := ry
  obtain ⟨its, r, ⟨⟨cls, dd, data, sl⟩, ho, hc, n, hd⟩, hs⟩ := I.tuple hT
  simp only at hc hd
  subst hc hd
  have hle : its.length = xs.length := r.length.symm
  have hn : its ≠ [] := fun e => hne (by
    rw [e] at hle
    exact List.eq_nil_of_length_eq_zero hle.symm)
  have hi : its.toArray.isEmpty = false := by
    cases its with
    | nil => exact absurd rfl hn
    | cons a b => rfl
  have hk2 : k = 0 ∨ k = 1 := by omega
  rcases hk2 with e | e
  · subst e
    refine wpAny_binaryOp_repeat_ref (T := "tuple") (U := "int") (by decide) ⟨_, ho, rfl⟩ (fun s' => typeIs_int s' 0 t) noFill_tuple_mul F.fills_int_mul F.slot_int_rmul repeat_tuple F.slot_int_index.lookup
      (call_meets F.slot_int_rmul (typeIs_int s 0 t) F.entry_int_rmul (F.args_int_rmul_2 _ _) (int_rmul_tuple 0 t l its.toArray n dd sl)
        ⟨ho, rfl, ⟨_, ho, rfl⟩, call_meets F.slot_tuple_mul ⟨_, ho, rfl⟩ F.entry_tuple_mul (F.args_tuple_mul_2 _ _) (tuple_mul0 l its.toArray n dd sl t hi) ⟨ho, ?_⟩⟩)
    refine ⟨.ref s.heap.objs.size, _, I.laid (t' := s.toks) (o := .tup []) (fun b ob q => Heap.get?_push_of_some _ q) (Nat.le_refl _) ?_, rfl, q2 (by decide) _ (I.hok.fresh (Nat.le_refl _))⟩
    exact ⟨Nat.zero_le _, [], .nil, IsTup.new _ _⟩
  · subst e
    refine wpAny_binaryOp_repeat_ref (T := "tuple") (U := "int") (by decide) ⟨_, ho, rfl⟩ (fun s' => typeIs_int s' 1 t) noFill_tuple_mul F.fills_int_mul F.slot_int_rmul repeat_tuple F.slot_int_index.lookup
      (call_meets F.slot_int_rmul (typeIs_int s 1 t) F.entry_int_rmul (F.args_int_rmul_2 _ _) (int_rmul_tuple 1 t l its.toArray n dd sl)
        ⟨ho, rfl, ⟨_, ho, rfl⟩, call_meets F.slot_tuple_mul ⟨_, ho, rfl⟩ F.entry_tuple_mul (F.args_tuple_mul_2 _ _) (tuple_mul1 l its.toArray n dd sl t) ⟨ho, ?_⟩⟩)
    exact ⟨.ref l, H, I, rfl, q1 rfl⟩
theorem rps_rep {K : PySem.W.Frag} {m : Mu} {H : Hp} {ds : List D} {vs : List V} (r : Rps K m H ds vs) : ∀ n : Nat, Rps K m H (List.replicate n ds).flatten (List.replicate n vs).flatten
  | 0 => rfl
  | n + 1 => by rw [List.replicate_succ, List.replicate_succ, List.flatten_cons, List.flatten_cons]; exact rps_append r (rps_rep r n)
section
variable {g : Gb} {k : Nat} {N : List Str} {vis loc : List Nat} {gl : List Str} {sc : Scope} {X : Cx} {ρ : Ro} {μ : Mu} {pos : Pos} {Post : AQ} {a b : Expr}
/-- t * n -/
theorem w_mulT (S : Sit g k N vis loc gl sc X) (h : W g X a ρ μ fun x m1 => W g X b ρ m1 fun y m2 => ∃ ds n, x = .tup ds ∧ y = .int n ∧ ds ≠ [] ∧ ds.length ≤ 1000 ∧ 0 ≤ n ∧ n ≤ 1000 ∧ Post (.tup (List.replicate n.toNat ds).flatten) m2) : W g X (.BinOp a .Mult b pos) ρ μ Post :=
  w_bin op_repA (h.mono fun x m1 hb => hb.mono fun y m2 ⟨ds, n, e1, e2, hne, hl, h0, h1, q⟩ => by
    subst e1 e2
    intro H u v Q m ru rv kk
    have ru0 := ru
    obtain ⟨a1, xs, eu, tu, r1⟩ := ru
    have l1 := rps_length r1
    refine ⟨a1, n, xs, eu, rv, S.hK ▸ tu.sq, fun z => hne (List.length_eq_zero_iff.mp (by rw [l1, z]; rfl)), h0, h1, by omega, fun e => ?_, fun _ p hp => ?_⟩
    · subst e
      rw [← eu]
      have e3 : (List.replicate (Int.toNat 1) ds).flatten = ds := by show (List.replicate 1 ds).flatten = ds; simp
      rw [e3] at q
      exact kk _ _ ⟨_, m2, .refl _ _, m, ru0, q⟩
    · exact kk _ _ ⟨.tup (List.replicate n.toNat ds).flatten, m2, gs_new hp, mk_new m hp, ⟨p, _, rfl, .inl ⟨.inl upd_same, m.new hp⟩, rps_mono (gs_new hp) _ _ (rps_rep r1 n.toNat)⟩, q⟩)
end
end Mb
set_option maxHeartbeats 4000000
namespace Mb
open PySem PySem.Spec L2
section
variable {g : Gb} {k : Nat} {N : List Str} {vis loc : List Nat} {gl : List Str} {sc : Scope} {X : Cx} {ρ : Ro} {μ : Mu} {R : AE} {pos : Pos} {Post : AQ} {elt tg iter cond : Expr} {scope : Scope} {vis' loc' : List Nat} {gl' : List Str}
/-- y = [elt for tg in iter] on one line, a list that is to be changed -/
theorem ws_setLcMm (S : Sit g k N vis loc gl sc X) {i : Nat} {y : Str} {py spos : Pos} (hN : N[i]? = some y) (hl : loc.elem i = true) (hyl : sc.names.lookup y = some .local) (hln : (py.line == pos.line) = true) (hown : (scope.names.any fun (n, k) => n == y && (k == .local || k == .cell)) = false) (own : List (Str × Nat)) (hb : blkC N sc scope own = true) (hs' : sitB scope N vis' loc' gl' = true)
    (h : WI g X tg iter ρ μ (LcM g k N vis' loc' gl' scope (own.map (·.2)) tg elt ρ fun d m => ∀ acc, d = .lst acc → ∀ p, m p = none → R.nx (ρ.set i (some (.ptr p))) (up m p (.lst acc))))
    (hs : ∀ x, foldedSetIterable iter X.env x = pure x := by intro _; rfl) : WS g X (.Assign [.Name y py] (.ListComp elt [⟨tg, iter, [], 0⟩] scope pos) spos) ρ μ R := fun σ H at_ =>
  ES.of (ps_setLc (i := i) S.calm (by rw [S.hN]; exact S.nd) (by rw [S.hN]; exact hN) (S.hsc.same hyl (by decide)) (sw_true S.kind (S.hsc.same hyl (by decide)) hln hown) (EI.pi X tg iter) (S.blkOk hb) (g := gB X scope tg) (fun s H C cl fp => ⟨fun pins s1 σ H1 v u Q I r h => h s H C cl fp pins s1 u I r⟩) (tt := tts X scope []) (pts_all X scope (by decide))
    (te := eB X scope elt) (fun s H C cl fp => ⟨fun pins s1 σ H1 Q I h => h s H C cl fp pins s1 I⟩) hs)
    (lc_readM S hs' (h.mono fun _ _ q => lcp_ask (lcm_lcp q)) at_ fun acc m' H' p G M hm q => show RQ g μ H R.nx _ H' from ⟨_, _, G, (at_.go G M).set i (d := .ptr p) (v := .ref p) rfl, q acc rfl p hm⟩)
end
end Mb
set_option maxHeartbeats 4000000
namespace Mb
open PySem PySem.Spec L2
theorem countP_eqU {x : V} : ∀ {xs : List V} {us : List Value}, Vals xs us → xs.all flatV = true → us.countP (eqU x) = xs.countP fun y => eqV y x
  | _, _, .nil, _ => rfl
  | y :: xs, u :: us, .cons r t, f => by
    rw [List.all_cons, Bool.and_eq_true] at f
    rw [List.countP_cons, List.countP_cons, eqU_of r f.1, countP_eqU t f.2]
def rCnt (sq : Hp → Addr → List V → Prop) : V → List V → Hp → VK → Prop := fun x xs H Q => ∃ (p : Addr) (ys : List V) (y : V), x = .ref p ∧ xs = [y] ∧ sq H p ys ∧ flatV y = true ∧ ys.all flatV = true ∧ Q (.int (ys.countP (fun z => eqV z y) : Nat)) H
theorem mt_count {X : Cx} : MtR X "list.count" (rCnt (SqL X.K)) := by
  intro pins s σ H x xs v us Q I rx rxs h
  obtain ⟨p, ys, y, rfl, rfl, hs, fy, fys, q⟩ := h
  cases rx
  obtain ⟨u, rfl, ru⟩ := rxs.one
  obtain ⟨its, rv, ⟨⟨cls, dd, data, sl⟩, n, ho, hc, hdn, hd⟩, hlen⟩ := I.list hs
  simp only at hc hd
  subst hc hd
  refine call_meets PySem.F.slot_list_count ⟨_, ho, rfl⟩ PySem.F.entry_list_count (PySem.F.args_list_count_2 _ _)
    (SeqAt.list_countAt p its.toArray n dd sl u (eqU y)) ⟨ho, fun w hw => mem_eqAt ru fy rv fys w (by simpa using hw), ?_⟩
  refine ⟨.int (ys.countP (fun z => eqV z y) : Nat), H, I.tok _, ⟨s.toks, ?_⟩, q⟩
  show Value.int ((its.toArray.toList.countP (eqU y) : Nat) : Int) s.toks = Value.int ((ys.countP (fun z => eqV z y) : Nat) : Int) s.toks
  rw [show its.toArray.toList = its by simp, countP_eqU rv fys]
theorem mt_countT {X : Cx} : MtR X "tuple.count" (rCnt (SqT X.K)) := by
  intro pins s σ H x xs v us Q I rx rxs h
  obtain ⟨p, ys, y, rfl, rfl, hs, fy, fys, q⟩ := h
  cases rx
  obtain ⟨u, rfl, ru⟩ := rxs.one
  obtain ⟨its, rv, ⟨⟨cls, dd, data, sl⟩, ho, hc, n, hd⟩, hlen⟩ := I.tuple hs
  simp only at hc hd
  subst hc hd
  refine call_meets PySem.F.slot_tuple_count ⟨_, ho, rfl⟩ PySem.F.entry_tuple_count (PySem.F.args_tuple_count_2 _ _)
    (SeqAt.tuple_countAt p its.toArray n dd sl u (eqU y)) ⟨ho, fun w hw => mem_eqAt ru fy rv fys w (by simpa using hw), ?_⟩
  refine ⟨.int (ys.countP (fun z => eqV z y) : Nat), H, I.tok _, ⟨s.toks, ?_⟩, q⟩
  show Value.int ((its.toArray.toList.countP (eqU y) : Nat) : Int) s.toks = Value.int ((ys.countP (fun z => eqV z y) : Nat) : Int) s.toks
  rw [show its.toArray.toList = its by simp, countP_eqU rv fys]
section
variable {g : Gb} {k : Nat} {N : List Str} {vis loc : List Nat} {gl : List Str} {sc : Scope} {X : Cx} {ρ : Ro} {μ : Mu} {p apos : Pos} {Post : AQ} {e o : Expr}
def cntD (x : D) (ds : List D) : Nat := (ds.map scD).countP fun z => eqV z (scD x)
/-- t.count(x), t a tuple of flat things -/
theorem w_tcount (S : Sit g k N vis loc gl sc X) {name : Str} (hn : name = "count") (h : W g X o ρ μ fun x m1 => ∃ ds, x = .tupx ds ∧ ds.all flD = true ∧ W g X e ρ m1 fun y m2 => flD y = true ∧ Post (.int (cntD y ds : Nat)) m2)
    (hbase : attributeBase o name X.env (eval o X.env) = eval o X.env := by rfl)
    (hfew : ((backTo p (starEach [e] X.env)).all (fun x => !x.1) && (backToKw p (keywordEach [] X.env)).all (fun x => x.1.isSome)
      && decide ([e].length + ([] : List Keyword).length + (if ([] : List Keyword).isEmpty then 0 else 1) < 30)) = true := by rfl)
    (hline : (apos.endLine == p.line) = true := by rfl) (hs : starEach [e] X.env = [(false, eval e X.env)] := by rfl) : W g X (.Call (.Attribute o name apos) [e] [] p) ρ μ Post := fun σ H at_ => by
  subst hn
  refine E.of (pe_bmX PySem.F.slot_tuple_count PySem.F.type_tuple_count mt_countT (E.pe X o) (pa_cons (E.pe X e) pa_nil hs) hbase hfew hline hs rfl) ?_
  refine h.then at_ fun x m1 u H1 G1 a1 r1 ⟨ds, ex, fd, q⟩ => ?_
  subst ex
  have r1' := r1
  obtain ⟨q0, xs, ob, eu, hq, hd, _, rr⟩ := r1
  refine ⟨⟨q0, ob, xs, eu, hq, hd⟩, q.then a1 fun y m2 v H2 G2 a2 r2 ⟨fy, post⟩ => ?_⟩
  obtain ⟨q1, xs2, ob2, eu2, hq2, hd2, _, rr2⟩ := rp_mono G2 _ _ r1'
  obtain ⟨e1, f1⟩ := fl_rp fy r2
  obtain ⟨e2, f2⟩ := fls_rp fd rr2
  subst e1 e2
  exact ⟨q1, _, scD y, eu2, rfl, .inl (.inr ⟨ob2, hq2⟩), f1, f2, .int (cntD y ds : Nat), m2, G1.trans G2, a2.mu, rfl, post⟩
/-- l.count(x), l a list of flat things -/
theorem w_lcount (S : Sit g k N vis loc gl sc X) {name : Str} (hn : name = "count") (h : W g X o ρ μ fun x m1 => ∃ ds, x = .lst ds ∧ ds.all flD = true ∧ W g X e ρ m1 fun y m2 => flD y = true ∧ Post (.int (cntD y ds : Nat)) m2)
    (hbase : attributeBase o name X.env (eval o X.env) = eval o X.env := by rfl)
    (hfew : ((backTo p (starEach [e] X.env)).all (fun x => !x.1) && (backToKw p (keywordEach [] X.env)).all (fun x => x.1.isSome)
      && decide ([e].length + ([] : List Keyword).length + (if ([] : List Keyword).isEmpty then 0 else 1) < 30)) = true := by rfl)
    (hline : (apos.endLine == p.line) = true := by rfl) (hs : starEach [e] X.env = [(false, eval e X.env)] := by rfl) : W g X (.Call (.Attribute o name apos) [e] [] p) ρ μ Post := fun σ H at_ => by
  subst hn
  refine E.of (pe_bm PySem.F.plainAttrs_list PySem.F.slot_list_count PySem.F.type_list_count mt_count (E.pe X o) (pa_cons (E.pe X e) pa_nil hs) hbase hfew hline hs rfl) ?_
  refine h.then at_ fun x m1 u H1 G1 a1 r1 ⟨ds, ex, fd, q⟩ => ?_
  subst ex
  have r1' := r1
  obtain ⟨q0, xs, eu, hq, _, rr⟩ := r1
  subst eu
  refine ⟨.inl ⟨rfl, xs, SqL.of hq⟩, q.then a1 fun y m2 v H2 G2 a2 r2 ⟨fy, post⟩ => ?_⟩
  obtain ⟨q1, xs2, eu2, hq2, _, rr2⟩ := rp_mono G2 _ _ r1'
  obtain ⟨e1, f1⟩ := fl_rp fy r2
  obtain ⟨e2, f2⟩ := fls_rp fd rr2
  subst e1 e2
  exact ⟨q1, _, scD y, eu2, rfl, SqL.of hq2, f1, f2, .int (cntD y ds : Nat), m2, G1.trans G2, a2.mu, rfl, post⟩
end
end Mb
set_option maxHeartbeats 4000000
namespace Mb
open PySem PySem.Spec L2
/-! ### dicts with nested keys -/
mutual
theorem nk_is {X : Cx} {pins : List (Addr × Obj)} {σ : L2.St} {H : Hp} {s : Shared} {μ : Mu} (I : Inv X pins σ H s) : ∀ {d : D} {v : V} {u : Value}, nkOk d = true → Rp X.K μ H d v → RelV v u → NestedIs s.heap (nk d) u
  | .int i, v, u, _, r, ru => by
    cases (show v = .int i from r); obtain ⟨t, rfl⟩ := ru; exact .int i t
  | .str x, v, u, _, r, ru => by
    cases (show v = .str x from r); obtain ⟨t, rfl⟩ := ru; exact .text x t
  | .tup ds, v, u, h, r, ru => by
    obtain ⟨a, xs, e, t, rr⟩ := r
    subst e
    cases (show u = .ref a from ru)
    obtain ⟨its, rv, ⟨o, ho, hc, n, hd⟩, _⟩ := I.tuple t.sq
    simp only [nkOk] at h
    simp only [nk]
    exact .tup ho hc hd (nks_is I h rr rv)
  | .non, _, _, h, _, _ => by simp [nkOk] at h
  | .bl _, _, _, h, _, _ => by simp [nkOk] at h
  | .lst _, _, _, h, _, _ => by simp [nkOk] at h
  | .frl _, _, _, h, _, _ => by simp [nkOk] at h
  | .tupx _, _, _, h, _, _ => by simp [nkOk] at h
  | .dic _ _, _, _, h, _, _ => by simp [nkOk] at h
  | .obj _ _ _, _, _, h, _, _ => by simp [nkOk] at h
  | .ptr _, _, _, h, _, _ => by simp [nkOk] at h
theorem nks_is {X : Cx} {pins : List (Addr × Obj)} {σ : L2.St} {H : Hp} {s : Shared} {μ : Mu} (I : Inv X pins σ H s) : ∀ {ds : List D} {vs : List V} {us : List Value}, nksOk ds = true → Rps X.K μ H ds vs → Vals vs us → NestedAll s.heap (nks ds) us
  | [], vs, us, _, r, rv => by
    cases (show vs = [] from r); cases rv; exact .nil
  | d :: ds, vs, us, h, r, rv => by
    obtain ⟨v, w, e, r1, r2⟩ := r
    subst e
    simp only [nksOk, Bool.and_eq_true] at h
    cases rv with
    | cons q1 q2 =>
      simp only [nks]
      exact .cons (nk_is I h.1 r1 q1) (nks_is I h.2 r2 q2)
end
/-- what a dict with nested keys holds, over H alone -/
structure NsAt (g : Gb) (μ : Mu) (H : Hp) (a : Addr) (ks : List D) (kas : List Addr) : Prop where
  ob : H a = some (nsO g a (ks.map nk) kas)
  l : ks.length ≤ 100000
  ok : ∀ d, d ∈ ks → nkOk d = true ∧ (nk d).depth ≤ 8
  rp : Rps g.K μ H ks (kas.map V.ref)
structure KyAt (g : Gb) (μ : Mu) (H : Hp) (d : D) (b : Addr) : Prop where
  rp : Rp g.K μ H d (.ref b)
  ok : nkOk d = true
  dp : (nk d).depth ≤ 8
theorem ky_is {g : Gb} {X : Cx} {pins : List (Addr × Obj)} {σ : L2.St} {H : Hp} {s : Shared} {μ : Mu} {d : D} {b : Addr} (hK : X.K = g.K) (I : Inv X pins σ H s) (k : KyAt g μ H d b) : (nestedKind X.prog X.w).is s.heap (nk d) b :=
  ⟨nk_is (v := .ref b) I k.ok (by rw [hK]; exact k.rp) rfl, k.dp⟩
theorem ns_get {g : Gb} {X : Cx} {pins : List (Addr × Obj)} {σ : L2.St} {H : Hp} {s : Shared} {μ : Mu} {a : Addr} {ks : List D} {kas : List Addr} (hP : X.prog = g.P) (hw : X.w = g.w) (hK : X.K = g.K) (I : Inv X pins σ H s) (N : NsAt g μ H a ks kas) :
    (a == sysModules) = false ∧ ∃ xs, s.heap.DictOfH (nestedKind X.prog X.w) a xs ∧ xs.map (fun x => x.1) = ks.map nk ∧ xs.map (fun x => x.2.1) = kas := by
  obtain ⟨⟨hm, o, es, ep, xs, ho, hx, hd, he, e1, e2, nd⟩, _, _⟩ := I.hok a _ N.ob
  refine ⟨hm, xs, ⟨o, es, ep, ho, hx, hd, by rw [hP, hw]; exact he, fun x hx => ?_, by rw [e1]; exact nd⟩, e1, e2⟩
  obtain ⟨i, hi⟩ := List.mem_iff_getElem?.mp hx
  have h1 : (ks.map nk)[i]? = some x.1 := by rw [← e1, List.getElem?_map, hi]; rfl
  have h2 : (kas.map V.ref)[i]? = some (.ref x.2.1) := by rw [← e2, List.getElem?_map, List.getElem?_map, hi]; rfl
  obtain ⟨d, hd1, rd⟩ := rps_get' N.rp h2
  rw [List.getElem?_map, hd1] at h1
  have h3 : nk d = x.1 := Option.some.inj h1
  rw [← h3]
  obtain ⟨ok, dp⟩ := N.ok d (List.mem_of_getElem? hd1)
  exact ky_is hK I ⟨rd, ok, dp⟩
theorem ns_new {g : Gb} {P : Program} {w : World} {H : Hp} {h : Heap} {a : Addr} {xs : List (NestedKey × Addr × Value)} {nks : List NestedKey} {kas : List Addr} (hP : P = g.P) (hw : w = g.w) (hm : (a == sysModules) = false) (D : h.DictOfH (nestedKind P w) a xs) (e1 : xs.map (fun x => x.1) = nks) (e2 : xs.map (fun x => x.2.1) = kas) :
    ObjOk P w H h a (nsO g a nks kas) := by
  subst hP; subst hw
  obtain ⟨o, es, ep, ho, hx, hd, he, _, nd⟩ := D
  exact ⟨⟨hm, o, es, ep, xs, ho, hx, hd, he, e1, e2, by rw [← e1]; exact nd⟩, ⟨o, ho⟩, fun h1 h2 ⟨m, o, es, ep, xs, ho, r⟩ k => ⟨m, o, es, ep, xs, k o ho, r⟩⟩
theorem ns_room {A : Around} (hu : A.units + 64 < cLine) {P : Program} {w : World} : (nestedKind P w).room A.in1 := by
  show A.units + 1 + 8 < cLine; omega
theorem val_some {xs : List (NestedKey × Addr × Value)} {k : NestedKey} : (valueAt (pairsH xs) k).isSome = decide (k ∈ xs.map (fun x => x.1)) := by
  induction xs with
  | nil => rfl
  | cons x xs ih =>
    by_cases h : x.1 = k
    · simp [pairsH, valueAt, h]
    · have h' : ¬ k = x.1 := fun e => h e.symm
      have e : (k ∈ (x :: xs).map (fun x => x.1)) ↔ (k ∈ xs.map (fun x => x.1)) := by rw [List.map_cons, List.mem_cons]; exact ⟨fun z => z.elim (fun z => absurd z h') id, .inr⟩
      rw [decide_eq_decide.mpr e, ← ih]
      simp [pairsH, valueAt, h]
theorem at_none {xs : List (NestedKey × Addr × Value)} {k : NestedKey} (h : k ∉ xs.map (fun x => x.1)) : atKey xs k = none := by
  unfold atKey
  rw [Option.map_eq_none_iff, List.find?_eq_none]
  intro x hx e
  exact h (List.mem_map.mpr ⟨x, hx, of_decide_eq_true e⟩)
def rNIn (g : Gb) (neg : Bool) : R2 := fun x y H Q => ∃ μ q b ks kas d, x = .ref b ∧ y = .ref q ∧ NsAt g μ H q ks kas ∧ KyAt g μ H d b ∧ Q (.bl (nb neg (decide (nk d ∈ ks.map nk)))) H
theorem op_nin {g : Gb} {X : Cx} (hP : X.prog = g.P) (hw : X.w = g.w) (hK : X.K = g.K) (hu : X.A.units + 64 < cLine) : OpR X (compareOp .In) (rNIn g false) := by
  intro pins s σ H x y v u Q I rx ry h
  obtain ⟨μ, q, b, ks, kas, d, rfl, rfl, N, k, qq⟩ := h
  cases rx; cases ry
  obtain ⟨hm, xs, D, e1, e2⟩ := ns_get hP hw hK I N
  refine in_keyed (ns_room hu) (ky_is hK I k) hm ⟨xs, D, rfl⟩ ?_
  rw [val_some, e1]
  exact ⟨.bl _, H, I.tok _, rfl, qq⟩
theorem op_nnin {g : Gb} {X : Cx} (hP : X.prog = g.P) (hw : X.w = g.w) (hK : X.K = g.K) (hu : X.A.units + 64 < cLine) : OpR X (compareOp .NotIn) (rNIn g true) := by
  intro pins s σ H x y v u Q I rx ry h
  obtain ⟨μ, q, b, ks, kas, d, rfl, rfl, N, k, qq⟩ := h
  cases rx; cases ry
  obtain ⟨hm, xs, D, e1, e2⟩ := ns_get hP hw hK I N
  refine notIn_keyed (ns_room hu) (ky_is hK I k) hm ⟨xs, D, rfl⟩ ?_
  rw [val_some, e1]
  exact ⟨.bl _, H, I.tok _, rfl, qq⟩
section
variable {g : Gb} {k : Nat} {N : List Str} {vis loc : List Nat} {gl : List Str} {sc : Scope} {X : Cx} {ρ : Ro} {μ : Mu} {R : AE} {pos p apos : Pos} {Post : AQ} {a e o : Expr} {es : List Expr}
/-- a tuple that can be a key -/
def kyD (d : D) : Prop := (∃ ds, d = .tup ds) ∧ nkOk d = true ∧ (nk d).depth ≤ 8
theorem kyD_at {m : Mu} {H : Hp} {d : D} {v : V} (h : kyD d) (r : Rp g.K m H d v) : ∃ b, v = .ref b ∧ KyAt g m H d b := by
  obtain ⟨⟨ds, rfl⟩, ok, dp⟩ := h
  have r0 := r
  obtain ⟨a, xs, ev, _⟩ := r0
  subst ev
  exact ⟨a, rfl, r, ok, dp⟩
theorem ns_of {m : Mu} {H : Hp} {q : Addr} {ks ds : List D} (M : Mk g m H) (h : m q = some (.nst ks ds)) : ∃ kas, NsAt g m H q ks kas := by
  obtain ⟨kas, h1, h2, h3, h4⟩ := M q _ h
  exact ⟨kas, h1, h2, h3, h4⟩
theorem wt_nnin (S : Sit g k N vis loc gl sc X) {PB : Bool → Mu → Prop} (h : W g X a ρ μ fun y m1 => W g X o ρ m1 fun x m2 => ∃ q ks ds, x = .ptr q ∧ m2 q = some (.nst ks ds) ∧ kyD y ∧ PB (!decide (nk y ∈ ks.map nk)) m2) (hm : behindInMarks .NotIn o = false := by rfl) : WT g X (.Compare a [.NotIn] [o] pos) ρ μ PB := by
  refine wt_cmp (op_nnin S.hP S.hw S.hK S.hu64) hm (h.mono fun y m1 q => q.mono fun x m2 ⟨q, ks, ds, ex, hq, hy, post⟩ => ?_)
  subst ex
  intro H u v Q M ru rv kk
  obtain ⟨b, eu, ky⟩ := kyD_at hy ru
  subst eu
  obtain ⟨kas, ns⟩ := ns_of M hq
  exact ⟨m2, q, b, ks, kas, y, rfl, rv, ns, ky, kk _ _ ⟨.bl _, m2, .refl _ _, M, rfl, _, rfl, post⟩⟩
def sNPut (g : Gb) (td ty tv : TE) : TS := fun D σ H => tv σ H fun v H1 => td σ H1 fun x H2 => ty σ H2 fun y H3 => ∃ μ q b ks kas d, x = .ref q ∧ y = .ref b ∧ NsAt g μ H3 q ks kas ∧ KyAt g μ H3 d b ∧ nk d ∉ ks.map nk ∧ D.nx σ (upd H3 q (nsO g q ((ks ++ [d]).map nk) (kas ++ [b])))
theorem ps_nput {td ty tv : TE} {pos' : Pos} (hP : X.prog = g.P) (hw : X.w = g.w) (hK : X.K = g.K) (hu : X.A.units + 64 < cLine) (ho : PE X o td) (hi : PE X a ty) (hv : PE X e tv) (hs : swapsWith e (some (.Subscript o a pos')) pos.line X.env = pure false) :
    PS X (.Assign [.Subscript o a pos'] e pos) (sNPut g td ty tv) := by
  refine ⟨fun pins s σ H D I h => ?_⟩
  refine wpAny_Assign_Subscript (thn (hv.run pins s σ H _ I h) fun r s1 ⟨v, H1, I1, rv, q1⟩ => thn (ho.run pins s1 σ H1 _ I1 q1) fun u s2 ⟨x, H2, I2, rx, q2⟩ => thn (hi.run pins s2 σ H2 _ I2 q2) fun iv s3 ⟨y, H3, I3, ry, m, q, b, ks, kas, d, ex, ey, ns, ky, hn, q3⟩ => ?_) hs
  subst ex; subst ey
  cases rx; cases ry
  obtain ⟨hm, xs, DD, e1, e2⟩ := ns_get hP hw hK I3 ns
  have hl : xs.length ≤ 100000 := by
    have := congrArg List.length e1
    rw [List.length_map, List.length_map] at this
    rw [this]; exact ns.l
  refine wpAny_setItem_heap (hsz := Nat.le_trans hl (by decide)) (ns_room hu) (ky_is hK I3 ky) DD fun h' dd hs' => ?_
  rw [storedH_new (at_none (by rw [e1]; exact hn))] at dd
  have he : ∃ z, h'.get? q = some z := let ⟨z, _, _, hq, _⟩ := dd; ⟨z, hq⟩
  refine ⟨σ, _, d_write I3 (by rw [ns.ob]; exact True.intro) hs' he (ns_new hP hw hm dd ?_ ?_), q3⟩
  · rw [List.map_append, List.map_append, e1]; rfl
  · rw [List.map_append, e2]; rfl
/-- o[a] = e, a new nested key -/
theorem ws_nput (S : Sit g k N vis loc gl sc X) {pos' : Pos} (h : W g X e ρ μ fun _ m0 => W g X o ρ m0 fun x m1 => W g X a ρ m1 fun y m2 => ∃ q ks ds, x = .ptr q ∧ m2 q = some (.nst ks ds) ∧ kyD y ∧ nk y ∉ ks.map nk ∧ ks.length < 100000 ∧ R.nx ρ (up m2 q (.nst (ks ++ [y]) [])))
    (hs : swapsWith e (some (.Subscript o a pos')) pos.line X.env = pure false := by rfl) : WS g X (.Assign [.Subscript o a pos'] e pos) ρ μ R := fun σ H at_ => by
  refine ES.of (ps_nput S.hP S.hw S.hK S.hu64 (E.pe X o) (E.pe X a) (E.pe X e) hs) ?_
  refine h.then at_ fun d0 m0 v H0 G0 a0 r0 q0 => q0.then a0 fun x m1 u H1 G1 a1 r1 q1 => q1.then a1 fun y m2 w H2 G2 a2 r2 ⟨q, ks, ds, ex, hd, hy, hn, hz, post⟩ => ?_
  subst ex
  obtain ⟨b, ew, ky⟩ := kyD_at hy r2
  subst ew
  obtain ⟨kas, ns⟩ := ns_of a2.mu hd
  refine ⟨m2, q, b, ks, kas, y, r1, rfl, ns, ky, hn, ?_⟩
  have G3 : Gs m2 (up m2 q (.nst (ks ++ [y]) [])) H2 (upd H2 q (nsO g q ((ks ++ [y]).map nk) (kas ++ [b]))) := gs_write hd
  have M3 : Mk g (up m2 q (.nst (ks ++ [y]) [])) (upd H2 q (nsO g q ((ks ++ [y]).map nk) (kas ++ [b]))) := mk_write (c' := .nst (ks ++ [y]) []) a2.mu hd
    ⟨kas ++ [b], upd_same, by rw [List.length_append]; exact hz, fun d hd' => by
      rcases List.mem_append.mp hd' with z | z
      · exact ns.ok d z
      · have : d = y := by simpa using z
        subst this; exact hy.2, by
      rw [show (kas ++ [b]).map V.ref = kas.map V.ref ++ [V.ref b] from List.map_append]
      exact rps_append (rps_mono G3 _ _ ns.rp) (rps_one (rp_mono G3 _ _ ky.rp))⟩
  exact ⟨ρ, _, ((G0.trans G1).trans G2).trans G3, a2.go G3 M3, post⟩
def tNDisp (g : Gb) (tk tv : TE) : TE := fun σ H Q => ∀ p, H p = none → tk σ (upd H p (.dK [])) fun y H1 => tv σ H1 fun _ H2 => H2 p = some (.dK []) ∧ ∃ μ b d, y = .ref b ∧ KyAt g μ H2 d b ∧ Q (.ref p) (upd H2 p (nsO g p [nk d] [b]))
theorem pe_ndisp {ke ve : Expr} {tk tv : TE} (hP : X.prog = g.P) (hw : X.w = g.w) (hK : X.K = g.K) (hu : X.A.units + 64 < cLine) (hk : PE X ke tk) (hv : PE X ve tv) : PE X (.Dict [some ke] [ve] pos) (tNDisp g tk tv) := by
  refine ⟨fun pins s σ H Q I q => ?_⟩
  have hn := I.hok.fresh (Nat.le_refl s.heap.objs.size)
  have I1 := I.laid (a := s.heap.objs.size) (o := .dK []) (h' := s.heap.push { cls := .type "dict", data := .dict #[] }) (t' := s.toks) (fun _ _ q => Heap.get?_push_of_some _ q) (Nat.le_refl _) (dk_empty s.heap I.big)
  rw [arm_eval_Dict, zip_pairTrees [some ke] [ve] X.env pos rfl rfl, dictDisplay_pairs _ (by intro z; cases z) (by show 1 < 17; decide)]
  have hrun := hk.run pins _ σ _ _ I1 (q _ hn)
  refine wpAny_bind (wpAny_standAt (wpAny_bind (wpAny_subDictH (knd := nestedKind X.prog X.w) (by show X.A.units + 8 < cLine; omega) (by show 1 ≤ 15; decide) ?_)))
  refine pairTrees_cons_walk (thn hrun fun u s1 ⟨y, H1, I2, ry, q1⟩ => thn (hv.run pins s1 σ H1 _ I2 q1) fun w2 s2 ⟨v, H2, I3, rv, e, m, b, d, ey, ky, q2⟩ => pairTrees_nil_walk ?_)
  subst ey
  cases ry
  obtain ⟨z, hm, vs0, r0, dd⟩ := dk_of I3.hok e
  cases r0
  obtain ⟨o, es, ep, ho, hx, hd, _, hp, _⟩ := dd
  have he : es.toList = [] := by
    cases hes : es.toList with
    | nil => rfl
    | cons x xs => rw [hes] at hp; first | exact hp.elim | cases hp
  refine ⟨[(nk d, b, w2)], ⟨rfl, rfl, ky_is hK I3 ky, True.intro⟩, ⟨o, es, ep, ho, hx, hd, he, (by intro x hx; cases hx), List.nodup_nil⟩, fun h' tk' D' hs' => ?_⟩
  refine wpAny_pure ⟨.ref s.heap.objs.size, _, ?_, rfl, q2⟩
  have he' : ∃ q, h'.get? s.heap.objs.size = some q := let ⟨q, _, _, hq, _⟩ := D'; ⟨q, hq⟩
  exact d_write I3 (by rw [e]; exact True.intro) hs' he' (ns_new hP hw hm D' rfl rfl)
/-- {k: v} with one nested key -/
theorem w_ndisp (S : Sit g k N vis loc gl sc X) {ke ve : Expr} (h : ∀ q, μ q = none → W g X ke ρ (up μ q (.dic [] [])) fun y m1 => W g X ve ρ m1 fun _ m2 => ∃ m', m2 = up m' q (.dic [] []) ∧ m' q = none ∧ kyD y ∧ Post (.ptr q) (up m' q (.nst [y] []))) : W g X (.Dict [some ke] [ve] pos) ρ μ Post := fun σ H at_ => by
  refine E.of (pe_ndisp S.hP S.hw S.hK S.hu64 (E.pe X ke) (E.pe X ve)) ?_
  intro q hq
  have G0 : Gs μ (up μ q (.dic [] [])) H (upd H q (.dK [])) := gs_alloc hq
  have a0 := at_.go G0 (mk_alloc at_.mu hq ⟨[], upd_same, rfl, rfl⟩)
  refine (h q (at_.mu.new hq)).then a0 fun y m1 w H1 G1 a1 r1 q1 => q1.then a1 fun _ m2 u H2 G2 a2 r2 ⟨m', em, hm, hy, post⟩ => ?_
  subst em
  obtain ⟨xs, hx, hl0, rx⟩ := a2.mu q _ up_same
  have hxs : H2 q = some (.dK []) := by rw [hx]; rfl
  obtain ⟨b, ew, ky⟩ := kyD_at hy (rp_mono G2 _ _ r1)
  subst ew
  have G3 := gs_write (μ := up m' q (.dic [] [])) (H := H2) (o := nsO g q [nk y] [b]) (c' := .nst [y] []) up_same
  have M3 := mk_write (o := nsO g q [nk y] [b]) (c' := .nst [y] []) a2.mu up_same ⟨[b], upd_same, by show 1 ≤ 100000; decide, fun d hd => by
    have : d = y := by simpa using hd
    subst this; exact hy.2, rps_one (rp_mono G3 _ _ ky.rp)⟩
  rw [up_up] at G3 M3
  exact ⟨hxs, _, b, y, rfl, ky, .ptr q, _, ((G0.trans G1).trans G2).trans G3, M3, rfl, post⟩
end
end Mb
set_option maxHeartbeats 4000000
namespace MbT
open PySem PyProof.Rows SrtO
section
variable {prog : Program} {w : World} {A : Around} {E : Value → Shared → Prop} {s : Shared}
/-- the items of a tuple, collected -/
theorem collect_tup {l : Addr} {vs : List Value} {Q : List Value → Shared → Prop} (hl : IsTup s.heap l vs.toArray) (hz : vs.length ≤ sizeLine)
    (h : Q vs { s with heap := (s.heap.push (seqObj "list" #[] 0)).update s.heap.objs.size (Obj.mapSeq (· ++ vs.toArray)) }) : wpAny (model prog w) A (collect (.ref l)) Q E s := by
  obtain ⟨ob, ho, hc, nn, hd⟩ := hl
  unfold collect
  refine wpAny_bind (m := runValue _) (wpAny_runValue (codeAny_builtin entry_proto_collect' ?_))
  show wpAny _ _ (do again (.builtin "list.__iadd__" ⟨[← newList [], .ref l], []⟩)) _ _ s
  refine wpAny_bind (m := newList []) (wpAny_newList (wpAny_pure ⟨Code.quiet_builtin _ (by decide +kernel), codeAny_builtin entry_list_iadd' ?_⟩))
  show wpAny _ _ (Builtin.List.listExtendWith (.ref s.heap.objs.size) (.ref l) (.ref s.heap.objs.size)) _ _ { s with heap := s.heap.push (seqObj "list" #[] 0) }
  unfold Builtin.List.listExtendWith
  have ho1 : (s.heap.push (seqObj "list" #[] 0)).get? l = some ob := Heap.get?_push_of_some _ ho
  refine wpAny_bind (m := typeOf _) (wpAny_typeOf (T := "tuple") ⟨ob, ho1, hc⟩ ?_)
  have ht1 : (Value.type "tuple" == Value.type "tuple") = true := by rfl
  rw [if_pos (by rw [ht1]; simp)]
  refine wpAny_bind (m := Builtin.List.listItems _) (listItems_at ho1 hd ?_)
  refine wpAny_bind (m := Builtin.List.listItems _) (listItems_at (xs := #[]) (n := 0) (Heap.get?_push_size _ rfl) rfl ?_)
  rw [if_neg (by simp)]
  refine wpAny_bind (m := Builtin.List.listUpdate _ _) (listUpdate_at (xs := #[]) (n := 0) (Heap.get?_push_size _ rfl) rfl ?_ (Nat.zero_le _) (by simp only [Array.size_append, List.size_toArray, List.length_nil]; show 0 + vs.length ≤ sizeLine + 1; omega))
  refine wpAny_pure ?_
  show wpAny (model prog w) A (do
      let o ← load s.heap.objs.size
      match o.data with
      | .seq xs _ => pure xs.toList
      | _ => unsupported "internal:collect") Q E { s with heap := (s.heap.push (seqObj "list" #[] 0)).update s.heap.objs.size (Obj.mapSeq (· ++ vs.toArray)) }
  refine wpAny_bind (m := load _) (wpAny_load (get?_update_seq (Heap.get?_push_size _ rfl) _) ?_)
  show wpAny _ _ (pure ((#[] : Array Value) ++ vs.toArray).toList) Q E _
  have e0 : ((#[] : Array Value) ++ vs.toArray).toList = vs := by simp
  rw [e0]
  exact wpAny_pure h
/-- sorted(t), t a tuple -/
theorem sorted_ordT {l : Addr} {vs : List Value} {ltv : Value → Value → Bool} {Q : Value → Shared → Prop} (O : Swo ltv) (hl : IsTup s.heap l vs.toArray) (hz : vs.length ≤ sizeLine)
    (hS : 2 ≤ vs.length → ∀ (h₁ : Heap) (a : Addr), h₁.get? a = some (seqObj "list" vs.toArray 0) → SortableO prog w A.in1.in1 { s with heap := h₁ } a vs ltv)
    (h : ∀ out : List Value, Srtd ltv out → Stb ltv out vs → Q (.ref (s.heap.objs.size + 1)) { s with heap := sortedAll s.heap vs out.toArray }) : wpAny (model prog w) A (call (.builtin "sorted") [.ref l]) Q E s := by
  refine Calls.call_function_entry kind_sorted plain_sorted entry_sorted (args_sorted1 _) ?_
  unfold Builtin.«sorted»
  refine wpAny_bind (m := checkCount "sorted" 1 1 _) (wpAny_pure ?_)
  refine wpAny_bind (m := collect _) (collect_tup hl hz ?_)
  refine wpAny_bind (m := newList _) (wpAny_newList ?_ hz)
  have hsz1 : ((s.heap.push (seqObj "list" #[] 0)).update s.heap.objs.size (Obj.mapSeq (· ++ vs.toArray))).objs.size = s.heap.objs.size + 1 := by
    rw [Heap.size_update, size_push']
  have hoL1 : (((s.heap.push (seqObj "list" #[] 0)).update s.heap.objs.size (Obj.mapSeq (· ++ vs.toArray))).push (seqObj "list" vs.toArray 0)).get? (s.heap.objs.size + 1) = some (seqObj "list" vs.toArray 0) := by
    rw [← hsz1]; exact Heap.get?_push_size _ rfl
  show wpAny _ _ _ _ _ { s with heap := ((s.heap.push (seqObj "list" #[] 0)).update s.heap.objs.size (Obj.mapSeq (· ++ vs.toArray))).push (seqObj "list" vs.toArray 0) }
  rw [hsz1]
  refine wpAny_bind (m := holding _ _) (wpAny_holding (wpAny_call_entry slot_list_sort ⟨_, hoL1, rfl⟩ entry_list_sort (list_sort_ord O hoL1 hz (fun h2 => hS h2 _ _ hoL1) fun out hs hb => ⟨_, rfl, ?_⟩) (args_list_sort _)))
  exact wpAny_pure ⟨_, rfl, h out hs hb⟩
end
end MbT
namespace Mb
open PySem PySem.Spec L2 PyProof.Rows
def rSortT (K : PySem.W.Frag) : List V → Hp → VK → Prop := fun vs H Q => ∃ (a : Addr) (ns : List Int), vs = [V.ref a] ∧ SqT K H a (ns.map V.int) ∧
  ∀ (ns' : List Int) (p : Addr), ns'.Perm ns → ns'.Pairwise (· ≤ ·) → H p = none → Q (.ref p) (upd H p (.lst (ns'.map V.int)))
theorem cr_sortT1 {X : Cx} : CallR X (.builtin "sorted") (rSortT X.K) := by
  intro pins s σ H vs us Q I r h
  obtain ⟨a, ns, rfl, hs, q⟩ := h
  obtain ⟨its, rv, hl, hz⟩ := I.tuple hs
  rw [Vals.ref1 r]
  have hi := rv.ints
  refine MbT.sorted_ordT SrtO.swo_int hl (by rw [← rv.length]; exact hz) (fun h2 h₁ a' _ => SrtO.ints_sortable hi h2) fun out h1 h2 => ?_
  obtain ⟨k1, k2, k3⟩ := SrtO.ints_out hi h1 h2
  obtain ⟨ep, he'⟩ := PyProof.Rows.sortedAll_at s.heap its out.toArray
  have hlen : ((out.map SrtO.iv).map V.int).length ≤ sizeLine := by
    rw [List.length_map] at hz
    rw [List.length_map, k2.length_eq]; exact hz
  exact ⟨.ref _, upd H (s.heap.objs.size + 1) (.lst ((out.map SrtO.iv).map V.int)), I.laid (t' := s.toks) (fun _ _ => PyProof.Rows.sortedAll_old) (Nat.le_succ _) ⟨hlen, out, ep, vals_of_ints k1, he'⟩, rfl, q _ _ k2 k3 (I.hok.fresh (Nat.le_succ _))⟩
/-- data that can be sorted -/
def pdE (d : D) : PyData := (pdD d).getD .none
structure SrtD (ds : List D) : Prop where
  l : ds.length ≤ 100000
  ok : ∀ d, d ∈ ds → pdD d = some (pdE d) ∧ (pdE d).depth ≤ 30
  al : PySem.W.AllAlike (ds.map pdE)
  so : PySem.W.Sortable (ds.map pdE)
def rSortDt (K : PySem.W.Frag) : List V → Hp → VK → Prop := fun vs H Q => ∃ (μ : Mu) (a : Addr) (bs : List (V × D)), vs = [V.ref a] ∧ SqL K H a (bs.map (·.1)) ∧ SrtD (bs.map (·.2)) ∧ (∀ b, b ∈ bs → Rp K μ H b.2 b.1) ∧
  ∀ (bs' : List (V × D)) (p : Addr), bs'.Perm bs → H p = none → Q (.ref p) (upd H p (.lst (bs'.map (·.1))))
theorem each_of {β : Type} {R : Value → β → Prop} {f : β → V} : ∀ {bs : List β} {us : List Value}, Vals (bs.map f) us → (∀ b u, b ∈ bs → RelV (f b) u → R u b) → PySem.W.EachIs R us bs
  | [], _, r, _ => by cases r; exact .nil
  | b :: bs, _, r, h => by
    rw [List.map_cons] at r
    cases r with
    | cons r1 r2 => exact .cons (h b _ (List.mem_cons_self ..) r1) (each_of r2 fun c u hc => h c u (List.mem_cons_of_mem _ hc))
theorem each_vals {β : Type} {f : β → V} : ∀ {bs : List β} {us : List Value}, PySem.W.EachIs (fun u b => RelV (f b) u) us bs → Vals (bs.map f) us
  | _, _, .nil => .nil
  | _, _, .cons h t => .cons h (each_vals t)
theorem cr_sortDt {X : Cx} (hu : X.A.units + 64 < cLine) : CallR X (.builtin "sorted") (rSortDt X.K) := by
  intro pins s σ H vs us Q I r h
  obtain ⟨μ, a, bs, rfl, hs, sd, hr, q⟩ := h
  obtain ⟨its, rv, hl, hz⟩ := I.list hs
  rw [Vals.ref1 r]
  have e1 : (bs.map (·.2)).map pdE = bs.map fun b => pdE b.2 := by rw [List.map_map]; rfl
  have hal := sd.al
  have hso := sd.so
  have hlb : bs.length ≤ 100000 := by have := sd.l; rwa [List.length_map] at this
  rw [e1] at hal hso
  refine PySem.W.sorted_data (R := fun u b => RelV b.1 u) (enc := fun b => pdE b.2) hl.isList (each_of rv fun _ _ _ z => z) (each_of rv fun b u hb z => ?_) hal hso (Nat.le_trans hlb (by decide)) (fun b hb => ?_) fun out ho eo => ?_
  · have := (sd.ok b.2 (List.mem_map.mpr ⟨b, hb, rfl⟩)).1
    exact Dp.reads I _ _ _ (pd_dp this (hr b hb)) z
  · have := (sd.ok b.2 (List.mem_map.mpr ⟨b, hb, rfl⟩)).2
    show _ + 2 + _ < _
    omega
  · have pm : (bs.mergeSort (PySem.W.dataLe false fun b : V × D => pdE b.2)).Perm bs := List.mergeSort_perm ..
    obtain ⟨ep, he'⟩ := PyProof.Rows.sortedAll_at s.heap its out.toArray
    have hlen : ((bs.mergeSort (PySem.W.dataLe false fun b : V × D => pdE b.2)).map (·.1)).length ≤ sizeLine := by
      rw [List.length_map, pm.length_eq]; exact Nat.le_trans hlb (by decide)
    exact ⟨.ref _, upd H (s.heap.objs.size + 1) (.lst ((bs.mergeSort (PySem.W.dataLe false fun b : V × D => pdE b.2)).map (·.1))), I.laid (t' := s.toks) (fun _ _ => PyProof.Rows.sortedAll_old) (Nat.le_succ _) ⟨hlen, out, ep, each_vals eo, he'⟩, rfl, q _ _ pm (I.hok.fresh (Nat.le_succ _))⟩
section
variable {g : Gb} {k : Nat} {N : List Str} {vis loc : List Nat} {gl : List Str} {sc : Scope} {X : Cx} {ρ : Ro} {μ : Mu} {R : AE} {pos p apos : Pos} {Post : AQ} {a e o : Expr} {es : List Expr}
theorem w_sortedT (S : Sit g k N vis loc gl sc X) {i : Nat} (hx : gl[i]? = some ("sorted" : Str)) (hm : g.mg "sorted" = none) (h : W g X e ρ μ fun d m => ∃ xs : List Int, d = .tup (xs.map .int) ∧ xs.length ≤ 1000 ∧ ∀ ys : List Int, ys.Perm xs → ys.Pairwise (· ≤ ·) → Post (.lst (ys.map .int)) m)
    (he : starEach [e] X.env = [(false, eval e X.env)] := by rfl) : W g X (.Call (.Name "sorted" p) [e] [] pos) ρ μ Post := by
  refine w_callB S cr_sortT1 i hx hm (by decide +kernel) (wa_cons (h.mono fun d m ⟨xs, ed, hl, q⟩ => wa_nil ?_) he) he rfl
  subst ed
  intro H us Q M r kk
  obtain ⟨u, eu, ru⟩ := rps1 r
  subst eu
  obtain ⟨a, zs, ev, t, rr⟩ := ru
  subst ev
  have ez := rps_ints rr
  subst ez
  refine ⟨a, xs, rfl, by rw [S.hK]; exact t.sq, fun ys p pm pw hp => ?_⟩
  refine kk _ _ ⟨.lst (ys.map .int), m, gs_new hp, mk_new M hp, ⟨p, _, rfl, upd_same, M.new hp, rps_of_ints⟩, q ys pm pw⟩
theorem w_sortedDt (S : Sit g k N vis loc gl sc X) {i : Nat} (hx : gl[i]? = some ("sorted" : Str)) (hm : g.mg "sorted" = none) (h : W g X e ρ μ fun d m => ∃ xs : List D, d = .lst xs ∧ SrtD xs ∧ ∀ ys : List D, ys.Perm xs → Post (.lst ys) m)
    (he : starEach [e] X.env = [(false, eval e X.env)] := by rfl) : W g X (.Call (.Name "sorted" p) [e] [] pos) ρ μ Post := by
  refine w_callB S (cr_sortDt S.hu64) i hx hm (by decide +kernel) (wa_cons (h.mono fun d m ⟨xs, ed, sd, q⟩ => wa_nil ?_) he) he rfl
  subst ed
  intro H us Q M r kk
  obtain ⟨u, eu, ru⟩ := rps1 r
  subst eu
  obtain ⟨a, zs, ev, t, nn, rr⟩ := ru
  subst ev
  have hl := rps_length rr
  have e1 : (zs.zip xs).map (·.1) = zs := List.map_fst_zip (by omega)
  have e2 : (zs.zip xs).map (·.2) = xs := List.map_snd_zip (by omega)
  refine ⟨m, a, zs.zip xs, rfl, by rw [e1, S.hK]; exact SqL.of t, by rw [e2]; exact sd, fun b hb => ?_, fun bs' p pm hp => ?_⟩
  · obtain ⟨i, hi⟩ := List.mem_iff_getElem?.mp hb
    obtain ⟨h1, h2⟩ := List.getElem?_zip_eq_some.mp hi
    obtain ⟨v, hv, rv⟩ := rps_get rr h2
    rw [h1] at hv
    rw [Option.some.inj hv, S.hK]; exact rv
  · have pm2 : (bs'.map (·.2)).Perm xs := by
      have := pm.map (·.2)
      rwa [e2] at this
    have hrp : ∀ b, b ∈ zs.zip xs → Rp g.K m H b.2 b.1 := fun b hb => by
      obtain ⟨i, hi⟩ := List.mem_iff_getElem?.mp hb
      obtain ⟨h1, h2⟩ := List.getElem?_zip_eq_some.mp hi
      obtain ⟨v, hv, rv⟩ := rps_get rr h2
      rw [h1] at hv
      rw [Option.some.inj hv]; exact rv
    have all : ∀ cs : List (V × D), (∀ c, c ∈ cs → Rp g.K m H c.2 c.1) → Rps g.K m H (cs.map (·.2)) (cs.map (·.1)) := fun cs => by
      induction cs with
      | nil => intro _; rfl
      | cons c cs ih => intro hc; exact ⟨c.1, _, rfl, hc c (List.mem_cons_self ..), ih fun x hx => hc x (List.mem_cons_of_mem _ hx)⟩
    refine kk _ _ ⟨.lst (bs'.map (·.2)), m, gs_new hp, mk_new M hp, ⟨p, _, rfl, upd_same, M.new hp, rps_mono (gs_new hp) _ _ (all bs' fun c hc => hrp c (pm.mem_iff.mp hc))⟩, q _ pm2⟩
end
end Mb
set_option maxHeartbeats 4000000
namespace Mb
open PySem PySem.Spec L2 PyProof.Rows
/-- a def with defaults, all of its parameters written -/
theorem Fx.mkGD {g : Gb} {k : Nat} {N ps : List Str} {vis loc : List Nat} {gl : List Str} {asp : ASp} (Z : Fx g) {d : He.DefD} {x y : Str} (i j jg : Nat) (hi : Mb.fn[i]? = some d) (hj : fa[j]? = some (.mkr x)) (hg : fa[jg]? = some (.glo x)) (hat : d.at_ = (y, some ("__init__" : Str)))
    (heq : He.ma g.K (He.ga g.K x) "__init__" = He.ma g.K (He.ga g.K y) "__init__") (h0 : d.dfl ≠ [])
    (bd : ∀ (T : Addr) (kV doc pm : Value) (an : Option Addr) (cdv ct : Value) (us its : List Value), us.length = ps.length → its.length = d.dfl.length →
      ∃ kk, bindArgs (PySem.W.fnOf d.name d.qual d.params d.body d.scope (.ref T) kV doc pm an cdv ct) ⟨us, []⟩ = seqItems? (.ref T) >>= kk ∧ kk (some its.toArray) = pure (ps.zip (us ++ its.drop d.dfl.length))) (w : Wlk g k d N ps vis loc gl asp) : MkG g (k + 1) x (He.ga g.K x) asp := by
  obtain ⟨fd, F⟩ := Z.says.def_ i hi
  have hl : (He.DefD.dvs g.K d).length = d.dfl.length := by unfold He.DefD.dvs; rw [List.length_map]
  have hn : He.DefD.dvs g.K d ≠ [] := fun e => h0 (List.length_eq_zero_iff.mp (by rw [← hl, e]; rfl))
  obtain ⟨ds, rv, b⟩ := F.binds1 (ps := ps) ps.length d.dfl.length hn (by omega) (fun T kV doc pm an cdv ct us its h1 h2 => bd T kV doc pm an cdv ct us its h1 (by rw [h2, hl]))
  have ed : ds = [] := by
    rw [List.drop_eq_nil_of_le (by omega)] at rv
    cases rv; rfl
  subst ed
  have e : He.fAd g.K d.at_ = He.ma g.K (He.ga g.K x) "__init__" := by rw [hat, heq]; rfl
  have A := fnA_of F w.sc w.hs w.len w.run
  rw [e] at A
  exact ⟨_, fd, ps, A, Z.glo jg hg, Z.mkr j hj, b⟩
section
variable {g : Gb} {k : Nat} {N : List Str} {vis loc : List Nat} {gl : List Str} {sc : Scope} {X : Cx} {ρ : Ro} {μ : Mu} {R : AE} {pos p apos : Pos} {Post : AQ} {a b e o : Expr} {es : List Expr}
/-- forgetting -/
theorem wb_drop {sts : List Stmt} (p : Addr) (q : WB g X sts ρ (dl μ p) R) : WB g X sts ρ μ R := fun σ H at_ =>
  ESs.tr gs_dl (q σ H (at_.go gs_dl (mk_dl at_.mu)))
theorem w_drop (p : Addr) (q : W g X e ρ (dl μ p) Post) : W g X e ρ μ Post := fun σ H at_ => E.tr gs_dl (q σ H (at_.go gs_dl (mk_dl at_.mu)))
theorem w_post (q : W g X e ρ μ fun d m => ∃ p, Post d (dl m p)) : W g X e ρ μ Post := fun σ H at_ => (q σ H at_).mono fun v H' ⟨d, m, G, M, r, p, h⟩ =>
  ⟨d, dl m p, G.trans gs_dl, mk_dl M, rp_mono (gs_dl (H := H')) _ _ r, h⟩
/-- a or b, a a list -/
theorem w_orL (S : Sit g k N vis loc gl sc X) (h : W g X a ρ μ fun d m => ∃ ds, d = .lst ds ∧ (ds ≠ [] → Post d m) ∧ (ds = [] → W g X (.BoolOp .Or (b :: es) pos) ρ m Post)) : W g X (.BoolOp .Or (a :: b :: es) pos) ρ μ Post := fun σ H at_ => by
  refine E.of (pe_orT (E.pe X a) (E.pe X _)) (h.then at_ fun d m u H1 G a1 r1 ⟨ds, ed, h1, h2⟩ => ?_)
  subst ed
  have r0 := r1
  obtain ⟨q, xs, eu, hq, hn, rr⟩ := r0
  subst eu
  have hl := rps_length rr
  refine ⟨!xs.isEmpty, .inl ⟨xs, SqL.of hq, rfl⟩, ?_⟩
  cases ds with
  | nil =>
    have : xs = [] := List.length_eq_zero_iff.mp hl.symm
    subst this
    rw [if_neg (by decide)]
    exact E.tr G (h2 rfl σ H1 a1)
  | cons d0 ds =>
    cases xs with
    | nil => simp at hl
    | cons x0 xs =>
      rw [if_pos (by rfl)]
      exact ⟨_, m, G, a1.mu, r1, h1 (by intro z; cases z)⟩
/-- l.index(x), l a list of texts -/
theorem w_lindex (S : Sit g k N vis loc gl sc X) {name : Str} (hn : name = "index") (h : W g X o ρ μ fun x m1 => ∃ ys : List Str, x = .lst (ys.map .str) ∧ W g X e ρ m1 fun y m2 => ∃ z j, y = .str z ∧ ys[j]? = some z ∧ (∀ m, m < j → ys[m]? ≠ some z) ∧ Post (.int (j : Nat)) m2)
    (hbase : attributeBase o name X.env (eval o X.env) = eval o X.env := by rfl)
    (hfew : ((backTo p (starEach [e] X.env)).all (fun x => !x.1) && (backToKw p (keywordEach [] X.env)).all (fun x => x.1.isSome)
      && decide ([e].length + ([] : List Keyword).length + (if ([] : List Keyword).isEmpty then 0 else 1) < 30)) = true := by rfl)
    (hline : (apos.endLine == p.line) = true := by rfl) (hs : starEach [e] X.env = [(false, eval e X.env)] := by rfl) : W g X (.Call (.Attribute o name apos) [e] [] p) ρ μ Post := fun σ H at_ => by
  subst hn
  refine E.of (pe_bm PySem.F.plainAttrs_list PySem.F.slot_list_index PySem.F.type_list_index mt_index (E.pe X o) (pa_cons (E.pe X e) pa_nil hs) hbase hfew hline hs rfl) ?_
  refine h.then at_ fun x m1 u H1 G1 a1 r1 ⟨ys, ex, q⟩ => ?_
  subst ex
  have r1' := r1
  obtain ⟨q0, xs, eu, hq, _, rr⟩ := r1
  subst eu
  refine ⟨.inl ⟨rfl, xs, SqL.of hq⟩, q.then a1 fun y m2 v H2 G2 a2 r2 ⟨z, j, ey, hj, hno, post⟩ => ?_⟩
  subst ey
  obtain ⟨q1, xs2, eu2, hq2, _, rr2⟩ := rp_mono G2 _ _ r1'
  have exs := rps_strs rr2
  subst exs
  have ev : v = .str z := r2
  subst ev
  refine ⟨q1, ys.map .str, .str z, j, .str z, eu2, rfl, SqL.of hq2, rfl, ?_, ?_, ?_, fun m z' hm hz' => ?_, .int (j : Nat), m2, G1.trans G2, a2.mu, rfl, post⟩
  · rw [List.all_eq_true]; intro v hv
    obtain ⟨y, _, e⟩ := List.mem_map.mp hv
    subst e; rfl
  · rw [List.getElem?_map, hj]; rfl
  · unfold eqV; simp
  · rw [List.getElem?_map] at hz'
    cases hy : ys[m]? with
    | none => rw [hy] at hz'; cases hz'
    | some y =>
      rw [hy] at hz'; cases hz'
      have : y ≠ z := fun e => hno m hm (by rw [hy, e])
      unfold eqV; simp [this]
/-- dict(pairs), keys ints and texts -/
theorem w_dictP (S : Sit g k N vis loc gl sc X) {i : Nat} (hx : gl[i]? = some ("dict" : Str)) (hm : g.mg "dict" = none) (h : W g X e ρ μ fun d m => ∃ kds : List (Key × D), d = .lst (kds.map fun kd => .tup [keyD kd.1, kd.2]) ∧ (kds.map (·.1)).Nodup ∧ Post (.dic (kds.map (·.1)) (kds.map (·.2))) m)
    (he : starEach [e] X.env = [(false, eval e X.env)] := by rfl) : W g X (.Call (.Name "dict" p) [e] [] pos) ρ μ Post := by
  refine w_callTy S (call_dictP S.calm) i hx hm (by decide +kernel) (wa_cons (h.mono fun d m ⟨kds, ed, nd, q⟩ => wa_nil ?_) he) he rfl
  subst ed
  intro H us Q M r kk
  obtain ⟨u, eu, ru⟩ := rps1 r
  subst eu
  obtain ⟨a, zs, ev, t, nn, rr⟩ := ru
  subst ev
  have all : ∀ (kds : List (Key × D)) (zs : List V), Rps g.K m H (kds.map fun kd => D.tup [keyD kd.1, kd.2]) zs → ∃ (ps : List Addr) (us : List V), zs = ps.map V.ref ∧ kds.length = us.length ∧ Paired (fun p kv => SqT X.K H p [kV kv.1, kv.2]) ps ((kds.map (·.1)).zip us) ∧ Rps g.K m H (kds.map (·.2)) us := fun kds => by
    induction kds with
    | nil => intro zs r; cases (show zs = [] from r); exact ⟨[], [], rfl, rfl, .nil, rfl⟩
    | cons kd kds ih =>
      intro zs r
      obtain ⟨v, w, ez, r1, r2⟩ := r
      subst ez
      obtain ⟨ps, us, e1, e2, e3, e4⟩ := ih w r2
      obtain ⟨a, xs, ev, t, rr⟩ := r1
      subst ev
      obtain ⟨v1, v2, ex, q1, q2⟩ := rps2 rr
      subst ex
      have e0 : v1 = kV kd.1 := by
        have := keys_rps (K := g.K) (m := m) (H := H) [kd.1]
        obtain ⟨w0, _, ew, rw0, _⟩ := this
        have : w0 = kV kd.1 := (List.cons.inj ew).1.symm
        subst this
        cases hk : kd.1 with
        | inl i => rw [hk] at q1; exact q1
        | inr i => rw [hk] at q1; exact q1
      subst e0
      exact ⟨a :: ps, v2 :: us, by rw [e1]; rfl, by simp [e2], .cons (by rw [S.hK]; exact t.sq) e3, ⟨v2, us, rfl, q2, e4⟩⟩
  obtain ⟨ps, us, e1, e2, e3, e4⟩ := all kds zs rr
  subst e1
  have hl : ((kds.map (·.1)).zip us).map (·.1) = kds.map (·.1) := List.map_fst_zip (by rw [List.length_map]; omega)
  have em : mergeK [] ((kds.map (·.1)).zip us) = (kds.map (·.1)).zip us := by
    have := mergeK_apart ((kds.map (·.1)).zip us) [] (by rw [List.map_nil, List.nil_append, hl]; exact nd)
    simpa using this
  refine ⟨a, ps, (kds.map (·.1)).zip us, rfl, SqL.of t, e3, fun p hp => ?_⟩
  rw [em]
  exact kk _ _ ⟨.dic (kds.map (·.1)) (kds.map (·.2)), m, gs_new hp, mk_new M hp, ⟨p, us, rfl, upd_same, M.new hp, by rw [List.length_map]; exact e2, rps_mono (gs_new hp) _ _ e4⟩, q⟩
/-- try: nothing is raised -/
theorem ws_try (S : Sit g k N vis loc gl sc X) {body : List Stmt} {h₀ : ExceptHandler} {hs : List ExceptHandler} (h : WB g X body ρ μ R) : WS g X (.Try body (h₀ :: hs) [] [] pos) ρ μ R := fun σ H at_ => by
  refine ES.of (ps_try_never (fun e s z => by rw [S.xe] at z; exact z) (ESs.pss X body) pss_nil) ?_
  exact (h σ H at_).mono (fun _ _ q => q) (fun _ _ q => q) (fun _ _ q => q) fun _ _ q => q
end
end Mb
set_option maxHeartbeats 4000000
namespace Mb
open PySem PySem.Spec L2 PyProof.Rows
/-- the pairs of a list: where the pair stands, its key, its value, the key's data -/
structure PrN where
  t : Addr
  b : Addr
  v : V
  d : D
def rDictN (g : Gb) : List V → Hp → VK → Prop := fun vs H Q => ∃ (μ : Mu) (a : Addr) (ps : List PrN), vs = [.ref a] ∧ SqL g.K H a (ps.map fun p => .ref p.t) ∧ ps.length ≤ 100000 ∧ (∀ p, p ∈ ps → SqT g.K H p.t [.ref p.b, p.v] ∧ KyAt g μ H p.d p.b) ∧
  (ps.map fun p => nk p.d).Nodup ∧ ∀ q, H q = none → Q (.ref q) (upd H q (nsO g q (ps.map fun p => nk p.d) (ps.map fun p => p.b)))
theorem refs_prn : ∀ {ps : List PrN} {us : List Value}, Vals (ps.map fun p => V.ref p.t) us → us = ps.map fun p => Value.ref p.t
  | [], _, r => by cases r; rfl
  | p :: ps, _, r => by
    rw [List.map_cons] at r
    cases r with
    | cons r1 r2 => cases r1; rw [List.map_cons, ← refs_prn r2]
theorem prn_vals {X : Cx} {pins : List (Addr × Obj)} {σ : L2.St} {H : Hp} {s : Shared} (I : Inv X pins σ H s) : ∀ (ps : List PrN), (∀ p, p ∈ ps → SqT X.K H p.t [.ref p.b, p.v]) → ∃ us : List Value, us.length = ps.length ∧ ∀ (j : Nat) (p : PrN) (u : Value), ps[j]? = some p → us[j]? = some u → IsTup s.heap p.t #[.ref p.b, u]
  | [], _ => ⟨[], rfl, fun j p u h => by cases h⟩
  | p :: ps, h => by
    obtain ⟨us, hl, hu⟩ := prn_vals I ps fun q hq => h q (List.mem_cons_of_mem _ hq)
    obtain ⟨its, rv, t, _⟩ := I.tuple (h p (List.mem_cons_self ..))
    obtain ⟨u1, u2, e, r1, r2⟩ := vals2 rv
    subst e
    cases r1
    refine ⟨u2 :: us, by simp [hl], fun j q u hq hu' => ?_⟩
    cases j with
    | zero => cases hq; cases hu'; exact t
    | succ j => exact hu j q u (by simpa using hq) (by simpa using hu')
theorem stored_apart : ∀ (ps acc : List (NestedKey × Addr × Value)), (acc.map (fun x => x.1) ++ ps.map (fun x => x.1)).Nodup → storedAllH acc ps = acc ++ ps
  | [], acc, _ => by rw [List.append_nil]; rfl
  | p :: ps, acc, nd => by
    have hn : p.1 ∉ acc.map (fun x => x.1) := by
      rw [List.map_cons] at nd
      have := (List.nodup_append.mp nd).2.2
      exact fun h => this _ h _ (List.mem_cons_self ..) rfl
    show storedAllH (storedH acc p.1 p.2.1 p.2.2) ps = _
    rw [storedH_new (at_none hn), stored_apart ps (acc ++ [(p.1, p.2.1, p.2.2)]) (by
      rw [List.map_append, List.append_assoc]; exact nd), List.append_assoc]
    rfl
theorem cr_dictN {g : Gb} {X : Cx} (hP : X.prog = g.P) (hw : X.w = g.w) (hK : X.K = g.K) (hu : X.A.units + 64 < cLine) (hc : X.calm = true) : CallR X (.type "dict") (rDictN g) := by
  intro pins s σ H vs us Q I r h
  obtain ⟨μ, a, ps, rfl, hs, hl, hps, nd, q⟩ := h
  obtain ⟨its, rv, pl, hz⟩ := I.list (by rw [hK]; exact hs)
  rw [Vals.ref1 r]
  have ei := refs_prn rv
  subst ei
  obtain ⟨vals, lv, hv⟩ := prn_vals I ps fun p hp => by rw [hK]; exact (hps p hp).1
  obtain ⟨o, n, ho, hcl, hd, hdat⟩ := pl
  have hpl : (ps.zip vals).length = ps.length := by rw [List.length_zip]; omega
  have P := PairArg.list (prog := X.prog) (w := X.w) a (ps.map fun p => Value.ref p.t).toArray (fun j => ((ps[j]?).map PrN.t).getD 0) ((ps.zip vals).map fun z => (Value.ref z.1.b, z.2))
  have gz : ∀ {j : Nat} {z : PrN × Value}, (ps.zip vals)[j]? = some z → ps[j]? = some z.1 ∧ vals[j]? = some z.2 := fun h => List.getElem?_zip_eq_some.mp h
  refine call_dict_pairsH (knd := nestedKind X.prog X.w) (ps := (ps.zip vals).map fun z => (nk z.1.d, z.1.b, z.2)) P (I.ok.hd hc) (by show X.A.units + 1 + 1 + 8 < cLine; omega) ⟨⟨o, n, ho, hcl, hd, hdat⟩, ?_, fun j kx v hj => ?_⟩ ⟨by rw [List.length_map, List.length_map], fun i kx v hi => ?_⟩ (fun h' hk x hx => ?_) (by rw [List.length_map, hpl]; exact Nat.le_trans hl (by decide)) fun h' tk D' k' => ?_
  · simp [hpl]
  · rw [List.getElem?_map] at hj
    cases hz0 : (ps.zip vals)[j]? with
    | none => rw [hz0] at hj; cases hj
    | some z =>
      rw [hz0] at hj
      cases hj
      obtain ⟨h1, h2⟩ := gz hz0
      refine ⟨?_, .inl ?_⟩
      · simp [h1]
      · show s.heap.IsTuple (((ps[j]?).map PrN.t).getD 0) _
        rw [h1]
        obtain ⟨o2, a1, a2, n2, a3⟩ := hv j z.1 z.2 h1 h2
        exact ⟨o2, a1, a2, n2, a3⟩
  · have hi' : ((ps.zip vals).map fun z => (Value.ref z.1.b, z.2))[i]? = some (kx, v) := hi
    rw [List.getElem?_map] at hi' ⊢
    cases hz0 : (ps.zip vals)[i]? with
    | none => rw [hz0] at hi'; cases hi'
    | some z => rw [hz0] at hi'; cases hi'; exact ⟨_, _, rfl, rfl⟩
  · obtain ⟨z, hz0, ez⟩ := List.mem_map.mp hx
    subst ez
    obtain ⟨j, hj⟩ := List.mem_iff_getElem?.mp hz0
    have ky := (hps z.1 (List.mem_of_getElem? (gz hj).1)).2
    exact nestedKind_stays.stays (fun b o vs n e _ => hk b o (Nat.ne_of_lt (Heap.lt_size e)) (fun q => nomatch q) e) (ky_is hK I ky)
  · have e1 : ((ps.zip vals).map fun z => (nk z.1.d, z.1.b, z.2)).map (fun x => x.1) = ps.map fun p => nk p.d := by
      rw [List.map_map]
      have : ((ps.zip vals).map (·.1)).map (fun p => nk p.d) = (ps.zip vals).map ((fun x : NestedKey × Addr × Value => x.1) ∘ fun z => (nk z.1.d, z.1.b, z.2)) := by rw [List.map_map]; rfl
      rw [← this, List.map_fst_zip (by omega)]
    have e2 : ((ps.zip vals).map fun z => (nk z.1.d, z.1.b, z.2)).map (fun x => x.2.1) = ps.map fun p => p.b := by
      rw [List.map_map]
      have : ((ps.zip vals).map (·.1)).map (fun p => p.b) = (ps.zip vals).map ((fun x : NestedKey × Addr × Value => x.2.1) ∘ fun z => (nk z.1.d, z.1.b, z.2)) := by rw [List.map_map]; rfl
      rw [← this, List.map_fst_zip (by omega)]
    rw [stored_apart _ [] (by rw [List.map_nil, List.nil_append, e1]; exact nd), List.nil_append] at D'
    have hm : (s.heap.objs.size == sysModules) = false := beq_eq_false_iff_ne.mpr (Nat.ne_of_gt I.big)
    exact ⟨.ref s.heap.objs.size, _, I.laid (t' := tk) (fun b u e => k' b u (fun q => nomatch q) e) (Nat.le_refl _) (ns_new hP hw hm D' e1 e2), rfl, q _ (I.hok.fresh (Nat.le_refl _))⟩
section
variable {g : Gb} {k : Nat} {N : List Str} {vis loc : List Nat} {gl : List Str} {sc : Scope} {X : Cx} {ρ : Ro} {μ : Mu} {R : AE} {pos p apos : Pos} {Post : AQ} {a b e o : Expr} {es : List Expr}
/-- dict(pairs), nested keys -/
theorem w_dictN (S : Sit g k N vis loc gl sc X) {i : Nat} (hx : gl[i]? = some ("dict" : Str)) (hm : g.mg "dict" = none) (h : W g X e ρ μ fun d m => ∃ kds : List (D × D), d = .lst (kds.map fun kd => .tup [kd.1, kd.2]) ∧ kds.length ≤ 100000 ∧ (∀ kd, kd ∈ kds → kyD kd.1) ∧ (kds.map fun kd => nk kd.1).Nodup ∧ ∀ q, m q = none → Post (.ptr q) (up m q (.nst (kds.map (·.1)) [])))
    (he : starEach [e] X.env = [(false, eval e X.env)] := by rfl) : W g X (.Call (.Name "dict" p) [e] [] pos) ρ μ Post := by
  refine w_callTy S (cr_dictN S.hP S.hw S.hK S.hu64 S.calm) i hx hm (by decide +kernel) (wa_cons (h.mono fun d m ⟨kds, ed, hl, hk, nd, q⟩ => wa_nil ?_) he) he rfl
  subst ed
  intro H us Q M r kk
  obtain ⟨u, eu, ru⟩ := rps1 r
  subst eu
  obtain ⟨a, zs, ev, t, nn, rr⟩ := ru
  subst ev
  have all : ∀ (kds : List (D × D)) (zs : List V), (∀ kd, kd ∈ kds → kyD kd.1) → Rps g.K m H (kds.map fun kd => D.tup [kd.1, kd.2]) zs → ∃ (ps : List PrN), zs = (ps.map fun p => V.ref p.t) ∧ ps.map PrN.d = kds.map (·.1) ∧ (∀ p, p ∈ ps → SqT g.K H p.t [.ref p.b, p.v] ∧ KyAt g m H p.d p.b) := fun kds => by
    induction kds with
    | nil => intro zs _ r; cases (show zs = [] from r); exact ⟨[], rfl, rfl, fun p hp => by cases hp⟩
    | cons kd kds ih =>
      intro zs hk r
      obtain ⟨v, w, ez, r1, r2⟩ := r
      subst ez
      obtain ⟨ps, e1, e2, e3⟩ := ih w (fun x hx => hk x (List.mem_cons_of_mem _ hx)) r2
      obtain ⟨a, xs, ev, t, rr⟩ := r1
      subst ev
      obtain ⟨v1, v2, ex, q1, q2⟩ := rps2 rr
      subst ex
      obtain ⟨b, eb, ky⟩ := kyD_at (hk kd (List.mem_cons_self ..)) q1
      subst eb
      refine ⟨⟨a, b, v2, kd.1⟩ :: ps, by rw [e1]; rfl, by rw [List.map_cons, List.map_cons, e2], fun p hp => ?_⟩
      rcases List.mem_cons.mp hp with z | z
      · subst z; exact ⟨t.sq, ky⟩
      · exact e3 p z
  obtain ⟨ps, e1, e2, e3⟩ := all kds zs hk rr
  subst e1
  have en : (ps.map fun p => nk p.d) = kds.map fun kd => nk kd.1 := by
    rw [show (ps.map fun p => nk p.d) = (ps.map PrN.d).map nk by rw [List.map_map]; rfl, e2, List.map_map]; rfl
  have hl2 : ps.length = kds.length := by have := congrArg List.length e2; simpa using this
  refine ⟨m, a, ps, rfl, SqL.of t, by omega, e3, by rw [en]; exact nd, fun p hp => ?_⟩
  have G2 : Gs m (up m p (.nst (kds.map (·.1)) [])) H (upd H p (nsO g p (ps.map fun p => nk p.d) (ps.map fun p => p.b))) := gs_alloc hp
  refine kk _ _ ⟨.ptr p, _, G2, mk_alloc M hp ⟨ps.map (fun p => p.b), ?_, by rw [List.length_map]; omega, fun d hd => ?_, ?_⟩, rfl, q p (M.new hp)⟩
  · rw [upd_same, en]
    rw [show (kds.map (·.1)).map nk = kds.map fun kd => nk kd.1 by rw [List.map_map]; rfl]
  · obtain ⟨kd, hkd, e⟩ := List.mem_map.mp hd
    subst e; exact (hk kd hkd).2
  · have rall : ∀ ps : List PrN, (∀ p, p ∈ ps → KyAt g m H p.d p.b) → Rps g.K m H (ps.map PrN.d) ((ps.map fun p => p.b).map V.ref) := fun ps => by
      induction ps with
      | nil => intro _; rfl
      | cons p ps ih => intro h; exact ⟨.ref p.b, _, rfl, (h p (List.mem_cons_self ..)).rp, ih fun x hx => h x (List.mem_cons_of_mem _ hx)⟩
    have z := rps_mono G2 _ _ (rall ps fun p hp => (e3 p hp).2)
    rw [e2] at z
    exact z
/-- a in o, o such a dict -/
theorem wt_nin2 (S : Sit g k N vis loc gl sc X) {PB : Bool → Mu → Prop} (h : W g X a ρ μ fun y m1 => W g X o ρ m1 fun x m2 => ∃ q ks ds, x = .ptr q ∧ m2 q = some (.nst ks ds) ∧ kyD y ∧ PB (decide (nk y ∈ ks.map nk)) m2) (hm : behindInMarks .In o = false := by rfl) : WT g X (.Compare a [.In] [o] pos) ρ μ PB := by
  refine wt_cmp (op_nin S.hP S.hw S.hK S.hu64) hm (h.mono fun y m1 q => q.mono fun x m2 ⟨q, ks, ds, ex, hq, hy, post⟩ => ?_)
  subst ex
  intro H u v Q M ru rv kk
  obtain ⟨b, eu, ky⟩ := kyD_at hy ru
  subst eu
  obtain ⟨kas, ns⟩ := ns_of M hq
  exact ⟨m2, q, b, ks, kas, y, rfl, rv, ns, ky, kk _ _ ⟨.bl _, m2, .refl _ _, M, rfl, _, rfl, post⟩⟩
end
end Mb
set_option maxHeartbeats 4000000
/-! sorted(set(a list of texts)) -/
namespace MbS
open PySem PySem.Spec PyProof.Rows L2
abbrev tk0 (P : Program) (w : World) := PySem.strKind P w
/-- an entry's text -/
def txt (e : Int × Value) : Str := match e.2 with | .str x _ => x | _ => Str.empty
def TxtE (w : World) (e : Int × Value) : Prop := ∃ x tk, e.2 = Value.str x tk ∧ e.1 = hashStr w x
/-- the set of the texts M at a -/
structure SetT (w : World) (h : Heap) (a : Addr) (M : List Str) (o : Obj) (es : Array (Int × Value)) (ep : Nat) (t : SetTable) : Prop where
  ho : h.get? a = some o
  hx : o.ExactSet
  hd : o.data = .set es ep t
  g : ∀ e ∈ es.toList, TxtE w e
  pm : (es.toList.map txt).Perm M
  nd : M.Nodup
  hf : t.fits es.size = true
  hr : Ris t.place.toList
  hl : w.params.followText "set-order" = true ∨ t.led = true
def IsSetT (w : World) (h : Heap) (a : Addr) (M : List Str) : Prop := ∃ o es ep t, SetT w h a M o es ep t
section
variable {P : Program} {w : World} {h h' : Heap} {a : Addr} {M : List Str} {o : Obj} {es : Array (Int × Value)} {ep : Nat} {t : SetTable}
theorem SetT.sz (R : SetT w h a M o es ep t) : es.size = M.length := by rw [← R.pm.length_eq, List.length_map, Array.length_toList]
theorem SetT.els (R : SetT w h a M o es ep t) : ElemsOf (tk0 P w) es.toList := fun e he => by
  obtain ⟨x, tk, h1, h2⟩ := R.g e he
  exact ⟨⟨x, by rw [h1]; exact strKind_is P w x tk, h2⟩, by rw [h1]; rfl⟩
theorem txt_is {e : Int × Value} (g : TxtE w e) (x : Str) : (tk0 P w).is x e.2 = true ↔ txt e = x := by
  obtain ⟨y, tk, h1, _⟩ := g
  unfold txt
  rw [h1]
  show Value.isStrOf x (.str y tk) = true ↔ y = x
  constructor
  · intro z
    obtain ⟨t, e⟩ := Value.isStrOf_shape z
    injection e
  · rintro rfl
    exact strKind_is P w y tk
theorem IsSetT.at (R : IsSetT w h a M) (k : ∀ o, h.get? a = some o → h'.get? a = some o) : IsSetT w h' a M :=
  let ⟨o, es, ep, t, r⟩ := R; ⟨o, es, ep, t, ⟨k o r.ho, r.hx, r.hd, r.g, r.pm, r.nd, r.hf, r.hr, r.hl⟩⟩
theorem setT_fresh (ho : h.get? a = some { cls := .type "set", dict := none, data := .set #[] 0 (.fresh 0 0 (!w.params.followText "set-order")) }) : IsSetT w h a [] :=
  ⟨_, #[], 0, _, ho, ⟨rfl, rfl, rfl⟩, rfl, (fun e he => by simp at he), (by simp), List.nodup_nil, (by rfl), List.Pairwise.nil, by
    show _ ∨ (!w.params.followText "set-order") = true
    cases w.params.followText "set-order" with
    | true => exact .inl rfl
    | false => exact .inr rfl⟩
end
section
variable {P : Program} {w : World} {A : Around} {E : Value → Shared → Prop} {s : Shared} {a : Addr} {M : List Str}
theorem put_tail {gv : Bool → Sem Unit} (hg : ∀ (b : Bool) (s₁ : Shared) (Q' : Unit → Shared → Prop), Q' () s₁ → wpAny (model P w) A (gv b) Q' E s₁) {o : Obj} {es es1 : Array (Int × Value)} {ep : Nat} {t t2 : SetTable} (ho : s.heap.get? a = some o) (hex : o.ExactSet) (hd : o.data = .set es ep t)
    (g1 : ∀ e ∈ es1.toList, TxtE w e) (pm : (es1.toList.map txt).Perm M) (nd : M.Nodup) (hM : M.length < 60) (hf2 : t2.fits es1.size = true) (hr : Ris t2.place.toList) (hl : w.params.followText "set-order" = true ∨ t2.led = true) {wasDummy : Bool} {R : Option Bool → Shared → Prop}
    (hR : ∀ h', Heap.SameBut a s.heap h' → IsSetT w h' a M → R (some true) { s with heap := h' }) :
    wpAny (model P w) A (do
        storeSet a es1 t2
        if (!wasDummy && t2.tooFull) = true then do
            gv (relayAll t2 es1 (SetTable.grown es1.size)).2.2
            storeSet a (relayAll t2 es1 (SetTable.grown es1.size)).1 (relayAll t2 es1 (SetTable.grown es1.size)).2.1
            pure (some true)
          else pure (some true)) R E s := by
  have z1 : es1.size = M.length := by rw [← pm.length_eq, List.length_map, Array.length_toList]
  have small : ∀ {n : Nat}, n < 60 → n ≤ sizeLine := fun {n} h => by rw [sizeLine_eq]; omega
  refine wpAny_bind (m := storeSet _ _ _) (wpAny_storeSet_of ho hd ?_ (small (by omega)))
  have ho1 := store_at (es' := es1) (t' := t2) ho hd
  have sb1 := Heap.SameBut.update s.heap a (Obj.putSet es1 t2)
  split
  · have q1 := relayAll_perm t2 es1 (SetTable.grown es1.size)
    have q2 := relayAll_fits t2 es1 (SetTable.grown es1.size)
    have q3 := relayAll_ris t2 es1 (SetTable.grown es1.size)
    have q4 := relayAll_led t2 es1 (SetTable.grown es1.size)
    generalize relayAll t2 es1 (SetTable.grown es1.size) = Z at q1 q2 q3 q4 ⊢
    obtain ⟨es2, t3, gave⟩ := Z
    dsimp only at q1 q2 q3 q4 ⊢
    have hsz : es2.size = es1.size := by rw [← Array.length_toList, q1.length_eq, Array.length_toList]
    refine wpAny_bind (m := gv _) (hg _ _ _ ?_)
    refine wpAny_bind (m := storeSet _ _ _) (wpAny_storeSet_of ho1 rfl ?_ (small (by omega)))
    have ho2 := store_at (es' := es2) (t' := t3) ho1 rfl
    exact wpAny_pure (hR _ (sb1.trans (Heap.SameBut.update _ a _)) ⟨_, es2, _, t3, ho2, hex, rfl, fun e he => g1 e (q1.mem_iff.mp he), (q1.map txt).trans pm, nd, q2, q3, hl.imp id fun z => by rw [q4]; exact z⟩)
  · exact wpAny_pure (hR _ sb1 ⟨_, es1, _, t2, ho1, hex, rfl, g1, pm, nd, hf2, hr, hl⟩)
def addS (M : List Str) (x : Str) : List Str := if x ∈ M then M else x :: M
theorem put_txt {x : Str} {tk : Tok} {Q : Bool → Shared → Prop} (R0 : IsSetT w s.heap a M) (room : M.length < 50) (hQ : ∀ (b : Bool) h', Heap.SameBut a s.heap h' → IsSetT w h' a (addS M x) → Q b { s with heap := h' }) :
    wpAny (model P w) A (setAddHashed a (.str x tk) ((tk0 P w).hash x)) Q E s := by
  obtain ⟨o, es, ep, t, R⟩ := R0
  have hsz := R.sz
  have hb : es.size < scanBound := by unfold scanBound; omega
  have hkey : (tk0 P w).is x (.str x tk) = true := strKind_is P w x tk
  have hsc : (Value.str x tk).scannable = true := rfl
  have hel : ElemsOf (tk0 P w) es.toList := R.els
  unfold setAddHashed setAddHashedIn
  refine wpAny_holding (wpAny_bind (m := setState _) (wpAny_setState_of R.ho R.hd R.hf ?_))
  dsimp only
  rw [byScan_of hsc hb hel]
  simp only [↓reduceIte]
  unfold setAddByScan
  refine wpAny_bind ?_
  refine wpAny_bind (m := rule _) (wpAny_rule ?_)
  refine wpAny_bind (m := setScan _ _ _ _ _) (wpAny_setScan_of hkey R.ho R.hd R.hf hel ?_)
  cases hfi : List.findIdx? (fun e => (tk0 P w).is x e.2) es.toList with
  | some j =>
    dsimp only
    obtain ⟨hj, pj, _⟩ := List.findIdx?_eq_some_iff_getElem.mp hfi
    have hin : x ∈ M := R.pm.mem_iff.mp (List.mem_map.mpr ⟨es.toList[j], List.getElem_mem hj, (txt_is (P := P) (R.g _ (List.getElem_mem hj)) x).mp pj⟩)
    refine wpAny_pure (wpAny_pure (hQ _ s.heap (Heap.SameBut.refl a s.heap) ?_))
    unfold addS
    rw [if_pos hin]
    exact ⟨o, es, ep, t, R⟩
  | none =>
    dsimp only
    have hnk : x ∉ M := fun z => by
      obtain ⟨e, he, q⟩ := List.mem_map.mp (R.pm.mem_iff.mpr z)
      have c := List.findIdx?_eq_none_iff.mp hfi e he
      rw [(txt_is (P := P) (R.g e he) x).mpr q] at c
      cases c
    have hgw : ∀ (b : Bool) {s₁ : Shared} {Q' : Unit → Shared → Prop}, Q' () s₁ → wpAny (model P w) A (match b with | true => rule "set.scan.the-table-gave-way" | false => pure ()) Q' E s₁ :=
      fun b s₁ Q' q => by
        cases b with
        | true => exact wpAny_rule q
        | false => exact wpAny_pure q
    have q1 := layNew_perm t es ((tk0 P w).hash x) (.str x tk)
    have q2 := layNew_fits t es ((tk0 P w).hash x) (.str x tk)
    have q3 := layNew_ris t es ((tk0 P w).hash x) (.str x tk) R.hr
    have q4 := layNew_led t es ((tk0 P w).hash x) (.str x tk)
    generalize layNew t es ((tk0 P w).hash x) (.str x tk) = Z at q1 q2 q3 q4 ⊢
    obtain ⟨es1, t1, wasDummy, gave⟩ := Z
    dsimp only at q1 q2 q3 q4 ⊢
    rw [Array.toList_push] at q1
    have pc : es1.toList.Perm (((tk0 P w).hash x, Value.str x tk) :: es.toList) := q1.trans (List.perm_append_singleton _ _)
    have pk : (es1.toList.map txt).Perm (x :: M) := (pc.map txt).trans (List.Perm.cons x R.pm)
    have g1 : ∀ e ∈ es1.toList, TxtE w e := fun e he => by
      rcases List.mem_cons.mp (pc.mem_iff.mp he) with z | z
      · rw [z]; exact ⟨x, tk, rfl, rfl⟩
      · exact R.g e z
    have nd1 : (x :: M).Nodup := List.nodup_cons.mpr ⟨hnk, R.nd⟩
    have hm1 : (x :: M).length < 60 := by rw [List.length_cons]; omega
    have hled : w.params.followText "set-order" = true ∨ t1.led = true := R.hl.imp id fun z => by rw [q4]; exact z
    have fin : ∀ h', Heap.SameBut a s.heap h' → IsSetT w h' a (x :: M) → ∀ b, Q b { s with heap := h' } := fun h' sb r b => hQ b h' sb (by unfold addS; rw [if_neg hnk]; exact r)
    refine wpAny_bind (hgw _ ?_)
    split
    · refine wpAny_bind ?_
      rw [hashByValue_scannable 8 hsc]
      refine wpAny_pure ?_
      refine put_tail ?_ R.ho R.hx R.hd g1 pk nd1 hm1 ?_ ?_ ?_ ?_
      · intro b s₁ Q' q
        cases b <;> first | exact wpAny_pure q | exact wpAny_rule q
      · first | (split <;> first | exact q2 | exact SetTable.fits_plain_off q2) | exact q2
      · first | (split <;> exact q3) | exact q3
      · first | (split <;> exact hled) | exact hled
      · intro h' sb r; dsimp only; exact wpAny_pure (fin h' sb r _)
    · refine wpAny_bind (wpAny_pure ?_)
      simp only [↓reduceIte]
      refine put_tail ?_ R.ho R.hx R.hd g1 pk nd1 hm1 q2 q3 hled ?_
      · intro b s₁ Q' q
        cases b <;> first | exact wpAny_pure q | exact wpAny_rule q
      · intro h' sb r; dsimp only; exact wpAny_pure (fin h' sb r _)
end
end MbS
set_option maxHeartbeats 4000000
namespace MbS
open PySem PySem.Spec PyProof.Rows L2
def addAll (M : List Str) : List Str → List Str
  | [] => M
  | x :: xs => addAll (addS M x) xs
theorem addS_len (M : List Str) (x : Str) : (addS M x).length ≤ M.length + 1 := by
  unfold addS
  split
  · exact Nat.le_succ _
  · exact Nat.le_refl _
theorem addS_mem {M : List Str} {x y : Str} : y ∈ addS M x ↔ y ∈ M ∨ y = x := by
  unfold addS
  split
  · rename_i h; exact ⟨.inl, fun z => z.elim id fun e => e ▸ h⟩
  · rw [List.mem_cons]; exact Or.comm
theorem addAll_mem : ∀ {xs M : List Str} {y : Str}, y ∈ addAll M xs ↔ y ∈ M ∨ y ∈ xs
  | [], M, y => by simp [addAll]
  | x :: xs, M, y => by
    simp only [addAll]
    rw [addAll_mem, addS_mem, List.mem_cons, or_assoc]
theorem addAll_take {xs : List Str} {i : Nat} {x : Str} (h : xs[i]? = some x) : ∀ {M : List Str}, addS (addAll M (xs.take i)) x = addAll M (xs.take (i + 1)) := by
  induction xs generalizing i with
  | nil => cases h
  | cons y ys ih =>
    intro M
    cases i with
    | zero => cases h; rfl
    | succ i => simp only [List.take_succ_cons, addAll]; exact ih (by simpa using h)
theorem addAll_len : ∀ (xs M : List Str), (addAll M xs).length ≤ M.length + xs.length
  | [], M => Nat.le_refl _
  | x :: xs, M => by
    have h1 := addAll_len xs (addS M x)
    have h2 := addS_len M x
    simp only [addAll, List.length_cons]
    omega
section
variable {P : Program} {w : World} {A : Around} {E : Value → Shared → Prop} {s : Shared}
theorem upd_txts {I : Addr} {fp wr : List Addr} {G : Array GenState → Array GenState → Prop} {n : Nat} {Pv : Nat → Value → Prop} {St : Nat → Shared → Prop} {R : Result → Shared → Prop}
    (W : WalksS P w A.in1 I fp wr G n Pv St) (S : Addr) (hSf : S ∉ fp) (xs : List Str) (hn : n = xs.length) (hb : xs.length < 50) (hval : ∀ i v, Pv i v → ∃ x t, xs[i]? = some x ∧ v = .str x t) :
    ∀ (k i : Nat) (s : Shared), n - i = k → i ≤ n → St i s → IsSetT w s.heap S (addAll [] (xs.take i)) →
      (∀ s', Moved (S :: wr) G s s' → IsSetT w s'.heap S (addAll [] xs) → R (.ok (.ret .none)) s') →
      codeAny (model P w) A (.builtin "set.update.loop" ⟨[.ref S, .ref I], []⟩) R s := by
  have offw : S ∉ wr := fun h => hSf (W.sub _ h)
  have more : ∀ b ∈ wr, b ∈ S :: wr := fun b hb => List.mem_cons_of_mem _ hb
  intro k
  induction k with
  | zero =>
    intro i s hk hi hst hS hR
    have hin : i = n := by omega
    subst hin
    refine codeAny_builtin F.entry_set_update_loop ?_
    rw [Around.under_plainId F.plain_set_update_loop _]
    show wpAny _ A.in1 (pyNext (.ref I) >>= _) _ _ s
    refine wpAny_bind (m := pyNext _) (W.done s _ _ hst fun s' hm => ?_)
    show wpAny _ A.in1 (ret Value.none) _ _ s'
    have e : xs.take i = xs := List.take_of_length_le (by omega)
    rw [e] at hS
    exact wpAny_pure (hR s' (hm.mono more) (hS.at fun o e => hm.heap S o offw e))
  | succ k ih =>
    intro i s hk hi hst hS hR
    have hlt : i < n := by omega
    refine codeAny_builtin F.entry_set_update_loop ?_
    rw [Around.under_plainId F.plain_set_update_loop _]
    show wpAny _ A.in1 (pyNext (.ref I) >>= _) _ _ s
    refine wpAny_bind (m := pyNext _) (W.item i s _ _ hlt hst fun v s' hP hst' hm => ?_)
    obtain ⟨x, t, hx, rfl⟩ := hval i v hP
    have hS1 : IsSetT w s'.heap S (addAll [] (xs.take i)) := hS.at fun o e => hm.heap S o offw e
    show wpAny _ A.in1 (holding [Value.str x t] (setAdd S (.str x t)) >>= _) _ _ s'
    refine wpAny_bind (wpAny_holding ?_)
    unfold setAdd
    refine wpAny_holding ?_
    refine wpAny_bind ((tk0 P w).pyHash (k := x) (strKind_is _ _ _ _) ?_)
    have hl := addAll_len (xs.take i) []
    rw [List.length_take] at hl
    refine put_txt (s := { s' with toks := s'.toks + 1 }) hS1 (by simp only [List.length_nil] at hl; omega) fun b h' hsb hS2 => ?_
    rw [addAll_take hx] at hS2
    refine wpAny_pure ⟨plainId_quiet F.plain_set_update_loop _, ih (i + 1) _ (by omega) hlt (W.frame _ s' _ _ hst' (Nat.le_succ _) fun b hb o e => ?_) hS2 fun s'' hm2 hS3 => ?_⟩
    · rw [hsb.2 b (fun z : b = S => hSf (by rw [← z]; exact hb))]; exact e
    · refine hR s'' (Moved.trans W.gtrans ((hm.mono more).then_heap (Nat.le_succ _) fun b o hb e => ?_) hm2) hS3
      rw [hsb.2 b (fun z : b = S => hb (by rw [z]; exact List.mem_cons_self))]; exact e
abbrev setO (w : World) : Obj := { cls := .type "set", dict := none, data := .set #[] 0 (.fresh 0 0 (!w.params.followText "set-order")) }
set_option maxHeartbeats 3200000 in
theorem call_set_txts {l : Addr} {items : Array Value} (xs : List Str) {Q : Value → Shared → Prop} (hh : A.handled = none) (hl : s.heap.IsList l items) (hit : StrsAre items.toList xs) (hb : xs.length < 50)
    (h : ∀ (h' : Heap) (tk : Nat), IsSetT w h' s.heap.objs.size (addAll [] xs) → (∀ b o, s.heap.get? b = some o → h'.get? b = some o) → Q (.ref s.heap.objs.size) { s with heap := h', toks := tk }) :
    wpAny (model P w) A (call (.type "set") [.ref l]) Q E s := by
  have hisz : items.size = xs.length := by
    have q := StrsAre.len_eq hit
    rw [Array.length_toList] at q
    exact q.symm ▸ rfl
  obtain ⟨c, tl, hmro⟩ := F.called_set.mro
  have hmade := F.called_set.made
  have hsub := F.called_set.sub
  refine wpAny_call (codeAny_of_tree ?_)
  show wpAny _ _ (callAny (.type "set") _) _ _ _
  refine wpAny_pure ⟨Code.quiet_builtin _ (by decide +kernel), codeAny_builtin F.entry_type_call ?_⟩
  rw [Around.under_plain (weight_type_call_type "set" [.ref l] []) rfl]
  have h1 := F.called_set.notType
  have h2 := F.called_set.canCreate
  have hct := F.typeCall_set_1 (.ref l)
  repeat (any_goals (first | assumption | wp_step))
  refine codeAny_mono (code_set_led1 (.ref l) (E := E) (Q₁ := fun obj s₁ => obj = .ref s.heap.objs.size ∧ s₁ = { s with heap := s.heap.push (setO w) }) ⟨rfl, rfl⟩) fun r s₁ hr => ?_
  cases r with
  | error e => exact hr
  | ok fl =>
    cases fl with
    | ret obj =>
      obtain ⟨rfl, rfl⟩ := hr
      have hS : (s.heap.push (setO w)).get? s.heap.objs.size = some (setO w) := Heap.get?_push_size _ rfl
      have hT : Shared.TypeIs { s with heap := s.heap.push (setO w) } (.ref s.heap.objs.size) "set" := ⟨_, hS, rfl⟩
      have hli := F.called_set.init.lookup
      have hbi := F.called_set.init.bind (.ref s.heap.objs.size)
      repeat (any_goals (first | assumption | wp_step))
      refine codeAny_mono (codeAny_call_builtin (R := wants (fun r s₂ => r = .none ∧ ∃ h' tk, s₂ = { s with heap := h', toks := tk } ∧ IsSetT w h' s.heap.objs.size (addAll [] xs) ∧ (∀ b o, s.heap.get? b = some o → h'.get? b = some o)) E) F.called_set.init.plain F.entry_set_init (check_set_init_1 hT ?_)) fun r₂ s₂ hr₂ => ?_
      · obtain ⟨⟨ocls, odict, odata, oslots⟩, hol, hcl, nl, hdl⟩ := hl
        simp only at hcl hdl
        subst hcl; subst hdl
        have hol' : (s.heap.push (setO w)).get? l = some { cls := .type "list", dict := odict, data := .seq items nl, slots := oslots } := Heap.get?_push_of_some _ hol
        have hsls := F.sub_list_set
        have hslf := F.sub_list_frozenset
        have hne : (Value.type "list" == Value.type "dict") = false := by decide
        have hl1 : (s.heap.push (setO w)).IsList l items := ⟨_, hol', rfl, nl, rfl⟩
        unfold Builtin.«set.__init__» noKeywords Builtin.Frozenset.updateFrom
        generalize hPI : pyIter = PI
        wp_walk
        subst hPI
        refine wpAny_pyIter_list hl1 ?_
        refine wpAny_bind (m := runValue _) (wpAny_runValue ?_)
        have hlS : l < s.heap.objs.size := Heap.lt_size hol
        have hh3 : A.in1.in1.in1.handled = none := by simp [hh]
        have hneI : l ≠ (s.heap.push (setO w)).objs.size := by
          rw [Heap.size_push]; exact Nat.ne_of_lt (Nat.lt_succ_of_lt hlS)
        have hSf : s.heap.objs.size ∉ [(s.heap.push (setO w)).objs.size, l] := by
          rw [Heap.size_push]; simp only [List.mem_cons, List.not_mem_nil, or_false, not_or]
          exact ⟨Nat.ne_of_lt (Nat.lt_succ_self _), Nat.ne_of_gt hlS⟩
        have hval : ∀ (i : Nat) (v : Value), items[i]? = some v → ∃ x t, xs[i]? = some x ∧ v = .str x t := fun i v hv => by
          have hi : i < xs.length := by rw [← hisz]; exact (Array.getElem?_eq_some_iff.mp hv).1
          obtain ⟨t, e⟩ := SS.strs_at hit i v (by rw [Array.getElem?_toList]; exact hv)
          refine ⟨xs[i], t, List.getElem?_eq_getElem hi, ?_⟩
          rw [e, List.getD_eq_getElem?_getD, List.getElem?_eq_getElem hi]
          rfl
        refine upd_txts ((Walks.list hh3 _ l hneI items).toS) s.heap.objs.size hSf xs hisz hb hval (items.size - 0) 0 _ (by omega) (Nat.zero_le _)
          ⟨⟨_, Heap.get?_push_size _ rfl, rfl, rfl⟩, (hl1.push _)⟩ ?hS0 ?hR
        case hS0 =>
          have hget : ((s.heap.push (setO w)).push { cls := .type "list_iterator", data := .fields #[.ref l, .int 0 0] }).get? s.heap.objs.size = some (setO w) := Heap.get?_push_of_some _ hS
          exact setT_fresh hget
        case hR =>
          intro s' hm hS'
          obtain ⟨h', g2, d', tk', os'⟩ := s'
          have eg : g2 = s.gens := hm.gens
          have ed : d' = s.drawn := hm.drawn
          have eo : os' = s.os := hm.os
          subst eg; subst ed; subst eo
          show wpAny _ _ _ _ _ _
          refine wpAny_pure ?_
          show wpAny _ _ (ret Value.none) _ _ _
          refine wpAny_pure ⟨rfl, h', tk', rfl, hS', fun b o e => ?_⟩
          have hb0 : b < s.heap.objs.size := Heap.lt_size e
          have hb1 : b ≠ s.heap.objs.size := Nat.ne_of_lt hb0
          have hb2 : b ≠ (s.heap.push (setO w)).objs.size := by
            rw [Heap.size_push]; exact Nat.ne_of_lt (Nat.lt_succ_of_lt hb0)
          exact hm.heap b o (by simp only [List.mem_cons, List.not_mem_nil, or_false, not_or]; exact ⟨hb1, hb2⟩) (Heap.get?_push_of_some _ (Heap.get?_push_of_some _ e))
      · cases r₂ with
        | error e => exact hr₂
        | ok fl₂ =>
          cases fl₂ with
          | ret r =>
            obtain ⟨rfl, h', tk, rfl, hS', hk'⟩ := hr₂
            repeat (any_goals (first | assumption | wp_step))
            exact h _ _ hS' hk'
          | _ => exact hr₂.elim
    | _ => exact hr.elim
/-- sorted(s), s a set of texts: its members in some order -/
theorem sorted_txts {a : Addr} {M : List Str} {Q : Value → Shared → Prop} (R0 : IsSetT w s.heap a M) (hM : M.length < 50) (hh : A.handled = none)
    (hQ : ∀ s' p (out : Array Value) (c : Nat) (ys : List Str), (∀ b o, s.heap.get? b = some o → s'.heap.get? b = some o) → s'.gens = s.gens → s'.os = s.os → s.heap.objs.size ≤ p → s'.heap.get? p = some (seqObj "list" out c) → StrsAre out.toList ys → ys.Perm M → Q (.ref p) s') :
    wpAny (model P w) A (call (.builtin "sorted") [.ref a]) Q E s := by
  obtain ⟨o, es, ep, t, R⟩ := R0
  have hsz := R.sz
  refine Calls.call_function_entry kind_sorted plain_sorted entry_sorted (args_sorted1 _) ?_
  unfold Builtin.«sorted»
  refine wpAny_bind (m := checkCount "sorted" 1 1 _) (wpAny_pure ?_)
  refine wpAny_bind (m := collect _) (collect_set (A := A.in1) hh ⟨o, R.ho, R.hx.1, R.hd⟩ R.hf (by unfold scanBound; omega) R.hr R.hl fun s1 vs k1 hz g1 o1 pm => ?_)
  have hvl : vs.length = M.length := by rw [pm.length_eq, List.length_map, Array.length_toList, hsz]
  have hI : StrsAre vs (vs.map strOf) := strsAre_map vs fun v hv => by
    obtain ⟨e, he, q⟩ := List.mem_map.mp (pm.mem_iff.mp hv)
    obtain ⟨x, tk, h1, _⟩ := R.g e he
    exact ⟨x, tk, by rw [← q]; exact h1⟩
  have pk : (vs.map strOf).Perm M := by
    have q := pm.map strOf
    rw [List.map_map] at q
    refine q.trans ?_
    have : es.toList.map (strOf ∘ fun x => x.2) = es.toList.map txt := List.map_congr_left fun e he => by
      obtain ⟨x, tk, h1, _⟩ := R.g e he
      show strOf e.2 = txt e
      unfold txt
      rw [h1]
      rfl
    rw [this]; exact R.pm
  refine wpAny_bind (m := newList _) (wpAny_newList ?_ (by rw [hvl, sizeLine_eq]; omega))
  have hoL : (s1.heap.push (seqObj "list" vs.toArray 0)).get? s1.heap.objs.size = some (seqObj "list" vs.toArray 0) := Heap.get?_push_size _ rfl
  refine wpAny_bind (m := holding _ _) (wpAny_holding (wpAny_call_entry slot_list_sort ⟨_, hoL, rfl⟩ entry_list_sort (list_sort_treeK strKind_oneLt hoL hI.keysOf (fun v₁ v₂ rest e => keyKind_strs (by rw [← e]; exact hI)) (by rw [hvl]; omega) fun st' hp hs => ⟨_, rfl, ?_⟩) (args_list_sort _)))
  obtain ⟨ys, a1, a2, a3⟩ := sorted_out_str hI hp hs
  obtain ⟨c, hc⟩ := sortedHeap_at (vs := vs) (out := (arrOf st').map (·.2)) hoL
  refine wpAny_pure ⟨_, rfl, hQ _ s1.heap.objs.size _ c ys (fun b u e => ?_) g1 o1 hz hc a1 (a2.trans pk)⟩
  have q := k1 b u e
  have hlt := Heap.lt_size q
  show (sortedHeap (s1.heap.push (seqObj "list" vs.toArray 0)) s1.heap.objs.size vs _).get? b = some u
  rw [sortedHeap_old (Nat.ne_of_lt hlt) (by rw [size_push']; exact Nat.lt_succ_of_lt hlt)]
  exact Heap.get?_push_of_some _ q
end
end MbS
set_option maxHeartbeats 4000000
namespace Mb
open PySem PySem.Spec L2 PyProof.Rows
def tSortSet (K : PySem.W.Frag) (ta : TE) : TE := fun σ H Q => ta σ H fun v H1 => ∃ (l : Addr) (xs : List Str), v = .ref l ∧ SqL K H1 l (xs.map V.str) ∧ xs.length < 50 ∧
  ∀ (ys : List Str) (p : Addr), (∀ y, y ∈ ys ↔ y ∈ xs) → ys.length ≤ xs.length → H1 p = none → Q (.ref p) (upd H1 p (.lst (ys.map V.str)))
theorem pe_sortSet {X : Cx} {a : Expr} {ta : TE} {p p2 q pos : Pos} (hc : X.calm = true) (hg : Gl X "sorted") (hm : X.mg "sorted" = none) (hg2 : Gl X "set") (hm2 : X.mg "set" = none) (bs : bootBuiltins "sorted" = some (.builtin "sorted")) (bt : bootBuiltins "set" = some (.type "set")) (ha : PE X a ta)
    (na : starEach [a] X.env = (false, eval a X.env) :: starEach [] X.env := by rfl) : PE X (.Call (.Name "sorted" p) [.Call (.Name "set" p2) [a] [] q] [] pos) (tSortSet X.K ta) := by
  refine ⟨fun pins s σ H Q I h => ?_⟩
  refine Call_ (ld_blt I hg hm bs ?_)
  refine PyProof.Rows.callWith_builtin1 (PyProof.Rows.args_cons ?_ rfl) rfl rfl
  refine Call_ (ld_blt I hg2 hm2 bt ?_)
  refine PyProof.Rows.callWith_type1 (PyProof.Rows.args_cons (thn (ha.run pins s σ H _ I h) fun v s1 ⟨x, H1, I1, r1, q1⟩ => PyProof.Rows.args_nil ?_) na) na rfl
  obtain ⟨l, xs, rfl, hq, h50, q1⟩ := q1
  cases r1
  obtain ⟨its, r, pl, hz⟩ := I1.list hq
  refine MbS.call_set_txts xs (I1.ok.hd hc) pl.isList (by simpa using strsAre_of r) h50 fun h' tk hS hk => ?_
  refine PyProof.Rows.args_nil ?_
  have I2 : Inv X pins σ H1 { s1 with heap := h', toks := tk } := I1.kept hk
  have hlen : (MbS.addAll [] xs).length ≤ xs.length := by have := MbS.addAll_len xs []; simpa using this
  refine MbS.sorted_txts (s := { s1 with heap := h', toks := tk }) hS (by omega) (I1.ok.hd hc) fun s' pp out c ys k' g' o' hp hpo hst pm => ?_
  obtain ⟨hh, gg, dd, tt, oo⟩ := s'
  have eo : oo = s1.os := o'
  have eg : gg = s1.gens := g'
  have hyl : ys.length ≤ xs.length := by rw [pm.length_eq]; exact hlen
  have hnone : H1 pp = none := I2.hok.fresh hp
  have J : Inv X pins σ (upd H1 pp (.lst (ys.map V.str))) { s1 with heap := hh, gens := gg, drawn := dd, toks := tt } :=
    Inv.call (s := { s1 with heap := h', toks := tk }) (ch := []) I2 (Un.laid k' hp hnone) (I2.hok.laid k' hp ⟨by rw [List.length_map, sizeLine_eq]; omega, out.toList, c, vals_of_strs hst, hpo⟩) (by show AllBare gg; rw [eg]; exact I2.bare) (fun _ z => nomatch z)
  rw [eo]
  exact ⟨.ref pp, _, J, rfl, q1 ys pp (fun y => by rw [pm.mem_iff, MbS.addAll_mem]; simp) hyl hnone⟩
section
variable {g : Gb} {k : Nat} {N : List Str} {vis loc : List Nat} {gl : List Str} {sc : Scope} {X : Cx} {ρ : Ro} {μ : Mu} {R : AE} {pos p p2 q apos : Pos} {Post : AQ} {a b e o : Expr} {es : List Expr}
/-- sorted(set(xs)), xs a list of texts -/
theorem w_sortSet (S : Sit g k N vis loc gl sc X) {i j : Nat} (hx : gl[i]? = some ("sorted" : Str)) (hm : g.mg "sorted" = none) (hx2 : gl[j]? = some ("set" : Str)) (hm2 : g.mg "set" = none) (h : W g X e ρ μ fun d m => ∃ xs : List Str, d = .lst (xs.map .str) ∧ xs.length < 50 ∧ ∀ ys : List Str, (∀ y, y ∈ ys ↔ y ∈ xs) → ys.length ≤ xs.length → Post (.lst (ys.map .str)) m)
    (he : starEach [e] X.env = (false, eval e X.env) :: starEach [] X.env := by rfl) : W g X (.Call (.Name "sorted" p) [.Call (.Name "set" p2) [e] [] q] [] pos) ρ μ Post := fun σ H at_ => by
  have g1 := S.hg i _ hx
  have g2 := S.hg j _ hx2
  refine E.of (pe_sortSet S.calm g1.1 (by rw [S.hmg]; exact hm) g2.1 (by rw [S.hmg]; exact hm2) (by decide +kernel) (by decide +kernel) (E.pe X e) he) ?_
  refine h.then at_ fun d m u H1 G a1 r1 ⟨xs, ed, hl, q⟩ => ?_
  subst ed
  obtain ⟨l, vs, eu, t, _, rr⟩ := r1
  subst eu
  have ev := rps_strs rr
  subst ev
  exact ⟨l, xs, rfl, by rw [S.hK]; exact SqL.of t, hl, fun ys p hy hyl hp => ⟨.lst (ys.map .str), m, G.trans (gs_new hp), mk_new a1.mu hp, ⟨p, _, rfl, upd_same, a1.mu.new hp, rps_of_strs⟩, q ys hy hyl⟩⟩
end
end Mb
namespace Mb
open PySem PySem.Spec L2
local macro_rules | `(tactic| walk_at "sp_len") => `(tactic| (intro ds μ P h; first | (obtain ⟨e, _⟩ := h; subst e; rfl) | (obtain ⟨_, e, _⟩ := h; subst e; rfl) | (obtain ⟨_, _, e, _⟩ := h; subst e; rfl) | (obtain ⟨_, _, _, e, _⟩ := h; subst e; rfl) | (obtain ⟨_, _, _, _, e, _⟩ := h; subst e; rfl) | (obtain ⟨_, _, _, _, _, e, _⟩ := h; subst e; rfl) | (obtain ⟨_, _, _, _, _, _, e, _⟩ := h; subst e; rfl) | (obtain ⟨_, _, _, _, _, _, _, e, _⟩ := h; subst e; rfl) | (obtain ⟨_, _, _, _, _, _, _, _, e, _⟩ := h; subst e; rfl) | (obtain ⟨_, _, _, _, _, _, _, _, _, e, _⟩ := h; subst e; rfl) | (obtain ⟨_, _, _, _, _, _, _, _, _, _, e, _⟩ := h; subst e; rfl) | (obtain ⟨_, _, _, _, _, _, _, _, _, _, _, e, _⟩ := h; subst e; rfl)))
local macro_rules | `(tactic| walk_at "v") => `(tactic| refine w_v (by assumption) (by with_reducible assumption) (by rfl) (by rfl) ?_)
local macro_rules | `(tactic| walk_at "side") => `(tactic| first | exact ⟨by omega, by omega, by omega⟩ | fail)
local macro_rules | `(tactic| walk_at "side") => `(tactic| first | exact ⟨by omega, by omega⟩ | fail)
local macro_rules | `(tactic| walk_at "side") => `(tactic| first | exact .inr ⟨by omega, by omega⟩ | fail)
local macro_rules | `(tactic| walk_at "side") => `(tactic| first | exact .inl ⟨by omega, by omega⟩ | fail)
local macro_rules | `(tactic| walk_at "side") => `(tactic| first | ((with_reducible refine Nat.le_of_ble_eq_true ?a); (case a => rfl)) | fail)
local macro_rules | `(tactic| walk_at "side") => `(tactic| first | decide | fail)
local macro_rules | `(tactic| walk_at "side") => `(tactic| first | omega | fail)
local macro_rules | `(tactic| walk_at "side") => `(tactic| first | with_reducible rfl | fail)
local macro_rules | `(tactic| walk_at "side") => `(tactic| first | with_reducible assumption | fail)
local macro_rules | `(tactic| walk_at "lf") => `(tactic| first | with_reducible rfl | fail)
local macro_rules | `(tactic| walk_at "lf") => `(tactic| first | ((with_reducible show ∃ i, kD _ = some i ∧ _); first | refine ⟨_, rfl, ?_⟩) | fail)
local macro_rules | `(tactic| walk_at "lf") => `(tactic| first | ((with_reducible show ∃ i, lenD _ _ = some i ∧ _); first | refine ⟨_, rfl, ?_⟩) | fail)
local macro_rules | `(tactic| walk_at "lf") => `(tactic| first | ((with_reducible show ∃ i, _ = D.ptr i ∧ _); first | refine ⟨_, rfl, ?_⟩) | fail)
local macro_rules | `(tactic| walk_at "lf") => `(tactic| first | ((with_reducible show ∃ i, _ = D.tupx i ∧ _); first | refine ⟨_, rfl, ?_⟩) | fail)
local macro_rules | `(tactic| walk_at "lf") => `(tactic| first | ((with_reducible show ∃ i, _ = D.lst i ∧ _); first | refine ⟨_, rfl, ?_⟩) | fail)
local macro_rules | `(tactic| walk_at "lf") => `(tactic| first | ((with_reducible show ∃ i, _ = D.tup i ∧ _); first | refine ⟨_, rfl, ?_⟩) | fail)
local macro_rules | `(tactic| walk_at "lf") => `(tactic| first | ((with_reducible show ∃ i, _ = D.bl i ∧ _); first | refine ⟨_, rfl, ?_⟩) | fail)
local macro_rules | `(tactic| walk_at "lf") => `(tactic| first | ((with_reducible show ∃ i, _ = D.int i ∧ _); first | refine ⟨_, rfl, ?_⟩) | fail)
local macro_rules | `(tactic| walk_at "lf") => `(tactic| first | ((with_reducible show ∃ i j, _ = D.int i ∧ _ = D.int j ∧ _); first | refine ⟨_, _, rfl, rfl, ?_⟩) | fail)
local macro_rules | `(tactic| walk_at "lf") => `(tactic| first | ((with_reducible show ∃ ds d, _ = D.obj _ _ ds ∧ ds[_]? = some d ∧ _); first | refine ⟨_, _, rfl, rfl, ?_⟩) | fail)
local macro_rules | `(tactic| walk_at "lf") => `(tactic| first | ((with_reducible show ∃ bb, InD _ _ _ bb ∧ _); first | with_reducible refine ⟨_, .s, ?_⟩ | refine ⟨_, .l (by rfl) ?_, ?_⟩ | refine ⟨_, .t (by rfl) ?_, ?_⟩ | refine ⟨_, .p (by assumption) (by rfl) ?_, ?_⟩) | fail)
local macro_rules | `(tactic| walk_at "lf") => `(tactic| first | ((with_reducible show ∃ bb, EqD _ _ bb ∧ _); first | with_reducible refine ⟨_, .ii, ?_⟩ | with_reducible refine ⟨_, .ss, ?_⟩ | with_reducible refine ⟨_, .bb, ?_⟩ | with_reducible refine ⟨_, .ns, ?_⟩ | with_reducible refine ⟨_, .sn, ?_⟩ | with_reducible refine ⟨_, .nn, ?_⟩) | fail)
local macro_rules | `(tactic| walk_at "lf") => `(tactic| first | ((with_reducible show ∃ d, SubD _ _ _ d ∧ _); first | refine ⟨_, .p (by assumption) (by rfl), ?_⟩ | refine ⟨_, .t at0, ?_⟩ | refine ⟨_, .l at0, ?_⟩ | refine ⟨_, .t (by rfl), ?_⟩ | refine ⟨_, .l (by rfl), ?_⟩ | refine ⟨_, .x (by rfl), ?_⟩) | fail)
local macro_rules | `(tactic| walk_at "lf") => `(tactic| first | ((with_reducible show ∃ d, PlusD _ _ d ∧ _); first | with_reducible refine ⟨_, .ii, ?_⟩ | refine ⟨_, .ss ?_, ?_⟩ | refine ⟨_, .tt ?_, ?_⟩ | refine ⟨_, .ll ?_, ?_⟩) | fail)
local macro_rules | `(tactic| walk_at "lf") => `(tactic| first | ((with_reducible refine And.intro ?a ?b); (case a => walk_at "side")) | fail)
local macro_rules | `(tactic| walk_at "e") => `(tactic| first | walk_at "lf" | fail)
local macro_rules | `(tactic| walk_at "e") => `(tactic| first | ((with_reducible show (if false = true then _ else _)); rw [if_neg Bool.false_ne_true]) | fail)
local macro_rules | `(tactic| walk_at "e") => `(tactic| first | ((with_reducible show (if true = true then _ else _)); rw [if_pos rfl]) | fail)
local macro_rules | `(tactic| walk_at "e") => `(tactic| first | ((with_reducible show W _ _ (Expr.BoolOp BoolOp.And _ _) _ _ _); refine w_and ?_) | fail)
local macro_rules | `(tactic| walk_at "e") => `(tactic| first | ((with_reducible show W _ _ (Expr.BoolOp BoolOp.Or _ _) _ _ _); refine w_or ?_) | fail)
local macro_rules | `(tactic| walk_at "e") => `(tactic| first | ((with_reducible show W _ _ (Expr.BoolOp _ [_] _) _ _ _); refine w_one ?_) | fail)
local macro_rules | `(tactic| walk_at "e") => `(tactic| first | ((with_reducible show W _ _ (Expr.Name _ _) _ _ _); refine w_gcls (by assumption) (by with_reducible assumption) (by with_reducible assumption) ?_) | fail)
local macro_rules | `(tactic| walk_at "e") => `(tactic| first | ((with_reducible show W _ _ (Expr.Name _ _) _ _ _); refine w_gstr (by assumption) (by with_reducible assumption) (by with_reducible assumption) ?_) | fail)
local macro_rules | `(tactic| walk_at "e") => `(tactic| first | ((with_reducible show W _ _ (Expr.Name _ _) _ _ _); refine w_gint (by assumption) (by with_reducible assumption) (by with_reducible assumption) ?_) | fail)
local macro_rules | `(tactic| walk_at "e") => `(tactic| first | ((with_reducible show W _ _ (Expr.Name _ _) _ _ _); refine w_v (by assumption) (by with_reducible assumption) (by rfl) (by rfl) ?_) | fail)
local macro_rules | `(tactic| walk_at "e") => `(tactic| first | ((with_reducible show W _ _ (Expr.Call (Expr.Name _ _) (_ :: _) [] _) _ _ _); refine w_call (by assumption) (by with_reducible assumption) (by omega) _ (by with_reducible assumption) ?_) | fail)
local macro_rules | `(tactic| walk_at "e") => `(tactic| first | ((with_reducible show WI _ _ _ (Expr.Call (Expr.Name "range" _) _ _ _) _ _ _); refine wi_range (by assumption) _ (by with_reducible assumption) (Fx.free (by assumption) 72 rfl) ?_) | fail)
local macro_rules | `(tactic| walk_at "e") => `(tactic| first | ((with_reducible show W _ _ (Expr.Call (Expr.Name "str" _) _ _ _) _ _ _); refine w_strI (by assumption) _ (by with_reducible assumption) (Fx.free (by assumption) 75 rfl) ?_) | fail)
local macro_rules | `(tactic| walk_at "e") => `(tactic| first | ((with_reducible show W _ _ (Expr.Call (Expr.Name "int" _) _ _ _) _ _ _); refine w_intB (by assumption) _ (by with_reducible assumption) (Fx.free (by assumption) 67 rfl) ?_) | fail)
local macro_rules | `(tactic| walk_at "e") => `(tactic| first | ((with_reducible show W _ _ (Expr.Call (Expr.Name "list" _) _ _ _) _ _ _); refine w_listOf (by assumption) _ (by with_reducible assumption) (Fx.free (by assumption) 70 rfl) ?_) | fail)
local macro_rules | `(tactic| walk_at "e") => `(tactic| first | ((with_reducible show W _ _ (Expr.Call (Expr.Name "all" _) _ _ _) _ _ _); refine w_all (by assumption) _ (by with_reducible assumption) (Fx.free (by assumption) 64 rfl) ?_) | fail)
local macro_rules | `(tactic| walk_at "e") => `(tactic| first | ((with_reducible show W _ _ (Expr.Call (Expr.Name "sum" _) _ _ _) _ _ _); refine w_sum (by assumption) _ (by with_reducible assumption) (Fx.free (by assumption) 76 rfl) ?_) | fail)
local macro_rules | `(tactic| walk_at "e") => `(tactic| first | ((with_reducible show W _ _ (Expr.Call (Expr.Name "len" _) _ _ _) _ _ _); refine w_len (by assumption) _ (by with_reducible assumption) (Fx.free (by assumption) 69 rfl) ?_) | fail)
local macro_rules | `(tactic| walk_at "e") => `(tactic| first | ((with_reducible show WS _ _ (Stmt.Expr (Expr.Call (Expr.Name _ _) _ _ _) _) _ _ _); refine ws_expr ?_) | fail)
local macro_rules | `(tactic| walk_at "e") => `(tactic| first | ((with_reducible show WS _ _ (Stmt.Pass _) _ _ _); refine ws_pass ?_) | fail)
local macro_rules | `(tactic| walk_at "e") => `(tactic| first | with_reducible refine wb_nil ?_ | fail)
local macro_rules | `(tactic| walk_at "e") => `(tactic| first | with_reducible refine wb_cons ?_ | fail)
local macro_rules | `(tactic| walk_at "e") => `(tactic| first | with_reducible refine wb_one ?_ | fail)
local macro_rules | `(tactic| walk_at "e") => `(tactic| first | ((with_reducible show WGs _ _ _ [] _ _ _ _); refine wgs_nil ?_) | fail)
local macro_rules | `(tactic| walk_at "e") => `(tactic| first | ((with_reducible show WGs _ _ _ (_ :: _) _ _ _ _); refine wgs_cons ?_) | fail)
local macro_rules | `(tactic| walk_at "e") => `(tactic| first | ((with_reducible show WG _ _ _ (Expr.Tuple _ _ _) _ _ _ _); refine wg_tup (by assumption) ?_) | fail)
local macro_rules | `(tactic| walk_at "e") => `(tactic| first | ((with_reducible show WG _ _ _ (Expr.Name _ _) _ _ _ _); refine wg_v (by assumption) (by with_reducible assumption) (by rfl) (by rfl) ?_) | fail)
local macro_rules | `(tactic| walk_at "e") => `(tactic| first | ((with_reducible show WS _ _ (Stmt.Assign [Expr.Tuple _ _ _] _ _) _ _ _); refine ws_unp ?_) | fail)
local macro_rules | `(tactic| walk_at "e") => `(tactic| first | ((fail_if_success (with_reducible show WS _ _ (Stmt.Assign _ (Expr.List _ _) _) _ _ _)); (fail_if_success (with_reducible show WS _ _ (Stmt.Assign _ (Expr.Dict _ _ _) _) _ _ _)); (fail_if_success (with_reducible show WS _ _ (Stmt.Assign _ (Expr.ListComp _ _ _ _) _) _ _ _)); (with_reducible show WS _ _ (Stmt.Assign [Expr.Name _ _] _ _) _ _ _); refine ws_v (by assumption) (by with_reducible assumption) (by rfl) ?_) | fail)
local macro_rules | `(tactic| walk_at "e") => `(tactic| first | ((with_reducible show WS _ _ (Stmt.Return (some _) _) _ _ _); refine ws_ret ?_) | fail)
local macro_rules | `(tactic| walk_at "e") => `(tactic| first | ((with_reducible show WW _ _ (Expr.BoolOp BoolOp.Or _ _) _ _ _); refine ww_or ?_) | fail)
local macro_rules | `(tactic| walk_at "e") => `(tactic| first | ((with_reducible show WW _ _ (Expr.BoolOp BoolOp.And _ _) _ _ _); refine ww_and ?_) | fail)
local macro_rules | `(tactic| walk_at "e") => `(tactic| first | ((with_reducible show WW _ _ (Expr.BoolOp BoolOp.Or [_] _) _ _ _); refine ww_or1 ?_) | fail)
local macro_rules | `(tactic| walk_at "e") => `(tactic| first | ((with_reducible show WW _ _ (Expr.BoolOp BoolOp.And [_] _) _ _ _); refine ww_and1 ?_) | fail)
local macro_rules | `(tactic| walk_at "e") => `(tactic| first | ((with_reducible show WT _ _ (Expr.BoolOp _ _ _) _ _ _); refine wt_w ?_) | fail)
local macro_rules | `(tactic| walk_at "e") => `(tactic| first | ((with_reducible show WT _ _ (Expr.UnaryOp UnaryOp.Not _ _) _ _ _); refine wt_not ?_) | fail)
local macro_rules | `(tactic| walk_at "e") => `(tactic| first | ((with_reducible show WT _ _ (Expr.Compare _ [CmpOp.LtE, CmpOp.Lt] _ _) _ _ _); refine wt_chain op_le op_lt ?_) | fail)
local macro_rules | `(tactic| walk_at "e") => `(tactic| first | ((with_reducible show WT _ _ (Expr.Compare _ [CmpOp.LtE, CmpOp.LtE] _ _) _ _ _); refine wt_chain op_le op_le ?_) | fail)
local macro_rules | `(tactic| walk_at "e") => `(tactic| first | ((with_reducible show W _ _ (Expr.Compare _ [CmpOp.In] _ _) _ _ _); refine w_in (by assumption) ?_) | fail)
local macro_rules | `(tactic| walk_at "e") => `(tactic| first | ((with_reducible show WT _ _ (Expr.Compare _ [CmpOp.NotIn] _ _) _ _ _); refine wt_nin (by assumption) ?_) | fail)
local macro_rules | `(tactic| walk_at "e") => `(tactic| first | ((with_reducible show WT _ _ (Expr.Compare _ [CmpOp.In] _ _) _ _ _); refine wt_in (by assumption) ?_) | fail)
local macro_rules | `(tactic| walk_at "e") => `(tactic| first | ((with_reducible show W _ _ (Expr.Compare _ [CmpOp.NotEq] _ _) _ _ _); refine w_neE (by assumption) ?_) | fail)
local macro_rules | `(tactic| walk_at "e") => `(tactic| first | ((with_reducible show W _ _ (Expr.Compare _ [CmpOp.Eq] _ _) _ _ _); refine w_eqE (by assumption) ?_) | fail)
local macro_rules | `(tactic| walk_at "e") => `(tactic| first | ((with_reducible show WT _ _ (Expr.Compare _ [CmpOp.NotEq] _ _) _ _ _); refine wt_neE (by assumption) ?_) | fail)
local macro_rules | `(tactic| walk_at "e") => `(tactic| first | ((with_reducible show WT _ _ (Expr.Compare _ [CmpOp.Eq] _ _) _ _ _); refine wt_eqE (by assumption) ?_) | fail)
local macro_rules | `(tactic| walk_at "e") => `(tactic| first | ((with_reducible show W _ _ (Expr.Compare _ [CmpOp.Is] [Expr.Constant Const.none _ _] _) _ _ _); refine w_isN ?_) | fail)
local macro_rules | `(tactic| walk_at "e") => `(tactic| first | ((with_reducible show WT _ _ (Expr.Compare _ [CmpOp.IsNot] [Expr.Constant Const.none _ _] _) _ _ _); refine wt_notN ?_) | fail)
local macro_rules | `(tactic| walk_at "e") => `(tactic| first | ((with_reducible show WT _ _ (Expr.Compare _ [CmpOp.Is] [Expr.Constant Const.none _ _] _) _ _ _); refine wt_isN ?_) | fail)
local macro_rules | `(tactic| walk_at "e") => `(tactic| first | ((with_reducible show W _ _ (Expr.Compare _ [CmpOp.GtE] _ _) _ _ _); refine w_cmpI op_ge ?_) | fail)
local macro_rules | `(tactic| walk_at "e") => `(tactic| first | ((with_reducible show WT _ _ (Expr.Compare _ [CmpOp.GtE] _ _) _ _ _); refine wt_cmpI op_ge ?_) | fail)
local macro_rules | `(tactic| walk_at "e") => `(tactic| first | ((with_reducible show W _ _ (Expr.Compare _ [CmpOp.LtE] _ _) _ _ _); refine w_cmpI op_le ?_) | fail)
local macro_rules | `(tactic| walk_at "e") => `(tactic| first | ((with_reducible show WT _ _ (Expr.Compare _ [CmpOp.LtE] _ _) _ _ _); refine wt_cmpI op_le ?_) | fail)
local macro_rules | `(tactic| walk_at "e") => `(tactic| first | ((with_reducible show W _ _ (Expr.Compare _ [CmpOp.Lt] _ _) _ _ _); refine w_cmpI op_lt ?_) | fail)
local macro_rules | `(tactic| walk_at "e") => `(tactic| first | ((with_reducible show WT _ _ (Expr.Compare _ [CmpOp.Lt] _ _) _ _ _); refine wt_cmpI op_lt ?_) | fail)
local macro_rules | `(tactic| walk_at "e") => `(tactic| first | ((with_reducible show W _ _ (Expr.Compare _ [CmpOp.Gt] _ _) _ _ _); refine w_cmpI op_gt ?_) | fail)
local macro_rules | `(tactic| walk_at "e") => `(tactic| first | ((with_reducible show WT _ _ (Expr.Compare _ [CmpOp.Gt] _ _) _ _ _); refine wt_cmpI op_gt ?_) | fail)
local macro_rules | `(tactic| walk_at "e") => `(tactic| first | with_reducible refine w_pow ?_ | fail)
local macro_rules | `(tactic| walk_at "e") => `(tactic| first | with_reducible refine w_mul ?_ | fail)
local macro_rules | `(tactic| walk_at "e") => `(tactic| first | with_reducible refine w_div ?_ | fail)
local macro_rules | `(tactic| walk_at "e") => `(tactic| first | with_reducible refine w_mod ?_ | fail)
local macro_rules | `(tactic| walk_at "e") => `(tactic| first | with_reducible refine w_sub ?_ | fail)
local macro_rules | `(tactic| walk_at "e") => `(tactic| first | with_reducible refine wp_nil ?_ | fail)
local macro_rules | `(tactic| walk_at "e") => `(tactic| first | with_reducible refine wp_cons ?_ | fail)
local macro_rules | `(tactic| walk_at "e") => `(tactic| first | with_reducible refine wo_none ?_ | fail)
local macro_rules | `(tactic| walk_at "e") => `(tactic| first | with_reducible refine wo_some ?_ | fail)
local macro_rules | `(tactic| walk_at "e") => `(tactic| first | with_reducible refine wa_nil ?_ | fail)
local macro_rules | `(tactic| walk_at "e") => `(tactic| first | ((with_reducible show WA _ _ (_ :: _) _ _ _); refine wa_cons ?_) | fail)
local macro_rules | `(tactic| walk_at "e") => `(tactic| first | with_reducible refine w_tup ?_ | fail)
local macro_rules | `(tactic| walk_at "e") => `(tactic| first | with_reducible refine w_lst ?_ | fail)
local macro_rules | `(tactic| walk_at "e") => `(tactic| first | ((with_reducible show W _ _ (Expr.Subscript _ _ _) _ _ _); refine w_sub1 (by assumption) ?_) | fail)
local macro_rules | `(tactic| walk_at "e") => `(tactic| first | ((with_reducible show W _ _ (Expr.Subscript _ (Expr.Slice _ _ _ _) _) _ _ _); refine w_slT (by assumption) ?_) | fail)
local macro_rules | `(tactic| walk_at "e") => `(tactic| first | with_reducible refine w_plus (by assumption) ?_ | fail)
local macro_rules | `(tactic| walk_at "e") => `(tactic| first | with_reducible refine w_bl ?_ | fail)
local macro_rules | `(tactic| walk_at "e") => `(tactic| first | with_reducible refine w_non ?_ | fail)
local macro_rules | `(tactic| walk_at "e") => `(tactic| first | with_reducible refine w_str ?_ | fail)
local macro_rules | `(tactic| walk_at "e") => `(tactic| first | with_reducible refine w_int ?_ | fail)
local macro_rules | `(tactic| walk_at "mu") => `(tactic| (funext b; simp only [up, dl]; repeat' split) <;> simp_all)
local macro_rules | `(tactic| walk_at "g") => `(tactic| repeat walk_at "e")
local macro_rules | `(tactic| walk_at "i") => `(tactic| ((refine ws_if ?_); (repeat walk_at "e")))
set_option maxHeartbeats 4000000
section
open PySem PySem.Spec L2
/-- the well: n draws are left -/
def Well (n : Nat) (c : MC) : Prop := ∃ x y z : Int, c = .lst [.int x, .int y, .int z] ∧ 0 ≤ y ∧ y < 2147483648 ∧ 0 ≤ z ∧ z + n ≤ 1000000
def spDraw : ASp := fun ds μ P => ∃ p n c m, ds = [.ptr p, .int m] ∧ μ p = some c ∧ Well (n + 1) c ∧ 0 < m ∧ m < 1000 ∧ ∀ r c', 0 ≤ r → r < m → Well n c' → P (.int r) (up μ p c')
def spCellAt : ASp := fun ds μ P => ∃ ns k : _, ds = [.frl (List.map D.int ns), .int k] ∧ 0 ≤ k ∧ ∀ c, P (.int c) μ
abbrev N_law_cell_at : List Str := ["_law_script", "_law_k"]
abbrev V_law_cell_at : List Nat := [0, 1]
abbrev G_law_cell_at : List Str := ["len"]
theorem wk_law_cell_at {g : Gb} {k : Nat} (Z : Fx g)  : Wlk g k d_law_cell_at N_law_cell_at ["_law_script", "_law_k"] V_law_cell_at V_law_cell_at G_law_cell_at spCellAt := by
  refine ⟨⟨rfl, rfl, rfl, by decide +kernel, rfl, by decide +kernel, by decide +kernel⟩, by decide +kernel, ?_, fun X S ds μ P h => ?_⟩
  · walk_at "sp_len"
  have nn0 : N_law_cell_at[0]? = some ("_law_script" : Str) := rfl
  have nn1 : N_law_cell_at[1]? = some ("_law_k" : Str) := rfl
  have gg0 : G_law_cell_at[0]? = some ("len" : Str) := rfl
  refine wb_cons ?_
  obtain ⟨ns, i, rfl, hi, q⟩ := h
  refine ws_if (wt_cmpI op_lt ?_)
  walk_at "v"
  refine w_len (by assumption) _ (by with_reducible assumption) (Fx.free (by assumption) 69 rfl) ?_
  walk_at "v"
  refine ⟨_, rfl, ⟨_, _, rfl, rfl, ?_⟩⟩
  split
  · refine wb_one (ws_ret ?_)
    refine w_sub1 (by assumption) ?_
    walk_at "v"; walk_at "v"
    rename_i hlt
    have hlt := of_decide_eq_true hlt
    simp only [List.length_map] at hlt
    refine ⟨_, .f (d := .int (ns.getD i.toNat 0)) ?_, q _⟩
    have hn : i.toNat < ns.length := by omega
    unfold atI ixN
    rw [List.length_map, if_pos hi, if_pos hlt]
    show (ns.map D.int)[i.toNat]? = _
    rw [List.getElem?_map, List.getElem?_eq_getElem hn, List.getD_eq_getElem?_getD, List.getElem?_eq_getElem hn]; rfl
  · refine wb_nil (wb_one (ws_ret ?_))
    walk_at "e"
    exact q _
theorem primes5 {i : Int} (h0 : 0 ≤ i) (h1 : i < 5) : ∃ pr, atI [D.int 2147483647, D.int 2147483629, D.int 2147483587, D.int 2147483579, D.int 2147483563] i = some (.int pr) ∧ 0 < pr ∧ pr < 2147483648 := by
  have : i = 0 ∨ i = 1 ∨ i = 2 ∨ i = 3 ∨ i = 4 := by omega
  rcases this with e | e | e | e | e <;> subst e <;> exact ⟨_, rfl, by decide, by decide⟩
abbrev N_law_draw : List Str := ["_law_well_here", "_law_many", "_law_digit", "_law_prime", "_law_number"]
abbrev V_law_draw : List Nat := [0, 1, 2, 3, 4]
abbrev G_law_draw : List Str := []
theorem wk_law_draw {g : Gb} {k : Nat} (Z : Fx g)  : Wlk g k d_law_draw N_law_draw ["_law_well_here", "_law_many"] V_law_draw V_law_draw G_law_draw spDraw := by
  refine ⟨⟨rfl, rfl, rfl, by decide +kernel, rfl, by decide +kernel, by decide +kernel⟩, by decide +kernel, ?_, fun X S ds μ P h => ?_⟩
  · walk_at "sp_len"
  have nn0 : N_law_draw[0]? = some ("_law_well_here" : Str) := rfl
  have nn1 : N_law_draw[1]? = some ("_law_many" : Str) := rfl
  have nn2 : N_law_draw[2]? = some ("_law_digit" : Str) := rfl
  have nn3 : N_law_draw[3]? = some ("_law_prime" : Str) := rfl
  have nn4 : N_law_draw[4]? = some ("_law_number" : Str) := rfl
  refine wb_cons ?_
  obtain ⟨p, n, c, m, rfl, hp, ⟨x, y, z, rfl, y0, y1, z0, zn⟩, m0, m1, q⟩ := h
  walk_at "i"
  split
  · repeat walk_at "e"
    refine ws_setIx ?_
    repeat walk_at "e"
    refine ⟨p, 0, _, 0, rfl, rfl, hp, rfl, ?_⟩
    repeat walk_at "e"
    exact q _ _ (Int.emod_nonneg _ (by omega)) (Int.emod_lt_of_pos _ m0) ⟨_, _, _, rfl, y0, y1, z0, by omega⟩
  · repeat walk_at "e"
    refine ws_setIx ?_
    repeat walk_at "e"
    refine ⟨p, 2, _, 2, rfl, rfl, hp, rfl, ?_⟩
    have hp2 : up μ p (.lst (List.set [D.int x, D.int y, D.int z] 2 (.int (z + 1)))) p = some (.lst [D.int x, D.int y, .int (z + 1)]) := up_same
    repeat walk_at "e"
    obtain ⟨pr, hpr, pr0, pr1⟩ := primes5 (Int.emod_nonneg (z + 1) (by decide : (5 : Int) ≠ 0)) (Int.emod_lt_of_pos (z + 1) (by decide : (0 : Int) < 5))
    refine ⟨_, .l hpr, ?_⟩
    have hm : 0 ≤ y * (2 * (z + 1) + 1) := Int.mul_nonneg y0 (by omega)
    have hm2 : y * (2 * (z + 1) + 1) ≤ 2147483648 * (2 * (z + 1) + 1) := Int.mul_le_mul_of_nonneg_right (by omega) (by omega)
    generalize hA : y * (2 * (z + 1) + 1) = A at hm hm2
    repeat walk_at "e"
    have n0 := Int.emod_nonneg ((y * (2 * (z + 1) + 1) + 7919 * (z + 1) + 1) ^ Int.toNat 5) (by omega : pr ≠ 0)
    have n1 := Int.emod_lt_of_pos ((y * (2 * (z + 1) + 1) + 7919 * (z + 1) + 1) ^ Int.toNat 5) pr0
    generalize (y * (2 * (z + 1) + 1) + 7919 * (z + 1) + 1) ^ Int.toNat 5 % pr = B at n0 n1 ⊢
    refine ⟨.inl ⟨by omega, by omega⟩, ?_⟩
    repeat walk_at "e"
    generalize (B + (z + 1)) * (B / 1009 + 69621) % pr = C
    exact q _ _ (Int.emod_nonneg _ (by omega)) (Int.emod_lt_of_pos _ m0) ⟨_, _, _, rfl, y0, y1, by omega, by omega⟩
def ItemsD (x : D) (es : List D) : Prop := x = .lst es ∨ ∃ z : Str, x = .str z ∧ es = z.cps.toList.map (fun c => .str ⟨#[c]⟩) ∧ z.length ≤ 1000
def spOf : ASp := fun ds μ P => ∃ p n c x es, ds = [.ptr p, x] ∧ μ p = some c ∧ Well (n + 1) c ∧ ItemsD x es ∧ 0 < es.length ∧ es.length < 1000 ∧ ∀ d c', d ∈ es → Well n c' → P d (up μ p c')
theorem ok_law_draw {g : Gb} {k : Nat} (Z : Fx g)  : FnG g (k + 1) "_law_draw" spDraw :=
  Z.fn 61 35 rfl rfl rfl rfl (fun _ _ _ _ _ _ us hl => match us, hl with | [_, _], _ => rfl) (wk_law_draw Z)
theorem at_mem {α : Type} {es : List α} {r : Int} (h0 : 0 ≤ r) (h1 : r < es.length) : ∃ d, atI es r = some d ∧ d ∈ es := by
  have hn : r.toNat < es.length := by omega
  refine ⟨es[r.toNat], ?_, List.getElem_mem hn⟩
  unfold atI
  rw [ix3 h0 h1]
  exact List.getElem?_eq_getElem hn
abbrev N_law_of : List Str := ["_law_well_here", "_law_some"]
abbrev V_law_of : List Nat := [0, 1]
abbrev G_law_of : List Str := ["_law_draw", "len"]
theorem wk_law_of {g : Gb} {k : Nat} (Z : Fx g) {j : Nat} (hj : j ≤ k) (Fd : FnG g j "_law_draw" spDraw) : Wlk g k d_law_of N_law_of ["_law_well_here", "_law_some"] V_law_of V_law_of G_law_of spOf := by
  refine ⟨⟨rfl, rfl, rfl, by decide +kernel, rfl, by decide +kernel, by decide +kernel⟩, by decide +kernel, ?_, fun X S ds μ P h => ?_⟩
  · walk_at "sp_len"
  have nn0 : N_law_of[0]? = some ("_law_well_here" : Str) := rfl
  have nn1 : N_law_of[1]? = some ("_law_some" : Str) := rfl
  have gg0 : G_law_of[0]? = some ("_law_draw" : Str) := rfl
  have gg1 : G_law_of[1]? = some ("len" : Str) := rfl
  refine wb_cons ?_
  obtain ⟨p, n, c, x, es, rfl, hp, w, hx, l0, l1, q⟩ := h
  repeat walk_at "e"
  have hl : lenD μ x = some es.length := by
    rcases hx with e | ⟨z, e, e2, _⟩
    · subst e; rfl
    · subst e e2
      have h3 : z.length ≤ 100000 := by omega
      simp only [lenD, h3, if_true, List.length_map]; rfl
  refine ⟨_, hl, ?_⟩
  repeat walk_at "e"
  refine ⟨p, n, c, _, rfl, hp, w, by omega, by omega, fun r c' r0 r1 w' => ?_⟩
  rcases hx with e | ⟨z, e, e2, h3⟩
  · subst e
    obtain ⟨d, hd, hm⟩ := at_mem r0 r1
    exact ⟨d, .l hd, q d c' hm w'⟩
  · subst e e2
    rw [List.length_map] at r1
    obtain ⟨d, hd, hm⟩ := at_mem r0 r1
    exact ⟨_, .s (by omega) hd, q _ c' (List.mem_map.mpr ⟨d, hm, rfl⟩) w'⟩
theorem ok_law_of {g : Gb} {k : Nat} (Z : Fx g) {j : Nat} (hj : j ≤ k + 1) (Fd : FnG g j "_law_draw" spDraw) : FnG g (k + 1 + 1) "_law_of" spOf :=
  Z.fn 62 36 rfl rfl rfl rfl (fun _ _ _ _ _ _ us hl => match us, hl with | [_, _], _ => rfl) (wk_law_of Z hj Fd)
end
set_option maxHeartbeats 4000000
section
open PySem PySem.Spec L2
def spWell : ASp := fun ds μ P => ∃ x : Int, ds = [.int x] ∧ ∀ p c, μ p = none → Well 1000000 c → P (.ptr p) (up μ p c)
abbrev N_law_well : List Str := ["_law_cell"]
abbrev V_law_well : List Nat := [0]
abbrev G_law_well : List Str := ["int"]
theorem wk_law_well {g : Gb} {k : Nat} (Z : Fx g)  : Wlk g k d_law_well N_law_well ["_law_cell"] V_law_well V_law_well G_law_well spWell := by
  refine ⟨⟨rfl, rfl, rfl, by decide +kernel, rfl, by decide +kernel, by decide +kernel⟩, by decide +kernel, ?_, fun X S ds μ P h => ?_⟩
  · walk_at "sp_len"
  have nn0 : N_law_well[0]? = some ("_law_cell" : Str) := rfl
  have gg0 : G_law_well[0]? = some ("int" : Str) := rfl
  refine wb_cons ?_
  obtain ⟨x, rfl, q⟩ := h
  refine ws_retL ?_
  repeat walk_at "e"
  repeat walk_at "e"
  intro p hp
  exact q p _ hp ⟨_, _, _, rfl, Int.emod_nonneg _ (by decide), Int.lt_trans (Int.emod_lt_of_pos _ (by decide)) (by decide), by decide, by decide⟩
theorem ok_law_well {g : Gb} {k : Nat} (Z : Fx g)  : FnG g (k + 1) "_law_well" spWell :=
  Z.fn 60 34 rfl rfl rfl rfl (fun _ _ _ _ _ _ us hl => match us, hl with | [_], _ => rfl) (wk_law_well Z)
/-- a name that is_name takes -/
def letters : List Nat := (Str.ofString "abcdefghijklmnopqrstuvwxyz").cps.toList
def figures : List Nat := (Str.ofString "0123456789").cps.toList
def okC (c : Nat) : Bool := letters.elem c || figures.elem c
structure OkN (z : Str) : Prop where
  l1 : 1 ≤ z.length
  l2 : z.length ≤ 10
  fst : ∀ c, z.cps.toList[0]? = some c → letters.elem c = true
  all : z.cps.toList.all okC = true
def TakenD (p : Addr) (μ : Mu) (x : D) (ts : List Str) : Prop := x = .lst (ts.map .str) ∨ ∃ q, x = .ptr q ∧ q ≠ p ∧ μ q = some (.lst (ts.map .str))
def spWord : ASp := fun ds μ P => ∃ p n c x ts, ds = [.ptr p, x] ∧ μ p = some c ∧ Well (n + 12) c ∧ TakenD p μ x ts ∧ ts.length ≤ 5 ∧ ∀ nm c', OkN nm → nm ∉ ts → Well n c' → P (.str nm) (up μ p c')
theorem okn_one {ch : Nat} (h : ch ∈ (Str.ofString "abcdefghijklmnopqrstuvwxyz").cps.toList) : OkN ⟨#[ch]⟩ := by
  have h1 : letters.elem ch = true := List.elem_iff.mpr h
  refine ⟨by show 1 ≤ 1; decide, by show 1 ≤ 10; decide, fun c e => ?_, ?_⟩
  · cases (show some ch = some c from e); exact h1
  · show (okC ch && true) = true
    rw [Bool.and_true]; unfold okC; rw [h1]; rfl
theorem Well.weak {n m : Nat} {c : MC} (h : Well n c) (l : m ≤ n) : Well m c := let ⟨x, y, z, e, a, b, d, r⟩ := h; ⟨x, y, z, e, a, b, d, by omega⟩
theorem len_app (a b : Str) : (a ++ b).length = a.length + b.length := by
  show (a.cps ++ b.cps).size = _
  rw [Array.size_append]; rfl
theorem cps_app (a b : Str) : (a ++ b).cps.toList = a.cps.toList ++ b.cps.toList := by
  show (a.cps ++ b.cps).toList = _
  rw [Array.toList_append]
theorem okn_add {nm : Str} {ch : Nat} (ok : OkN nm) (h : ch ∈ ((Str.ofString "abcdefghijklmnopqrstuvwxyz") ++ (Str.ofString "0123456789")).cps.toList) (hl : nm.length ≤ 9) : OkN (nm ++ ⟨#[ch]⟩) := by
  rw [cps_app] at h
  have hc : okC ch = true := by
    unfold okC
    rcases List.mem_append.mp h with h | h
    · have : letters.elem ch = true := List.elem_iff.mpr h
      rw [this]; rfl
    · have : figures.elem ch = true := List.elem_iff.mpr h
      rw [this, Bool.or_true]
  have h1 : (Str.mk #[ch]).length = 1 := rfl
  refine ⟨by rw [len_app]; omega, by rw [len_app]; omega, fun c e => ?_, ?_⟩
  · rw [cps_app] at e
    have l0 : 0 < nm.cps.toList.length := by have := ok.l1; rw [Array.length_toList]; exact this
    rw [List.getElem?_append_left l0] at e
    exact ok.fst c e
  · rw [cps_app, List.all_append, ok.all]
    show (true && (okC ch && true)) = true
    rw [hc]; rfl
theorem words_ok {d : D} (h : d ∈ [D.str "write", D.str "wait", D.str "skip", D.str "else", D.str "or", D.str "lead", D.str "with", D.str "holds", D.str "any", D.str "mark", D.str "stop"]) : ∃ nm, d = .str nm ∧ OkN nm ∧ nm.length ≤ 8 := by
  have ok : ∀ z : Str, (decide (1 ≤ z.length) && (decide (z.length ≤ 8) && ((match z.cps.toList[0]? with | some c => letters.elem c | none => false) && z.cps.toList.all okC))) = true → OkN z ∧ z.length ≤ 8 := fun z hz => by
    obtain ⟨a, hz⟩ := ba hz
    obtain ⟨b, hz⟩ := ba hz
    obtain ⟨c, d⟩ := ba hz
    have b' := of_decide_eq_true b
    exact ⟨⟨of_decide_eq_true a, by omega, fun x e => by rw [e] at c; exact c, d⟩, b'⟩
  simp only [List.mem_cons, List.not_mem_nil, or_false] at h
  rcases h with e | e | e | e | e | e | e | e | e | e | e <;> subst e <;> exact ⟨_, rfl, ok _ (by decide +kernel)⟩
def zN (i : Nat) : Str := ("z" : Str) ++ Str.ofString (toString (0 + (i : Int)))
def okB (z : Str) : Bool := decide (1 ≤ z.length) && (decide (z.length ≤ 8) && ((match z.cps.toList[0]? with | some c => letters.elem c | none => false) && z.cps.toList.all okC))
theorem okB_ok {z : Str} (hz : okB z = true) : OkN z ∧ z.length ≤ 8 := by
  obtain ⟨a, hz⟩ := ba hz
  obtain ⟨b, hz⟩ := ba hz
  obtain ⟨c, d⟩ := ba hz
  have b' := of_decide_eq_true b
  exact ⟨⟨of_decide_eq_true a, by omega, fun x e => by rw [e] at c; exact c, d⟩, b'⟩
theorem zn_okB : ∀ i, i < 6 → (okB (zN i) && decide ((0 + (i : Int)).natAbs.log2 < 1920)) = true := by decide +kernel
theorem zn_ok (i : Nat) (h : i < 6) : OkN (zN i) ∧ (zN i).length ≤ 8 ∧ (0 + (i : Int)).natAbs.log2 < 1920 := by
  obtain ⟨a, b⟩ := ba (zn_okB i h)
  exact ⟨(okB_ok a).1, (okB_ok a).2, of_decide_eq_true b⟩
theorem zn_inj : ∀ i, i < 6 → ∀ j, j < 6 → zN i = zN j → i = j := by decide +kernel
theorem nodup_sub_len {α : Type} [DecidableEq α] : ∀ {l m : List α}, l.Nodup → (∀ x, x ∈ l → x ∈ m) → l.length ≤ m.length
  | [], _, _, _ => Nat.zero_le _
  | x :: l, m, nd, h => by
    have hx := h x List.mem_cons_self
    have nd' := List.nodup_cons.mp nd
    have := nodup_sub_len (m := m.erase x) nd'.2 fun y hy => (List.mem_erase_of_ne (fun e => by subst e; exact nd'.1 hy)).mpr (h y (List.mem_cons_of_mem _ hy))
    rw [List.length_erase_of_mem hx] at this
    have := List.length_pos_of_mem hx
    rw [List.length_cons]; omega
theorem free_name {nm : Str} {ts : List Str} (hl : ts.length ≤ 5) : ∃ z0 zr, ((nm :: (List.range (ts.length + 1)).map zN).filter fun z => decide (z ∉ ts)) = z0 :: zr := by
  cases e : (nm :: (List.range (ts.length + 1)).map zN).filter fun z => decide (z ∉ ts) with
  | cons z0 zr => exact ⟨z0, zr, rfl⟩
  | nil =>
    exfalso
    have hall : ∀ z, z ∈ (List.range (ts.length + 1)).map zN → z ∈ ts := fun z hz => by
      have := List.filter_eq_nil_iff.mp e z (List.mem_cons_of_mem _ hz)
      simpa using this
    have nd : ((List.range (ts.length + 1)).map zN).Nodup := by
      rw [List.nodup_iff_pairwise_ne, List.pairwise_map]
      refine List.Pairwise.imp_of_mem ?_ (List.nodup_iff_pairwise_ne.mp List.nodup_range)
      intro a b ha hb ne e
      have ha := List.mem_range.mp ha
      have hb := List.mem_range.mp hb
      exact ne (zn_inj a (by omega) b (by omega) e)
    have := nodup_sub_len nd hall
    rw [List.length_map, List.length_range] at this
    omega
abbrev N_law_word : List Str := ["_law_well_here", "_law_taken", "_law_signs", "_law_name", "_law_kind", "_law_k", "_law_some", "_law_one"]
abbrev V_law_word : List Nat := [0, 1, 2, 3, 4, 5, 6]
abbrev G_law_word : List Str := ["_law_of", "_law_draw", "range", "len"]
abbrev V_law_word_0 : List Nat := [5]
abbrev L_law_word_0 : List Nat := [5]
abbrev G_law_word_0 : List Str := ["str"]
abbrev O_law_word_0 : List (Str × Nat) := [("_law_k", 5)]
abbrev V_law_word_1 : List Nat := [1, 7]
abbrev L_law_word_1 : List Nat := [7]
abbrev G_law_word_1 : List Str := []
abbrev O_law_word_1 : List (Str × Nat) := [("_law_one", 7)]
theorem wk_law_word {g : Gb} {k : Nat} (Z : Fx g) {j : Nat} (hj : j ≤ k) (Fd : FnG g j "_law_draw" spDraw) (Fo : FnG g j "_law_of" spOf) : Wlk g k d_law_word N_law_word ["_law_well_here", "_law_taken"] V_law_word V_law_word G_law_word spWord := by
  refine ⟨⟨rfl, rfl, rfl, by decide +kernel, rfl, by decide +kernel, by decide +kernel⟩, by decide +kernel, ?_, fun X S ds μ P h => ?_⟩
  · walk_at "sp_len"
  have nn0 : N_law_word[0]? = some ("_law_well_here" : Str) := rfl
  have nn1 : N_law_word[1]? = some ("_law_taken" : Str) := rfl
  have nn2 : N_law_word[2]? = some ("_law_signs" : Str) := rfl
  have nn3 : N_law_word[3]? = some ("_law_name" : Str) := rfl
  have nn4 : N_law_word[4]? = some ("_law_kind" : Str) := rfl
  have nn5 : N_law_word[5]? = some ("_law_k" : Str) := rfl
  have nn6 : N_law_word[6]? = some ("_law_some" : Str) := rfl
  have nn7 : N_law_word[7]? = some ("_law_one" : Str) := rfl
  have gg0 : G_law_word[0]? = some ("_law_of" : Str) := rfl
  have gg1 : G_law_word[1]? = some ("_law_draw" : Str) := rfl
  have gg2 : G_law_word[2]? = some ("range" : Str) := rfl
  have gg3 : G_law_word[3]? = some ("len" : Str) := rfl
  have gc0_0 : G_law_word_0[0]? = some ("str" : Str) := rfl
  refine wb_cons ?_
  obtain ⟨p, n, c, x, ts, rfl, hp, w, hx, hl, q⟩ := h
  repeat walk_at "e"
  refine ⟨p, _, c, _, _, rfl, hp, w, .inr ⟨_, rfl, rfl, by decide +kernel⟩, by decide +kernel, by decide +kernel, fun d c1 hd w1 => ?_⟩
  obtain ⟨ch, hch, ed⟩ := List.mem_map.mp hd
  subst ed
  have hn1 : OkN ⟨#[ch]⟩ := okn_one hch
  repeat walk_at "e"
  have hp1 : up μ p c1 p = some c1 := up_same
  refine ⟨p, _, c1, 6, rfl, hp1, w1, by decide, by decide, fun r c2 r0 r1 w2 => ?_⟩
  rw [up_up]
  have hp2 : up μ p c2 p = some c2 := up_same
  repeat walk_at "e"
  refine ws_join (fun ρ' m' => ∃ nm c3 a4 a5, ρ' = [some (.ptr p), some x, some (.str "abcdefghijklmnopqrstuvwxyz"), some (.str nm), a4, a5, none, none] ∧ m' = up μ p c3 ∧ OkN nm ∧ nm.length ≤ 8 ∧ Well n c3) ?_ ?_
  · walk_at "i"
    split
    · repeat walk_at "e"
      refine ⟨p, _, c2, _, _, rfl, hp2, w2, .inl rfl, by decide, by decide, fun d c3 hd w3 => ?_⟩
      rw [up_up]
      obtain ⟨nm, ed, ok, l8⟩ := words_ok hd
      subst ed
      exact ⟨nm, c3, _, _, rfl, rfl, ok, l8, w3.weak (by omega)⟩
    · repeat walk_at "e"
      walk_at "i"
      split
      · refine wb_one (ws_for S ?_)
        repeat walk_at "e"
        refine ⟨p, _, c2, 8, rfl, hp2, w2, by decide, by decide, fun r3 c3 r30 r31 w3 => ⟨r3, rfl, by omega, by omega, ?_⟩⟩
        rw [up_up]
        refine ⟨fun i ρ' m' => ∃ nm c3 a5, ρ' = [some (.ptr p), some x, some (.str "abcdefghijklmnopqrstuvwxyz"), some (.str nm), some (.int r), a5, none, none] ∧ m' = up μ p c3 ∧ OkN nm ∧ nm.length ≤ 1 + i ∧ Well (n + 9 - i) c3, ?_, ?_, ?_⟩
        · exact ⟨_, _, _, rfl, rfl, hn1, Nat.le_refl _, w3⟩
        · rintro i d ρ' m' hd ⟨nm, c4, a5, rfl, rfl, ok, ln, w4⟩
          have hi : i < r3.toNat := by
            have := (List.getElem?_eq_some_iff.mp hd).1
            rw [rngD_len] at this; exact this
          have hp4 : up μ p c4 p = some c4 := up_same
          repeat walk_at "e"
          · show _ ≤ _; decide +kernel
          repeat walk_at "e"
          refine ⟨p, n + 8 - i, c4, _, _, rfl, hp4, w4.weak (by omega), .inr ⟨_, rfl, rfl, by decide +kernel⟩, by decide +kernel, by decide +kernel, fun d c5 hd w5 => ?_⟩
          obtain ⟨ch, hch, ed⟩ := List.mem_map.mp hd
          subst ed
          rw [up_up]
          have hsz : nm.length + (Str.mk #[ch]).length ≤ 2 + i := by
            have : (Str.mk #[ch]).length = 1 := rfl
            omega
          repeat walk_at "e"
          · omega
          refine ⟨_, c5, _, rfl, rfl, okn_add ok hch (by omega), ?_, w5.weak (by omega)⟩
          rw [len_app]
          have : (Str.mk #[ch]).length = 1 := rfl
          omega
        · rintro ρ' m' ⟨nm, c4, a5, rfl, rfl, ok, ln, w4⟩
          rw [rngD_len] at ln w4
          exact ⟨nm, c4, _, _, rfl, rfl, ok, by omega, w4.weak (by omega)⟩
      · exact wb_nil ⟨_, c2, _, _, rfl, rfl, hn1, by show 1 ≤ 8; decide, w2.weak (by omega)⟩
  · rintro ρ' m' ⟨nm, c3, a4, a5, rfl, rfl, ok, l8, w3⟩
    have hx3 : TakenD p (up μ p c3) x ts := by
      rcases hx with e | ⟨q0, e, ne, hq⟩
      · exact .inl e
      · exact .inr ⟨q0, e, ne, by rw [up_ne ne]; exact hq⟩
    have hlen : lenD (up μ p c3) x = some ts.length := by
      rcases hx3 with e | ⟨q0, e, ne, hq⟩
      · subst e; simp [lenD]
      · subst e; simp [lenD, hq]
    repeat walk_at "e"
    refine w_lcP (vis' := V_law_word_0) (loc' := L_law_word_0) (gl' := G_law_word_0) (by assumption) O_law_word_0 (by decide +kernel) (by decide +kernel) ?_
    repeat walk_at "e"
    refine ⟨_, hlen, ?_⟩
    repeat walk_at "e"
    refine ⟨Nat, List.range ((ts.length : Int) + 1).toNat, _, fun i => .str ("z" ++ toString (0 + (i : Int))), fun _ => true, rfl, by rw [List.length_range]; omega, fun s hs p' acc hp' => ?_, ?_⟩
    · have hs := List.mem_range.mp hs
      refine ⟨?_, fun X' S' => ?_, fun X' S' => ?_, fun _ X' S' => ?_⟩
      rotate_left
      · walk_at "g"
      · exact ⟨rfl, rfl⟩
      · walk_at "g"
        walk_at "g"
        obtain ⟨h1, h2, h3⟩ := zn_ok s (by omega)
        refine ⟨h3, ?_⟩
        refine ⟨_, .ss ?_, rfl, rfl⟩
        have : (("z" : Str) ++ Str.ofString (toString (0 + (s : Int)))).length ≤ 10 := h1.l2
        rw [len_app] at this
        omega
    · refine ⟨_, .ll ?_, ?_⟩
      · rw [List.length_map]
        refine Nat.le_trans (Nat.add_le_add_left (List.length_filter_le _ _) _) ?_
        rw [List.length_range]
        show 1 + _ ≤ _
        omega
      rw [show ((List.range ((ts.length : Int) + 1).toNat).filter fun _ => true) = List.range (ts.length + 1) by rw [List.filter_eq_self.mpr (fun _ _ => rfl)]; congr 1]
      walk_at "g"
      refine w_lcP (vis' := V_law_word_1) (loc' := L_law_word_1) (gl' := G_law_word_1) (by assumption) O_law_word_1 (by decide +kernel) (by decide +kernel) ?_
      refine wi_lst (by assumption) ?_
      walk_at "g"
      have esome : [D.str nm] ++ (List.range (ts.length + 1)).map (fun i : Nat => D.str ("z" ++ toString (0 + (i : Int)))) = (nm :: (List.range (ts.length + 1)).map zN).map D.str := by
        rw [List.map_cons, List.map_map]; rfl
      obtain ⟨z0, zr, ez⟩ := free_name (nm := nm) hl
      have hz0 : z0 ∈ nm :: (List.range (ts.length + 1)).map zN ∧ z0 ∉ ts := by
        have : z0 ∈ (nm :: (List.range (ts.length + 1)).map zN).filter fun z => decide (z ∉ ts) := by rw [ez]; exact List.mem_cons_self
        have := List.mem_filter.mp this
        exact ⟨this.1, of_decide_eq_true this.2⟩
      refine ⟨Str, _, D.str, D.str, fun z => decide (z ∉ ts), esome, ?_, fun s hs p' acc hp' => ?_, ?_⟩
      · rw [List.length_cons, List.length_map, List.length_range]; omega
      · refine ⟨?_, fun X' S' => ?_, fun X' S' => ?_, fun _ X' S' => ?_⟩
        rotate_left
        · walk_at "g"
        · refine wt_nin (by assumption) ?_
          walk_at "g"
          have hb : ∃ bb, InD (up (up μ p c3) p' (.lst acc)) (.str s) x bb ∧ (!bb) = decide (s ∉ ts) := by
            have hf : (ts.map D.str).all flD = true := by rw [List.all_eq_true]; intro d hd; obtain ⟨t, _, e⟩ := List.mem_map.mp hd; subst e; rfl
            have he : inV (scD (.str s)) ((ts.map D.str).map scD) = decide (s ∈ ts) := by rw [List.map_map]; exact inV_strs
            rcases hx3 with e | ⟨q0, e, ne, hq⟩
            · subst e
              exact ⟨_, .l rfl hf, by rw [he, decide_not]⟩
            · subst e
              exact ⟨_, .p (by rw [up_ne (mu_ne hq hp')]; exact hq) rfl hf, by rw [he, decide_not]⟩
          obtain ⟨bb, h1, h2⟩ := hb
          exact ⟨bb, h1, h2, rfl⟩
        · walk_at "g"
      · refine w_int ⟨_, .l (d := .str z0) ?_, ?_⟩
        · rw [ez]; exact at0
        · refine q z0 c3 ?_ hz0.2 w3
          rcases List.mem_cons.mp hz0.1 with e | e
          · subst e; exact ok
          · obtain ⟨i, hi, e⟩ := List.mem_map.mp e
            subst e
            exact (zn_ok i (by have := List.mem_range.mp hi; omega)).1
theorem ok_law_word {g : Gb} {k : Nat} (Z : Fx g) {j : Nat} (hj : j ≤ k + 1) (Fd : FnG g j "_law_draw" spDraw) (Fo : FnG g j "_law_of" spOf) : FnG g (k + 1 + 1) "_law_word" spWord :=
  Z.fn 63 37 rfl rfl rfl rfl (fun _ _ _ _ _ _ us hl => match us, hl with | [_, _], _ => rfl) (wk_law_word Z hj Fd Fo)
end
set_option maxHeartbeats 4000000
section
open PySem PySem.Spec L2
/-! ### statements as the law draws them -/
inductive St where
  | write (c v : Str) | wait (c v : Str) | mark (n : Str) | skip | stop
  | ife (c v : Str) (y n : List St) | whl (c v : Str) (b : List St) | loop (b : List St) | choose (a b : List St)
mutual
def lawD : St → D
  | .write c v => .tup [.str "write", .str c, .str v]
  | .wait c v => .tup [.str "wait", .str c, .str v]
  | .mark n => .tup [.str "mark", .str n]
  | .skip => .tup [.str "skip"]
  | .stop => .tup [.str "stop"]
  | .ife c v y n => .tup [.str "if", .str c, .str v, .tup (lawDs y), .tup (lawDs n)]
  | .whl c v b => .tup [.str "while", .str c, .str v, .tup (lawDs b)]
  | .loop b => .tup [.str "loop", .tup (lawDs b)]
  | .choose a b => .tup [.str "choose", .tup (lawDs a), .tup (lawDs b)]
def lawDs : List St → List D
  | [] => []
  | s :: r => lawD s :: lawDs r
end
theorem lawDs_map : ∀ r : List St, lawDs r = r.map lawD
  | [] => rfl
  | s :: r => by rw [List.map_cons, ← lawDs_map r]; rfl
def rowD (r : List St) : D := .tup (lawDs r)
def partsOf : St → List (List St)
  | .ife _ _ y n => [y, n]
  | .whl _ _ b => [b]
  | .loop b => [b]
  | .choose a b => [a, b]
  | _ => []
mutual
def sz : St → Nat
  | .ife _ _ y n => 1 + (szs y + szs n)
  | .whl _ _ b => 1 + szs b
  | .loop b => 1 + szs b
  | .choose a b => 1 + (szs a + szs b)
  | _ => 1
def szs : List St → Nat
  | [] => 0
  | s :: r => sz s + szs r
end
def spParts : ASp := fun ds μ P => ∃ s, ds = [lawD s] ∧ P (.tup ((partsOf s).map rowD)) μ
abbrev N_law_parts : List Str := ["_law_one"]
abbrev V_law_parts : List Nat := [0]
abbrev G_law_parts : List Str := []
theorem wk_law_parts {g : Gb} {k : Nat} (Z : Fx g)  : Wlk g k d_law_parts N_law_parts ["_law_one"] V_law_parts V_law_parts G_law_parts spParts := by
  refine ⟨⟨rfl, rfl, rfl, by decide +kernel, rfl, by decide +kernel, by decide +kernel⟩, by decide +kernel, ?_, fun X S ds μ P h => ?_⟩
  · walk_at "sp_len"
  have nn0 : N_law_parts[0]? = some ("_law_one" : Str) := rfl
  refine wb_cons ?_
  obtain ⟨s, rfl, q⟩ := h
  refine ws_ret ?_
  have hs : ∃ nm rest, lawD s = .tup (.str nm :: rest) ∧ (vD [.inr "if", .inr "while", .inr "choose", .inr "loop"] [.tup (cutD (.str nm :: rest) (some 3) none), .tup (cutD (.str nm :: rest) (some 3) none), .tup (cutD (.str nm :: rest) (some 1) none), .tup (cutD (.str nm :: rest) (some 1) none)] (.inr nm)).getD (.tup []) = .tup ((partsOf s).map rowD) := by
    cases s <;> exact ⟨_, _, rfl, by with_unfolding_all rfl⟩
  obtain ⟨nm, rest, es, hs⟩ := hs
  rw [es]
  refine w_dget2 (by assumption) rfl ?_
  refine w_disp fun q0 hq0 => ?_
  walk_at "g"
  refine ⟨μ, rfl, hq0, by show List.Nodup [(Sum.inr "if" : Key), .inr "while", .inr "choose", .inr "loop"]; decide +kernel, by show 4 ≤ 15; decide, _, _, rfl, ?_⟩
  walk_at "g"
  show P ((vD [.inr "if", .inr "while", .inr "choose", .inr "loop"] [.tup (cutD (.str nm :: rest) (some 3) none), .tup (cutD (.str nm :: rest) (some 3) none), .tup (cutD (.str nm :: rest) (some 1) none), .tup (cutD (.str nm :: rest) (some 1) none)] (.inr nm)).getD (.tup [])) μ
  rw [hs]; exact q
theorem ok_law_parts {g : Gb} {k : Nat} (Z : Fx g)  : FnG g (k + 1) "_law_parts" spParts :=
  Z.fn 65 39 rfl rfl rfl rfl (fun _ _ _ _ _ _ us hl => match us, hl with | [_], _ => rfl) (wk_law_parts Z)
def spLen (n : Nat) : ASp := fun ds μ P => ∃ r, ds = [rowD r] ∧ szs r < n ∧ P (.int (szs r : Nat)) μ
theorem parts_sz : ∀ (s : St) (r : List St), r ∈ partsOf s → szs r < sz s := fun s r h => by
  cases s <;> simp only [partsOf, List.mem_cons, List.not_mem_nil, or_false] at h <;> (first | (rcases h with h | h <;> subst h) | subst h) <;> simp only [sz] <;> omega
theorem sz_mem : ∀ (r : List St) (s : St), s ∈ r → sz s ≤ szs r
  | [], _, h => by cases h
  | x :: r, s, h => by
    simp only [szs]
    rcases List.mem_cons.mp h with e | e
    · subst e; omega
    · have := sz_mem r s e; omega
theorem sz_pos : ∀ s : St, 1 ≤ sz s := fun s => by cases s <;> simp only [sz] <;> omega
theorem len_szs : ∀ r : List St, r.length ≤ szs r
  | [] => Nat.le_refl _
  | s :: r => by have := len_szs r; have := sz_pos s; simp only [szs, List.length_cons]; omega
theorem len_parts (s : St) : (partsOf s).length ≤ 2 := by cases s <;> show _ ≤ _ <;> simp [partsOf]
theorem sum_parts (s : St) : 1 + ((partsOf s).map fun p => (szs p : Int)).sum = (sz s : Nat) := by
  cases s <;> simp only [partsOf, sz, List.map_cons, List.map_nil, List.sum_cons, List.sum_nil] <;> omega
theorem sum_szs : ∀ r : List St, (((lawDs r).length : Nat) : Int) + (r.map fun s => ((partsOf s).map fun p => (szs p : Int)).sum).sum = (szs r : Nat)
  | [] => rfl
  | s :: r => by
    have h1 := sum_szs r
    have h2 := sum_parts s
    simp only [lawDs, List.length_cons, List.map_cons, List.sum_cons, szs]
    omega
abbrev N_law_length : List Str := ["_law_row_here", "_law_one", "_law_part"]
abbrev V_law_length : List Nat := [0]
abbrev G_law_length : List Str := ["len", "sum"]
abbrev V_law_length_0 : List Nat := [1]
abbrev L_law_length_0 : List Nat := [1]
abbrev G_law_length_0 : List Str := ["sum", "_law_parts"]
abbrev O_law_length_0 : List (Str × Nat) := [("_law_one", 1)]
abbrev V_law_length_1 : List Nat := [2]
abbrev L_law_length_1 : List Nat := [2]
abbrev G_law_length_1 : List Str := ["_law_length"]
abbrev O_law_length_1 : List (Str × Nat) := [("_law_part", 2)]
theorem wk_law_length {g : Gb} {k : Nat} (Z : Fx g) (n : Nat) (hn : n ≤ 100) {j : Nat} (hj : j ≤ k) (Fp : FnG g j "_law_parts" spParts) (Fl : FnG g j "_law_length" (spLen n)) : Wlk g k d_law_length N_law_length ["_law_row_here"] V_law_length V_law_length G_law_length (spLen (n + 1)) := by
  refine ⟨⟨rfl, rfl, rfl, by decide +kernel, rfl, by decide +kernel, by decide +kernel⟩, by decide +kernel, ?_, fun X S ds μ P h => ?_⟩
  · walk_at "sp_len"
  have nn0 : N_law_length[0]? = some ("_law_row_here" : Str) := rfl
  have nn1 : N_law_length[1]? = some ("_law_one" : Str) := rfl
  have nn2 : N_law_length[2]? = some ("_law_part" : Str) := rfl
  have gg0 : G_law_length[0]? = some ("len" : Str) := rfl
  have gg1 : G_law_length[1]? = some ("sum" : Str) := rfl
  have gc0_0 : G_law_length_0[0]? = some ("sum" : Str) := rfl
  have gc0_1 : G_law_length_0[1]? = some ("_law_parts" : Str) := rfl
  have gc1_0 : G_law_length_1[0]? = some ("_law_length" : Str) := rfl
  refine wb_cons ?_
  obtain ⟨r, rfl, hr, q⟩ := h
  refine ws_ret ?_
  walk_at "g"
  refine w_lcM (vis' := V_law_length_0) (loc' := L_law_length_0) (gl' := G_law_length_0) (by assumption) O_law_length_0 (by decide +kernel) (by decide +kernel) ?_
  refine wi_tup (by assumption) ?_
  walk_at "g"
  refine ⟨St, r, lawD, fun s => .int ((partsOf s).map fun p => (szs p : Int)).sum, lawDs_map r, by have := len_szs r; omega, fun s hs p acc hp => ⟨?_, fun X' S' => ?_, fun X' S' => ?_⟩, ?_⟩
  rotate_left
  · walk_at "g"
  · walk_at "g"
    refine w_lcM (vis' := V_law_length_1) (loc' := L_law_length_1) (gl' := G_law_length_1) (by assumption) O_law_length_1 (by decide +kernel) (by decide +kernel) ?_
    refine wi_tup (by assumption) ?_
    walk_at "g"
    refine ⟨s, rfl, _, rfl, List St, partsOf s, rowD, fun p => .int (szs p : Nat), rfl, by have := len_parts s; omega, fun s2 hs2 p2 acc2 hp2 => ⟨?_, fun X' S' => ?_, fun X' S' => ?_⟩, ?_⟩
    rotate_left
    · walk_at "g"
    · walk_at "g"
      have := parts_sz s s2 hs2
      have := sz_mem r s hs
      first | exact ⟨by omega, rfl, rfl⟩ | exact ⟨s2, rfl, by omega, rfl, rfl⟩
    · refine ⟨(partsOf s).map fun p => (szs p : Int), by rw [List.map_map]; rfl, ?_⟩
      walk_at "g"
  · refine ⟨r.map fun s => ((partsOf s).map fun p => (szs p : Int)).sum, by rw [List.map_map]; rfl, ?_⟩
    walk_at "g"
    have e1 : (((lawDs r).length : Nat) : Int) + (r.map fun s => ((partsOf s).map fun p => (szs p : Int)).sum).sum = (szs r : Nat) := sum_szs r
    rw [e1]; exact q
theorem ok_law_length {g : Gb} {k : Nat} (Z : Fx g) (n : Nat) (hn : n ≤ 100) {j : Nat} (hj : j ≤ k) (Fp : FnG g j "_law_parts" spParts) (Fl : FnG g j "_law_length" (spLen n)) : FnG g (k + 1) "_law_length" (spLen (n + 1)) :=
  Z.fn 66 40 rfl rfl rfl rfl (fun _ _ _ _ _ _ us hl => match us, hl with | [_], _ => rfl) (wk_law_length Z n hn hj Fp Fl)
end
set_option maxHeartbeats 4000000
section
open PySem PySem.Spec L2
theorem z_law_length {g : Gb} {k : Nat} (Z : Fx g) : FnG g (k + 1) "_law_length" (fun _ _ _ => False) :=
  Z.fn 66 40 rfl rfl rfl rfl (fun _ _ _ _ _ _ us hl => match us, hl with | [_], _ => rfl) (ps := ["_law_row_here"]) (N := N_law_length) (vis := V_law_length) (loc := V_law_length) (gl := G_law_length) ⟨⟨rfl, rfl, rfl, by decide +kernel, rfl, by decide +kernel, by decide +kernel⟩, by decide +kernel, fun _ _ _ h => h.elim, fun _ _ _ _ _ h => h.elim⟩
theorem len_all {g : Gb} (Z : Fx g) : ∀ (n k : Nat), n ≤ 100 → FnG g (k + 2 + n) "_law_length" (spLen n)
  | 0, k, _ => ((z_law_length (k := k + 1) Z).imp fun ds μ P ⟨r, _, h, _⟩ => absurd h (Nat.not_lt_zero _))
  | n + 1, k, h => ok_law_length (k := k + 2 + n) Z n (by omega) (j := k + 2 + n) (Nat.le_refl _) ((ok_law_parts (k := 0) Z).mono (by omega)) (len_all Z n k (by omega))
abbrev Plan := List (Str × List Str)
def cellD (c : Str × List Str) : D := .tup [.str c.1, .lst (c.2.map .str)]
def planD (pl : Plan) : D := .lst (pl.map cellD)
structure CellOk (c : Str × List Str) : Prop where
  nm : OkN c.1
  l2 : 2 ≤ c.2.length
  l3 : c.2.length ≤ 3
  nd : c.2.Nodup
  ok : ∀ v, v ∈ c.2 → OkN v
structure PlanOk (pl : Plan) : Prop where
  l1 : 1 ≤ pl.length
  l2 : pl.length ≤ 2
  nd : (pl.map (·.1)).Nodup
  ok : ∀ c, c ∈ pl → CellOk c
def spPlan : ASp := fun ds μ P => ∃ p n c, ds = [.ptr p, .int 2] ∧ μ p = some c ∧ Well (n + 120) c ∧ ∀ pl c', PlanOk pl → Well n c' → P (planD pl) (up μ p c')
abbrev N_law_plan : List Str := ["_law_well_here", "_law_most", "_law_found", "_law_k", "_law_values", "_law_j", "_law_cell"]
abbrev V_law_plan : List Nat := [0, 1, 2, 3, 4, 5]
abbrev G_law_plan : List Str := ["range", "_law_draw", "_law_word"]
abbrev V_law_plan_0 : List Nat := [6]
abbrev L_law_plan_0 : List Nat := [6]
abbrev G_law_plan_0 : List Str := []
abbrev O_law_plan_0 : List (Str × Nat) := [("_law_cell", 6)]
theorem wk_law_plan {g : Gb} {k : Nat} (Z : Fx g) {j : Nat} (hj : j ≤ k) (Fd : FnG g j "_law_draw" spDraw) (Fw : FnG g j "_law_word" spWord) : Wlk g k d_law_plan N_law_plan ["_law_well_here", "_law_most"] V_law_plan V_law_plan G_law_plan spPlan := by
  refine ⟨⟨rfl, rfl, rfl, by decide +kernel, rfl, by decide +kernel, by decide +kernel⟩, by decide +kernel, ?_, fun X S ds μ P h => ?_⟩
  · walk_at "sp_len"
  have nn0 : N_law_plan[0]? = some ("_law_well_here" : Str) := rfl
  have nn1 : N_law_plan[1]? = some ("_law_most" : Str) := rfl
  have nn2 : N_law_plan[2]? = some ("_law_found" : Str) := rfl
  have nn3 : N_law_plan[3]? = some ("_law_k" : Str) := rfl
  have nn4 : N_law_plan[4]? = some ("_law_values" : Str) := rfl
  have nn5 : N_law_plan[5]? = some ("_law_j" : Str) := rfl
  have nn6 : N_law_plan[6]? = some ("_law_cell" : Str) := rfl
  have gg0 : G_law_plan[0]? = some ("range" : Str) := rfl
  have gg1 : G_law_plan[1]? = some ("_law_draw" : Str) := rfl
  have gg2 : G_law_plan[2]? = some ("_law_word" : Str) := rfl
  refine wb_cons ?_
  obtain ⟨p, n, c, rfl, hp, w, q⟩ := h
  refine ws_setL (by assumption) 2 rfl rfl ?_
  walk_at "g"
  intro f hf
  have hpf : p ≠ f := mu_ne hp hf
  walk_at "g"
  refine ws_for (by assumption) ?_
  walk_at "g"
  refine ⟨p, n + 119, c, 2, rfl, by rw [up_ne hpf]; exact hp, w, by decide, by decide, fun r c1 r0 r1 w1 => ?_⟩
  walk_at "g"
  have hmu : up (up μ f (.lst [])) p c1 = up (up μ p c1) f (.lst []) := up_comm (Ne.symm hpf)
  rw [hmu]
  refine ⟨fun i ρ' m' => ∃ (pl : Plan) (c2 : MC) (a3 a4 a5 : Option D), ρ' = [some (.ptr p), some (.int 2), some (.ptr f), a3, a4, a5, none] ∧ m' = up (up μ p c2) f (.lst (pl.map cellD)) ∧ Well (n + 119 - 50 * i) c2 ∧ pl.length = i ∧ (pl.map (·.1)).Nodup ∧ ∀ c, c ∈ pl → CellOk c, ?_, ?_, ?_⟩
  · exact ⟨[], c1, _, _, _, rfl, rfl, w1, rfl, List.nodup_nil, fun _ h => by cases h⟩
  · rintro i d ρ' m' hd ⟨pl, c2, a3, a4, a5, rfl, rfl, w2, hl, nd, ok⟩
    have hi : i < (1 + r).toNat := by
      have := (List.getElem?_eq_some_iff.mp hd).1
      rw [rngD_len] at this; exact this
    walk_at "g"
    refine ws_setL (by assumption) 4 rfl rfl ?_
    walk_at "g"
    intro vq hvq
    have hpv : p ≠ vq := by
      intro e; subst e
      rw [up_ne hpf, up_same] at hvq; cases hvq
    have hfv : f ≠ vq := mu_ne up_same hvq
    walk_at "g"
    refine ws_for (by assumption) ?_
    walk_at "g"
    have hpm : up (up (up μ p c2) f (.lst (pl.map cellD))) vq (.lst []) p = some c2 := by rw [up_ne hpv, up_ne hpf, up_same]
    refine ⟨p, n + 118 - 50 * i, c2, 2, rfl, hpm, w2.weak (by omega), by decide, by decide, fun r2 c3 r20 r21 w3 => ?_⟩
    walk_at "g"
    have hmu2 : up (up (up (up μ p c2) f (.lst (pl.map cellD))) vq (.lst [])) p c3 = up (up (up μ p c3) f (.lst (pl.map cellD))) vq (.lst []) := by
      rw [up_comm (Ne.symm hpv), up_comm (Ne.symm hpf), up_up]
    rw [hmu2]
    refine ⟨fun j ρ' m' => ∃ (vs : List Str) (c4 : MC) (a3 a5 : Option D), ρ' = [some (.ptr p), some (.int 2), some (.ptr f), a3, some (.ptr vq), a5, none] ∧ m' = up (up (up μ p c4) f (.lst (pl.map cellD))) vq (.lst (vs.map .str)) ∧ Well (n + 118 - 50 * i - 12 * j) c4 ∧ vs.length = j ∧ vs.Nodup ∧ ∀ v, v ∈ vs → OkN v, ?_, ?_, ?_⟩
    · exact ⟨[], c3, _, _, rfl, rfl, w3, rfl, List.nodup_nil, fun _ h => by cases h⟩
    · rintro j d ρ' m' hd ⟨vs, c4, a3, a5, rfl, rfl, w4, lv, ndv, okv⟩
      have hj : j < (2 + r2).toNat := by
        have := (List.getElem?_eq_some_iff.mp hd).1
        rw [rngD_len] at this; exact this
      walk_at "g"
      refine ws_append (by assumption) rfl ?_
      walk_at "g"
      refine ⟨⟨_, up_same⟩, ?_⟩
      walk_at "g"
      have hp4 : up (up (up μ p c4) f (.lst (pl.map cellD))) vq (.lst (vs.map .str)) p = some c4 := by rw [up_ne hpv, up_ne hpf, up_same]
      refine ⟨p, n + 106 - 50 * i - 12 * j, c4, _, vs, rfl, hp4, w4.weak (by omega), .inr ⟨vq, rfl, Ne.symm hpv, up_same⟩, by omega, fun nm c5 okn fr w5 => ?_⟩
      have hmu3 : up (up (up (up μ p c4) f (.lst (pl.map cellD))) vq (.lst (vs.map .str))) p c5 = up (up (up μ p c5) f (.lst (pl.map cellD))) vq (.lst (vs.map .str)) := by
        rw [up_comm (Ne.symm hpv), up_comm (Ne.symm hpf), up_up]
      rw [hmu3]
      refine ⟨_, up_same, by rw [List.length_map]; omega, ?_⟩
      refine ⟨vs ++ [nm], c5, _, _, rfl, by rw [up_up, List.map_append]; rfl, w5.weak (by omega), by simp [lv], ?_, ?_⟩
      · rw [List.nodup_append]
        exact ⟨ndv, by simp, fun a ha b hb => by
          have : b = nm := by simpa using hb
          subst this
          exact fun e => fr (e ▸ ha)⟩
      · intro v hv
        rcases List.mem_append.mp hv with h | h
        · exact okv v h
        · have : v = nm := by simpa using h
          subst this; exact okn
    · rintro ρ' m' ⟨vs, c4, a3, a5, rfl, rfl, w4, lv, ndv, okv⟩
      rw [rngD_len] at lv w4
      refine wb_frz 4 rfl up_same rfl ?_
      have hvn : up (up μ p c4) f (.lst (pl.map cellD)) vq = none := by rw [up_ne (Ne.symm hfv)]; rw [up_ne (Ne.symm hfv), up_ne (Ne.symm hpv)] at hvq; rw [up_ne (Ne.symm hpv)]; exact hvq
      rw [dl_up hvn]
      walk_at "g"
      refine ws_append (by assumption) rfl ?_
      walk_at "g"
      refine ⟨⟨_, up_same⟩, ?_⟩
      walk_at "g"
      refine w_lcMp (l := f) (ds0 := pl.map cellD) (vis' := V_law_plan_0) (loc' := L_law_plan_0) (gl' := G_law_plan_0) (by assumption) O_law_plan_0 (by decide +kernel) (by decide +kernel) ?_
      walk_at "g"
      refine ⟨up_same, Str × List Str, pl, cellD, fun c => .str c.1, rfl, by omega, fun s hs p2 acc hp2 => ⟨?_, fun X' S' => ?_, fun X' S' => ?_⟩, ?_⟩
      rotate_left
      · walk_at "g"
      · walk_at "g"
      walk_at "g"
      have hp4 : up (up μ p c4) f (.lst (pl.map cellD)) p = some c4 := by rw [up_ne hpf, up_same]
      refine ⟨p, n + 70 - 50 * i, c4, _, pl.map (·.1), rfl, hp4, w4.weak (by omega), .inl (by rw [List.map_map]; rfl), by rw [List.length_map]; omega, fun nm c5 okn fr w5 => ?_⟩
      have hmu3 : up (up (up μ p c4) f (.lst (pl.map cellD))) p c5 = up (up μ p c5) f (.lst (pl.map cellD)) := by
        rw [up_comm (Ne.symm hpf), up_up]
      rw [hmu3]
      walk_at "g"
      refine ⟨_, up_same, by rw [List.length_map]; omega, ?_⟩
      refine ⟨pl ++ [(nm, vs)], c5, _, _, _, rfl, by rw [up_up, List.map_append]; rfl, w5.weak (by omega), by simp [hl], ?_, ?_⟩
      · rw [List.map_append, List.nodup_append]
        exact ⟨nd, by simp, fun a ha b hb => by
          have : b = nm := by simpa using hb
          subst this
          exact fun e => fr (e ▸ ha)⟩
      · intro c hc
        rcases List.mem_append.mp hc with h | h
        · exact ok c h
        · have : c = (nm, vs) := by simpa using h
          subst this
          exact ⟨okn, by show 2 ≤ vs.length; omega, by show vs.length ≤ 3; omega, ndv, okv⟩
  · rintro ρ' m' ⟨pl, c2, a3, a4, a5, rfl, rfl, w2, hl, nd, ok⟩
    rw [rngD_len] at hl w2
    refine wb_frz 2 rfl up_same rfl ?_
    rw [dl_up (by rw [up_ne (Ne.symm hpf)]; exact hf)]
    walk_at "g"
    exact q pl c2 ⟨by omega, by omega, nd, ok⟩ (w2.weak (by omega))
end
set_option maxHeartbeats 4000000
section
open PySem PySem.Spec L2
def CV (pl : Plan) (c v : Str) : Prop := ∃ vs, (c, vs) ∈ pl ∧ v ∈ vs
mutual
def stOk (pl : Plan) (ms : List Str) : St → Prop
  | .write c v => CV pl c v
  | .wait c v => CV pl c v
  | .mark n => n ∈ ms
  | .skip => True
  | .stop => True
  | .ife c v y n => CV pl c v ∧ rowOk pl ms y ∧ rowOk pl ms n
  | .whl c v b => CV pl c v ∧ rowOk pl ms b
  | .loop b => rowOk pl ms b
  | .choose a b => rowOk pl ms a ∧ rowOk pl ms b
def rowOk (pl : Plan) (ms : List Str) : List St → Prop
  | [] => True
  | s :: r => stOk pl ms s ∧ rowOk pl ms r
end
theorem rowOk_app {pl : Plan} {ms : List Str} : ∀ {a b : List St}, rowOk pl ms a → rowOk pl ms b → rowOk pl ms (a ++ b)
  | [], _, _, h => h
  | s :: r, _, h, k => ⟨h.1, rowOk_app h.2 k⟩
theorem szs_app : ∀ a b : List St, szs (a ++ b) = szs a + szs b
  | [], b => by simp [szs]
  | s :: r, b => by rw [List.cons_append]; simp only [szs, szs_app r b]; omega
def marksD (ms : List Str) : D := .lst (ms.map .str)
structure MsOk (ms : List Str) : Prop where
  l1 : 1 ≤ ms.length
  l2 : ms.length ≤ 2
  ok : ∀ z, z ∈ ms → OkN z
def costR : Nat → Nat
  | 0 => 0
  | n + 1 => (n + 1) * (8 + 2 * costR n)
def costS (n : Nat) : Nat := 8 + 2 * costR (n - 1)
def spStmt (n : Nat) : ASp := fun ds μ P => ∃ p b c pl ms size, ds = [.ptr p, planD pl, marksD ms, .int (size : Nat)] ∧ μ p = some c ∧ Well (b + costS n) c ∧ PlanOk pl ∧ MsOk ms ∧ 1 ≤ size ∧ size ≤ n ∧ n ≤ 9 ∧ ∀ s c', stOk pl ms s → sz s ≤ size → Well b c' → P (lawD s) (up μ p c')
def spRow (n : Nat) : ASp := fun ds μ P => ∃ p b c pl ms size, ds = [.ptr p, planD pl, marksD ms, .int (size : Nat)] ∧ μ p = some c ∧ Well (b + costR n) c ∧ PlanOk pl ∧ MsOk ms ∧ size ≤ n ∧ n ≤ 9 ∧ ∀ r c', rowOk pl ms r → szs r ≤ size → Well b c' → P (rowD r) (up μ p c')
abbrev N_law_row : List Str := ["_law_well_here", "_law_plan_here", "_law_marks_here", "_law_size", "_law_found", "_law_k", "_law_free"]
abbrev V_law_row : List Nat := [0, 1, 2, 3, 4, 5, 6]
abbrev G_law_row : List Str := ["range", "_law_length", "_law_statement"]
theorem wk_law_row {g : Gb} {k : Nat} (Z : Fx g) (n : Nat) {j : Nat} (hj : j ≤ k) (Fl : FnG g j "_law_length" (spLen 20)) (Fs : FnG g j "_law_statement" (spStmt n)) : Wlk g k d_law_row N_law_row ["_law_well_here", "_law_plan_here", "_law_marks_here", "_law_size"] V_law_row V_law_row G_law_row (spRow n) := by
  refine ⟨⟨rfl, rfl, rfl, by decide +kernel, rfl, by decide +kernel, by decide +kernel⟩, by decide +kernel, ?_, fun X S ds μ P h => ?_⟩
  · walk_at "sp_len"
  have nn0 : N_law_row[0]? = some ("_law_well_here" : Str) := rfl
  have nn1 : N_law_row[1]? = some ("_law_plan_here" : Str) := rfl
  have nn2 : N_law_row[2]? = some ("_law_marks_here" : Str) := rfl
  have nn3 : N_law_row[3]? = some ("_law_size" : Str) := rfl
  have nn4 : N_law_row[4]? = some ("_law_found" : Str) := rfl
  have nn5 : N_law_row[5]? = some ("_law_k" : Str) := rfl
  have nn6 : N_law_row[6]? = some ("_law_free" : Str) := rfl
  have gg0 : G_law_row[0]? = some ("range" : Str) := rfl
  have gg1 : G_law_row[1]? = some ("_law_length" : Str) := rfl
  have gg2 : G_law_row[2]? = some ("_law_statement" : Str) := rfl
  refine wb_cons ?_
  obtain ⟨p, b, c, pl, ms, size, rfl, hp, w, pok, mok, hs, hn, q⟩ := h
  walk_at "g"
  refine ws_for (by assumption) ?_
  walk_at "g"
  refine ⟨fun i ρ' m' => ∃ (r : List St) (c2 : MC) (a5 a6 : Option D), ρ' = [some (.ptr p), some (planD pl), some (marksD ms), some (.int (size : Nat)), some (rowD r), a5, a6] ∧ m' = up μ p c2 ∧ Well (b + (n - i) * costS n) c2 ∧ rowOk pl ms r ∧ szs r ≤ size, ?_, ?_, ?_⟩
  · refine ⟨[], c, _, _, rfl, (up_id hp).symm, ?_, True.intro, Nat.zero_le _⟩
    have : costR n = n * costS n := by cases n with | zero => simp [costR] | succ n => rfl
    rw [this] at w; exact w
  · rintro i d ρ' m' hd ⟨r, c2, a5, a6, rfl, rfl, w2, rok, rsz⟩
    have hi : i < size := by
      have := (List.getElem?_eq_some_iff.mp hd).1
      rw [rngD_len] at this; omega
    walk_at "g"
    refine ⟨r, rfl, by omega, ?_⟩
    walk_at "g"
    have e1 : (size : Int) - (szs r : Nat) = ((size - szs r : Nat) : Int) := by omega
    rw [e1]
    walk_at "i"
    split
    · rename_i hpos
      have hpos := of_decide_eq_true hpos
      walk_at "g"
      have hc : (n - i) * costS n = (n - (i + 1)) * costS n + costS n := by
        have : n - i = (n - (i + 1)) + 1 := by omega
        rw [this, Nat.add_mul, Nat.one_mul]
      refine ⟨p, b + (n - (i + 1)) * costS n, c2, pl, ms, size - szs r, rfl, up_same, w2.weak (by omega), pok, mok, by omega, by omega, hn, fun s c3 sok ssz w3 => ?_⟩
      rw [up_up]
      walk_at "g"
      · have := len_szs r
        show (lawDs r).length + 1 ≤ 100000
        rw [lawDs_map, List.length_map]; omega
      walk_at "g"
      have er : D.tup (lawDs r ++ [lawD s]) = rowD (r ++ [s]) := by rw [rowD, lawDs_map, lawDs_map, List.map_append]; rfl
      rw [er]
      refine ⟨r ++ [s], c3, _, _, rfl, rfl, w3, rowOk_app rok ⟨sok, True.intro⟩, ?_⟩
      rw [szs_app]; simp only [szs]; omega
    · walk_at "g"
      refine ⟨r, c2, _, _, rfl, rfl, w2.weak ?_, rok, rsz⟩
      have : (n - (i + 1)) * costS n ≤ (n - i) * costS n := Nat.mul_le_mul_right _ (by omega)
      omega
  · rintro ρ' m' ⟨r, c2, a5, a6, rfl, rfl, w2, rok, rsz⟩
    walk_at "g"
    exact q r c2 rok rsz (w2.weak (by omega))
abbrev N_law_statement : List Str := ["_law_well_here", "_law_plan_here", "_law_marks_here", "_law_size", "_law_cell", "_law_values", "_law_value", "_law_kind", "_law_one", "_law_other", "_law_yes", "_law_first_here"]
abbrev V_law_statement : List Nat := [0, 1, 2, 3, 4, 5, 6, 7, 8, 9, 10, 11]
abbrev G_law_statement : List Str := ["_law_of", "_law_draw", "int", "_law_row"]
theorem wk_law_statement {g : Gb} {k : Nat} (Z : Fx g) (n : Nat) {j : Nat} (hj : j ≤ k) (Fd : FnG g j "_law_draw" spDraw) (Fo : FnG g j "_law_of" spOf) (Fr : FnG g j "_law_row" (spRow (n - 1))) : Wlk g k d_law_statement N_law_statement ["_law_well_here", "_law_plan_here", "_law_marks_here", "_law_size"] V_law_statement V_law_statement G_law_statement (spStmt n) := by
  refine ⟨⟨rfl, rfl, rfl, by decide +kernel, rfl, by decide +kernel, by decide +kernel⟩, by decide +kernel, ?_, fun X S ds μ P h => ?_⟩
  · walk_at "sp_len"
  have nn0 : N_law_statement[0]? = some ("_law_well_here" : Str) := rfl
  have nn1 : N_law_statement[1]? = some ("_law_plan_here" : Str) := rfl
  have nn2 : N_law_statement[2]? = some ("_law_marks_here" : Str) := rfl
  have nn3 : N_law_statement[3]? = some ("_law_size" : Str) := rfl
  have nn4 : N_law_statement[4]? = some ("_law_cell" : Str) := rfl
  have nn5 : N_law_statement[5]? = some ("_law_values" : Str) := rfl
  have nn6 : N_law_statement[6]? = some ("_law_value" : Str) := rfl
  have nn7 : N_law_statement[7]? = some ("_law_kind" : Str) := rfl
  have nn8 : N_law_statement[8]? = some ("_law_one" : Str) := rfl
  have nn9 : N_law_statement[9]? = some ("_law_other" : Str) := rfl
  have nn10 : N_law_statement[10]? = some ("_law_yes" : Str) := rfl
  have nn11 : N_law_statement[11]? = some ("_law_first_here" : Str) := rfl
  have gg0 : G_law_statement[0]? = some ("_law_of" : Str) := rfl
  have gg1 : G_law_statement[1]? = some ("_law_draw" : Str) := rfl
  have gg2 : G_law_statement[2]? = some ("int" : Str) := rfl
  have gg3 : G_law_statement[3]? = some ("_law_row" : Str) := rfl
  refine wb_cons ?_
  obtain ⟨p, b, c, pl, ms, size, rfl, hp, w, pok, mok, s1, sn, hn, q⟩ := h
  have hcost : costS n = 8 + 2 * costR (n - 1) := rfl
  rw [hcost] at w
  walk_at "g"
  refine ⟨p, b + 7 + 2 * costR (n - 1), c, _, _, rfl, hp, w.weak (by omega), .inl rfl, by rw [List.length_map]; exact pok.l1, by rw [List.length_map]; have := pok.l2; omega, fun d c1 hd w1 => ?_⟩
  obtain ⟨⟨cn, vs⟩, hcv, ed⟩ := List.mem_map.mp hd
  subst ed
  have cok := pok.ok _ hcv
  have hvl2 : 2 ≤ vs.length := cok.l2
  have hvl3 : vs.length ≤ 3 := cok.l3
  walk_at "g"
  refine ⟨p, b + 6 + 2 * costR (n - 1), c1, _, _, rfl, up_same, w1.weak (by omega), .inl rfl, by rw [List.length_map]; show 0 < vs.length; omega, by rw [List.length_map]; show vs.length < 1000; omega, fun d c2 hd2 w2 => ?_⟩
  rw [up_up]
  obtain ⟨v, hv, ed⟩ := List.mem_map.mp hd2
  subst ed
  have cv : CV pl cn v := ⟨vs, hcv, hv⟩
  walk_at "g"
  have hk : ∃ m : Int, atI [D.int 9, D.int 14] (if decide (1 < (size : Int)) then 1 else 0) = some (.int m) ∧ ((m = 9 ∧ size = 1) ∨ (m = 14 ∧ 2 ≤ size)) := by
    by_cases h : 1 < (size : Int)
    · rw [decide_eq_true h]; exact ⟨14, rfl, .inr ⟨rfl, by omega⟩⟩
    · rw [decide_eq_false h]; exact ⟨9, rfl, .inl ⟨rfl, by omega⟩⟩
  obtain ⟨m, hm, hm2⟩ := hk
  refine ⟨_, .l hm, ?_⟩
  walk_at "g"
  refine ⟨p, b + 5 + 2 * costR (n - 1), c2, m, rfl, up_same, w2.weak (by omega), by omega, by omega, fun kd c3 k0 k1 w3 => ?_⟩
  rw [up_up]
  walk_at "g"
  walk_at "i"
  split
  · walk_at "g"
    exact q (.write cn v) c3 cv (by simp only [sz]; omega) (w3.weak (by omega))
  walk_at "g"
  walk_at "i"
  split
  · walk_at "g"
    exact q (.wait cn v) c3 cv (by simp only [sz]; omega) (w3.weak (by omega))
  walk_at "g"
  walk_at "i"
  split
  · walk_at "g"
    refine ⟨p, b + 4 + 2 * costR (n - 1), c3, _, _, rfl, up_same, w3.weak (by omega), .inl rfl, by rw [List.length_map]; exact mok.l1, by rw [List.length_map]; have := mok.l2; omega, fun d c4 hd4 w4 => ?_⟩
    rw [up_up]
    obtain ⟨mk, hmk, ed⟩ := List.mem_map.mp hd4
    subst ed
    walk_at "g"
    exact q (.mark mk) c4 hmk (by simp only [sz]; omega) (w4.weak (by omega))
  walk_at "g"
  walk_at "i"
  split
  · walk_at "g"
    refine ⟨p, b + 4 + 2 * costR (n - 1), c3, 3, rfl, up_same, w3.weak (by omega), by decide, by decide, fun r4 c4 r40 r41 w4 => ?_⟩
    rw [up_up]
    have : r4 = 0 ∨ r4 = 1 ∨ r4 = 2 := by omega
    rcases this with e | e | e <;> subst e
    · walk_at "g"; exact q .skip c4 True.intro (by simp only [sz]; omega) (w4.weak (by omega))
    · walk_at "g"; exact q .skip c4 True.intro (by simp only [sz]; omega) (w4.weak (by omega))
    · walk_at "g"; exact q .stop c4 True.intro (by simp only [sz]; omega) (w4.weak (by omega))
  walk_at "g"
  rename_i k9
  have k9 : ¬ kd < 9 := of_decide_eq_false (by simpa using k9)
  have s2 : 2 ≤ size := by omega
  refine ⟨p, b + 4 + 2 * costR (n - 1), c3, size, rfl, up_same, w3.weak (by omega), by omega, by omega, fun one c4 o0 o1 w4 => ?_⟩
  rw [up_up]
  obtain ⟨on, rfl⟩ := Int.eq_ofNat_of_zero_le o0
  walk_at "g"
  refine ⟨p, b + 3 + 2 * costR (n - 1), c4, _, rfl, up_same, w4.weak (by omega), by omega, by omega, fun other c5 t0 t1 w5 => ?_⟩
  rw [up_up]
  obtain ⟨tn, rfl⟩ := Int.eq_ofNat_of_zero_le t0
  walk_at "g"
  have hsz0 : 1 + (on + tn) ≤ size := by omega
  refine ws_ifc (fun t m => m = up μ p c5 ∧ t = decide (kd = 9 ∨ kd = 12)) ?_ ?_ ?_
  · walk_at "g"
    split
    · rename_i h9
      have h9 := of_decide_eq_true h9
      exact ⟨rfl, (decide_eq_true (.inl h9)).symm⟩
    · rename_i h9
      have h9 : ¬ kd = 9 := of_decide_eq_false (by simpa using h9)
      walk_at "g"
      simp [h9]
  · rintro _ ⟨rfl, _⟩
    walk_at "g"
    refine ⟨p, b + 3 + costR (n - 1), c5, pl, ms, on, rfl, up_same, w5.weak (by omega), pok, mok, by omega, by omega, fun y c6 yok ysz w6 => ?_⟩
    rw [up_up]
    walk_at "g"
    refine ⟨p, b + 3, c6, pl, ms, tn, rfl, up_same, w6.weak (by omega), pok, mok, by omega, by omega, fun nn c7 nok nsz w7 => ?_⟩
    rw [up_up]
    walk_at "g"
    exact q (.ife cn v y nn) c7 ⟨cv, yok, nok⟩ (by simp only [sz]; omega) (w7.weak (by omega))
  rintro _ ⟨rfl, hne⟩
  walk_at "g"
  walk_at "i"
  split
  · walk_at "g"
    refine ⟨p, b + 3, c5, pl, ms, on, rfl, up_same, w5.weak (by omega), pok, mok, by omega, by omega, fun y c6 yok ysz w6 => ?_⟩
    rw [up_up]
    walk_at "g"
    exact q (.whl cn v y) c6 ⟨cv, yok⟩ (by simp only [sz]; omega) (w6.weak (by omega))
  walk_at "g"
  walk_at "i"
  split
  · walk_at "g"
    refine ⟨p, b + 3, c5, pl, ms, on, rfl, up_same, w5.weak (by omega), pok, mok, by omega, by omega, fun y c6 yok ysz w6 => ?_⟩
    rw [up_up]
    walk_at "g"
    exact q (.loop y) c6 yok (by simp only [sz]; omega) (w6.weak (by omega))
  walk_at "g"
  refine ⟨p, b + 3 + costR (n - 1), c5, pl, ms, on, rfl, up_same, w5.weak (by omega), pok, mok, by omega, by omega, fun y c6 yok ysz w6 => ?_⟩
  rw [up_up]
  walk_at "g"
  refine ⟨p, b + 3, c6, pl, ms, tn, rfl, up_same, w6.weak (by omega), pok, mok, by omega, by omega, fun nn c7 nok nsz w7 => ?_⟩
  rw [up_up]
  walk_at "g"
  exact q (.choose y nn) c7 ⟨yok, nok⟩ (by simp only [sz]; omega) (w7.weak (by omega))
theorem ok_law_row {g : Gb} {k : Nat} (Z : Fx g) (n : Nat) {j : Nat} (hj : j ≤ k) (Fl : FnG g j "_law_length" (spLen 20)) (Fs : FnG g j "_law_statement" (spStmt n)) : FnG g (k + 1) "_law_row" (spRow n) :=
  Z.fn 68 42 rfl rfl rfl rfl (fun _ _ _ _ _ _ us hl => match us, hl with | [_, _, _, _], _ => rfl) (wk_law_row Z n hj Fl Fs)
theorem ok_law_statement {g : Gb} {k : Nat} (Z : Fx g) (n : Nat) {j : Nat} (hj : j ≤ k) (Fd : FnG g j "_law_draw" spDraw) (Fo : FnG g j "_law_of" spOf) (Fr : FnG g j "_law_row" (spRow (n - 1))) : FnG g (k + 1) "_law_statement" (spStmt n) :=
  Z.fn 67 41 rfl rfl rfl rfl (fun _ _ _ _ _ _ us hl => match us, hl with | [_, _, _, _], _ => rfl) (wk_law_statement Z n hj Fd Fo Fr)
end
set_option maxHeartbeats 4000000
section
open PySem PySem.Spec L2
def spIsName : ASp := fun ds μ P => ∃ z, ds = [.str z] ∧ OkN z ∧ P (.bl true) μ
theorem lenD_str {μ : Mu} {z : Str} (h : z.length ≤ 100000) : lenD μ (.str z) = some z.length := if_pos h
abbrev N_is_name : List Str := ["text", "sign"]
abbrev V_is_name : List Nat := [0]
abbrev G_is_name : List Str := ["len", "LONGEST", "LETTERS", "all"]
abbrev V_is_name_0 : List Nat := [1]
abbrev L_is_name_0 : List Nat := [1]
abbrev G_is_name_0 : List Str := ["LETTERS", "FIGURES"]
abbrev O_is_name_0 : List (Str × Nat) := [("sign", 1)]
theorem wk_is_name {g : Gb} {k : Nat} (Z : Fx g)  : Wlk g k d_is_name N_is_name ["text"] V_is_name V_is_name G_is_name spIsName := by
  refine ⟨⟨rfl, rfl, rfl, by decide +kernel, rfl, by decide +kernel, by decide +kernel⟩, by decide +kernel, ?_, fun X S ds μ P h => ?_⟩
  · walk_at "sp_len"
  have nn0 : N_is_name[0]? = some ("text" : Str) := rfl
  have nn1 : N_is_name[1]? = some ("sign" : Str) := rfl
  have gg0 : G_is_name[0]? = some ("len" : Str) := rfl
  have gg1 : G_is_name[1]? = some ("LONGEST" : Str) := rfl
  have gg2 : G_is_name[2]? = some ("LETTERS" : Str) := rfl
  have gg3 : G_is_name[3]? = some ("all" : Str) := rfl
  have gm1 : ∃ t, g.mg "LONGEST" = some (.int 10 t) := Z.int 81
  have gm2 : ∃ t, g.mg "LETTERS" = some (.str "abcdefghijklmnopqrstuvwxyz" t) := Z.str 79
  have gm5 : ∃ t, g.mg "FIGURES" = some (.str "0123456789" t) := Z.str 80
  have gc0_0 : G_is_name_0[0]? = some ("LETTERS" : Str) := rfl
  have gc0_1 : G_is_name_0[1]? = some ("FIGURES" : Str) := rfl
  refine wb_cons ?_
  obtain ⟨z, rfl, ok, q⟩ := h
  obtain ⟨c, r, hz⟩ : ∃ c r, z.cps.toList = c :: r := by
    cases e : z.cps.toList with
    | nil => have := ok.l1; have h2 : z.cps.toList.length = z.length := Array.length_toList; rw [e] at h2; simp at h2; omega
    | cons c r => exact ⟨c, r, rfl⟩
  have hf := ok.fst c (by rw [hz]; rfl)
  refine ws_ifc (fun t m => t = false ∧ m = μ) ?_ ?_ ?_
  · walk_at "g"
    have h1 := ok.l1
    have h2 := ok.l2
    have e1 : decide ((1 : Int) ≤ (z.length : Nat)) = true := decide_eq_true (by omega)
    have e2 : decide (((z.length : Nat) : Int) ≤ 10) = true := decide_eq_true (by omega)
    refine ⟨z.length, lenD_str (by omega), 1, _, rfl, rfl, ?_⟩
    rw [if_pos e1]
    walk_at "g"
    rw [e2]
    rw [if_neg (by decide)]
    walk_at "g"
    refine ⟨_, .s (c := c) (by omega) (by rw [hz]; exact at0), ?_⟩
    walk_at "g"
    have : decide (c ∈ (Str.ofString "abcdefghijklmnopqrstuvwxyz").cps.toList) = true := decide_eq_true (List.elem_iff.mp hf)
    rw [this]; exact ⟨rfl, rfl⟩
  · rintro m ⟨e, _⟩; cases e
  · rintro m ⟨_, rfl⟩
    walk_at "g"
    refine w_lcM (vis' := V_is_name_0) (loc' := L_is_name_0) (gl' := G_is_name_0) (by assumption) O_is_name_0 (by decide +kernel) (by decide +kernel) ?_
    refine wi_str ?_
    walk_at "g"
    refine ⟨z, rfl, Nat, z.cps.toList, fun c => .str ⟨#[c]⟩, fun c => .bl (okC c), rfl, by rw [Array.length_toList]; have := ok.l2; show z.length ≤ _; omega, fun s hs p acc hp => ⟨?_, fun X' S' => ?_, fun X' S' => ?_⟩, ?_⟩
    rotate_left
    · walk_at "g"
    · walk_at "g"
      have e1 : decide (s ∈ (Str.ofString "abcdefghijklmnopqrstuvwxyz").cps.toList) = letters.elem s := by
        unfold letters; rw [Bool.eq_iff_iff, decide_eq_true_eq, List.elem_iff]
      have e2 : decide (s ∈ (Str.ofString "0123456789").cps.toList) = figures.elem s := by
        unfold figures; rw [Bool.eq_iff_iff, decide_eq_true_eq, List.elem_iff]
      rw [e1]
      cases hl : letters.elem s with
      | true => exact ⟨congrArg D.bl (show true = okC s by unfold okC; rw [hl]; rfl), rfl⟩
      | false =>
        walk_at "g"
        rw [e2]
        exact ⟨congrArg D.bl (show figures.elem s = okC s by unfold okC; rw [hl]; rfl), rfl⟩
    · refine ⟨z.cps.toList.map okC, by rw [List.map_map]; rfl, ?_⟩
      walk_at "g"
      have : (z.cps.toList.map okC).all id = true := by rw [List.all_map]; exact ok.all
      rw [this]; exact q
theorem ok_is_name {g : Gb} {k : Nat} (Z : Fx g)  : FnG g (k + 1) "is_name" spIsName :=
  Z.fn 0 0 rfl rfl rfl rfl (fun _ _ _ _ _ _ us hl => match us, hl with | [_], _ => rfl) (wk_is_name Z)
def StrsD (x : D) (ts : List Str) : Prop := x = .lst (ts.map .str)
/-- texts that are names: nothing happens -/
def spAskedNames : ASp := fun ds μ P => ∃ ts, ds = [.lst (List.map D.str ts)] ∧ ts.length ≤ 1000 ∧ (∀ t, t ∈ ts → OkN t) ∧ P .non μ
abbrev N_asked_names : List Str := ["texts", "text"]
abbrev V_asked_names : List Nat := [0, 1]
abbrev G_asked_names : List Str := ["is_name", "NoName"]
theorem wk_asked_names {g : Gb} {k : Nat} (Z : Fx g) {j : Nat} (hj : j ≤ k) (Fi : FnG g j "is_name" spIsName) : Wlk g k d_asked_names N_asked_names ["texts"] V_asked_names V_asked_names G_asked_names spAskedNames := by
  refine ⟨⟨rfl, rfl, rfl, by decide +kernel, rfl, by decide +kernel, by decide +kernel⟩, by decide +kernel, ?_, fun X S ds μ P h => ?_⟩
  · walk_at "sp_len"
  have nn0 : N_asked_names[0]? = some ("texts" : Str) := rfl
  have nn1 : N_asked_names[1]? = some ("text" : Str) := rfl
  have gg0 : G_asked_names[0]? = some ("is_name" : Str) := rfl
  have gg1 : G_asked_names[1]? = some ("NoName" : Str) := rfl
  refine wb_cons ?_
  obtain ⟨ts, rfl, hl, ok, q⟩ := h
  refine ws_for (by assumption) ?_
  refine wi_lst (by assumption) ?_
  walk_at "g"
  refine ⟨fun i ρ' m' => ∃ a1, ρ' = [some (.lst (ts.map .str)), a1] ∧ m' = μ, ⟨_, rfl, rfl⟩, ?_, ?_⟩
  · rintro i d ρ' m' hd ⟨a1, rfl, rfl⟩
    rw [List.getElem?_map] at hd
    cases ht : ts[i]? with
    | none => rw [ht] at hd; cases hd
    | some t =>
      rw [ht] at hd
      cases hd
      walk_at "g"
      refine ws_if (wt_not (wt_val ?_))
      walk_at "g"
      refine ⟨t, rfl, ok t (List.mem_of_getElem? ht), ?_⟩
      exact ⟨true, rfl, wb_nil ⟨_, rfl, rfl⟩⟩
  · rintro ρ' m' ⟨a1, rfl, rfl⟩
    walk_at "g"
    exact q
theorem ok_asked_names {g : Gb} {k : Nat} (Z : Fx g) {j : Nat} (hj : j ≤ k) (Fi : FnG g j "is_name" spIsName) : FnG g (k + 1) "asked_names" spAskedNames :=
  Z.fn 1 1 rfl rfl rfl rfl (fun _ _ _ _ _ _ us hl => match us, hl with | [_], _ => rfl) (wk_asked_names Z hj Fi)
theorem dicD_ptr {m : Mu} {q : Addr} {ks : List Key} {ds : List D} (h : m q = some (.dic ks ds)) : dicD m (.ptr q) = some (ks, ds) := by simp [dicD, h]
theorem vD_none {ks : List Key} {ds : List D} {kk : Key} (h : ∀ z, z ∈ ks → ¬ z = kk) : vD ks ds kk = none := by
  unfold vD
  rw [List.find?_eq_none.mpr fun z hz => by simpa using h z.1 (List.of_mem_zip hz).1]
  rfl
theorem putD_none {ks : List Key} {ds : List D} {kk : Key} {d : D} (h : ∀ z, z ∈ ks → ¬ z = kk) : putD ks ds kk d = (ks ++ [kk], ds ++ [d]) := by
  unfold putD
  rw [List.findIdx?_eq_none_iff.mpr fun z hz => by simpa using h z hz]
def spAskedOnce : ASp := fun ds μ P => ∃ ts, ds = [.lst (List.map D.str ts)] ∧ ts.length ≤ 1000 ∧ ts.Nodup ∧ P .non μ
abbrev N_asked_once : List Str := ["names", "seen", "name"]
abbrev V_asked_once : List Nat := [0, 1, 2]
abbrev G_asked_once : List Str := ["Twice"]
theorem wk_asked_once {g : Gb} {k : Nat} (Z : Fx g)  : Wlk g k d_asked_once N_asked_once ["names"] V_asked_once V_asked_once G_asked_once spAskedOnce := by
  refine ⟨⟨rfl, rfl, rfl, by decide +kernel, rfl, by decide +kernel, by decide +kernel⟩, by decide +kernel, ?_, fun X S ds μ P h => ?_⟩
  · walk_at "sp_len"
  have nn0 : N_asked_once[0]? = some ("names" : Str) := rfl
  have nn1 : N_asked_once[1]? = some ("seen" : Str) := rfl
  have nn2 : N_asked_once[2]? = some ("name" : Str) := rfl
  have gg0 : G_asked_once[0]? = some ("Twice" : Str) := rfl
  refine wb_cons ?_
  obtain ⟨ts, rfl, hl, nd, q⟩ := h
  refine ws_setD (by assumption) 1 rfl rfl fun f hf => ?_
  refine wb_cons (ws_for (by assumption) ?_)
  refine wi_lst (by assumption) ?_
  walk_at "g"
  refine ⟨fun i ρ' m' => ∃ a2, ρ' = [some (.lst (ts.map .str)), some (.ptr f), a2] ∧ m' = up μ f (.dic ((ts.take i).map .inr) ((ts.take i).map fun _ => .bl true)), ⟨_, rfl, rfl⟩, ?_, ?_⟩
  · rintro i d ρ' m' hd ⟨a1, rfl, rfl⟩
    rw [List.getElem?_map] at hd
    cases ht : ts[i]? with
    | none => rw [ht] at hd; cases hd
    | some t =>
      rw [ht] at hd
      cases hd
      have hi : i < ts.length := (List.getElem?_eq_some_iff.mp ht).1
      have hnew : ∀ z, z ∈ (ts.take i).map (Sum.inr : Str → Key) → ¬ z = .inr t := fun z hz e => by
        obtain ⟨y, hy, ey⟩ := List.mem_map.mp hz
        rw [← ey] at e
        cases e
        obtain ⟨n, hn, en⟩ := List.mem_iff_getElem.mp hy
        rw [List.length_take] at hn
        rw [List.getElem_take] at en
        have e2 := (List.getElem?_eq_some_iff.mp ht).2
        have := (List.getElem_inj nd).mp (en.trans e2.symm)
        omega
      walk_at "g"
      refine ws_if (wt_din (by assumption) ?_)
      walk_at "g"
      refine ⟨_, _, .inr t, dicD_ptr up_same, rfl, ?_⟩
      rw [vD_none hnew, if_neg (by exact Bool.false_ne_true)]
      walk_at "g"
      refine ws_dput (by assumption) ?_
      walk_at "g"
      refine ⟨f, _, _, .inr t, rfl, up_same, rfl, ?_, by rw [List.length_map, List.length_take]; omega, ?_⟩
      · exact (List.nodup_iff_pairwise_ne.mpr (List.pairwise_map.mpr ((List.nodup_iff_pairwise_ne.mp (nd.sublist (List.take_sublist i ts))).imp fun h e => h (Sum.inr.inj e))))
      · rw [putD_none hnew, up_up]
        refine ⟨_, rfl, ?_⟩
        rw [List.take_succ, ht]
        simp only [Option.toList_some, List.map_append, List.map_cons, List.map_nil]
  · rintro ρ' m' ⟨a1, rfl, rfl⟩
    refine wb_frz (c := .dic _ _) (d := .dic _ _) 1 rfl up_same rfl ?_
    rw [dl_up hf]
    walk_at "g"
    exact q
theorem ok_asked_once {g : Gb} {k : Nat} (Z : Fx g)  : FnG g (k + 1) "asked_once" spAskedOnce :=
  Z.fn 2 2 rfl rfl rfl rfl (fun _ _ _ _ _ _ us hl => match us, hl with | [_], _ => rfl) (wk_asked_once Z)
end
set_option maxHeartbeats 4000000
section
open PySem PySem.Spec L2
/-! ### the program's objects -/
def nameOf : St → Str
  | .write _ _ => "Write"
  | .wait _ _ => "Wait"
  | .mark _ => "Mark"
  | .skip => "Skip"
  | .stop => "Stop"
  | .ife _ _ _ _ => "If"
  | .whl _ _ _ => "While"
  | .loop _ => "Loop"
  | .choose _ _ => "Choose"
mutual
def prS (g : Gb) : St → D
  | .write c v => .obj (cl g "Write") ["cell", "value"] [.str c, .str v]
  | .wait c v => .obj (cl g "Wait") ["cell", "value"] [.str c, .str v]
  | .mark n => .obj (cl g "Mark") ["name"] [.str n]
  | .skip => .obj (cl g "Skip") [] []
  | .stop => .obj (cl g "Stop") [] []
  | .ife c v y n => .obj (cl g "If") ["cell", "value", "yes", "no"] [.str c, .str v, .obj (cl g "Program") ["row"] [.tup (prSs g y)], .obj (cl g "Program") ["row"] [.tup (prSs g n)]]
  | .whl c v b => .obj (cl g "While") ["cell", "value", "body"] [.str c, .str v, .obj (cl g "Program") ["row"] [.tup (prSs g b)]]
  | .loop b => .obj (cl g "Loop") ["body"] [.obj (cl g "Program") ["row"] [.tup (prSs g b)]]
  | .choose a b => .obj (cl g "Choose") ["one", "other"] [.obj (cl g "Program") ["row"] [.tup (prSs g a)], .obj (cl g "Program") ["row"] [.tup (prSs g b)]]
def prSs (g : Gb) : List St → List D
  | [] => []
  | s :: r => prS g s :: prSs g r
end
def prog (g : Gb) (r : List St) : D := .obj (cl g "Program") ["row"] [.tup (prSs g r)]
theorem prSs_map (g : Gb) : ∀ r : List St, prSs g r = r.map (prS g)
  | [] => rfl
  | s :: r => by rw [List.map_cons, ← prSs_map g r]; rfl
def spPartsN (g : Gb) (nm : Str) : ASp := fun ds μ P => ∃ s, ds = [prS g s] ∧ nameOf s = nm ∧ P (.lst ((partsOf s).map (prog g))) μ
abbrev N_Statement_parts : List Str := ["self"]
abbrev V_Statement_parts : List Nat := [0]
abbrev G_Statement_parts : List Str := []
theorem wk_Statement_parts {g : Gb} {k : Nat} (Z : Fx g) (nm : Str) (h0 : ∀ s, nameOf s = nm → partsOf s = []) : Wlk g k d_Statement_parts N_Statement_parts ["self"] V_Statement_parts V_Statement_parts G_Statement_parts (spPartsN g nm) := by
  refine ⟨⟨rfl, rfl, rfl, by decide +kernel, rfl, by decide +kernel, by decide +kernel⟩, by decide +kernel, ?_, fun X S ds μ P h => ?_⟩
  · walk_at "sp_len"
  have nn0 : N_Statement_parts[0]? = some ("self" : Str) := rfl
  refine wb_cons ?_
  obtain ⟨s, rfl, e, q⟩ := h
  walk_at "g"
  rw [h0 s e] at q; exact q
abbrev N_If_parts : List Str := ["self"]
abbrev V_If_parts : List Nat := [0]
abbrev G_If_parts : List Str := []
theorem wk_If_parts {g : Gb} {k : Nat} (Z : Fx g)  : Wlk g k d_If_parts N_If_parts ["self"] V_If_parts V_If_parts G_If_parts (spPartsN g "If") := by
  refine ⟨⟨rfl, rfl, rfl, by decide +kernel, rfl, by decide +kernel, by decide +kernel⟩, by decide +kernel, ?_, fun X S ds μ P h => ?_⟩
  · walk_at "sp_len"
  have nn0 : N_If_parts[0]? = some ("self" : Str) := rfl
  refine wb_cons ?_
  obtain ⟨s, rfl, e, q⟩ := h
  cases s <;> (try (exact absurd e (by simp only [nameOf]; decide)))
  walk_at "g"
  refine w_fld (by assumption) (Fx.cls (by assumption) 108 rfl) (Fx.na (by assumption) 112 rfl) (ns := ["cell", "value", "yes", "no"]) (i := 2) rfl ?_
  walk_at "g"
  refine w_fld (by assumption) (Fx.cls (by assumption) 108 rfl) (Fx.na (by assumption) 113 rfl) (ns := ["cell", "value", "yes", "no"]) (i := 3) rfl ?_
  walk_at "g"
  exact q
abbrev N_While_parts : List Str := ["self"]
abbrev V_While_parts : List Nat := [0]
abbrev G_While_parts : List Str := []
theorem wk_While_parts {g : Gb} {k : Nat} (Z : Fx g)  : Wlk g k d_While_parts N_While_parts ["self"] V_While_parts V_While_parts G_While_parts (spPartsN g "While") := by
  refine ⟨⟨rfl, rfl, rfl, by decide +kernel, rfl, by decide +kernel, by decide +kernel⟩, by decide +kernel, ?_, fun X S ds μ P h => ?_⟩
  · walk_at "sp_len"
  have nn0 : N_While_parts[0]? = some ("self" : Str) := rfl
  refine wb_cons ?_
  obtain ⟨s, rfl, e, q⟩ := h
  cases s <;> (try (exact absurd e (by simp only [nameOf]; decide)))
  walk_at "g"
  refine w_fld (by assumption) (Fx.cls (by assumption) 116 rfl) (Fx.na (by assumption) 120 rfl) (ns := ["cell", "value", "body"]) (i := 2) rfl ?_
  walk_at "g"
  exact q
abbrev N_Loop_parts : List Str := ["self"]
abbrev V_Loop_parts : List Nat := [0]
abbrev G_Loop_parts : List Str := []
theorem wk_Loop_parts {g : Gb} {k : Nat} (Z : Fx g)  : Wlk g k d_Loop_parts N_Loop_parts ["self"] V_Loop_parts V_Loop_parts G_Loop_parts (spPartsN g "Loop") := by
  refine ⟨⟨rfl, rfl, rfl, by decide +kernel, rfl, by decide +kernel, by decide +kernel⟩, by decide +kernel, ?_, fun X S ds μ P h => ?_⟩
  · walk_at "sp_len"
  have nn0 : N_Loop_parts[0]? = some ("self" : Str) := rfl
  refine wb_cons ?_
  obtain ⟨s, rfl, e, q⟩ := h
  cases s <;> (try (exact absurd e (by simp only [nameOf]; decide)))
  walk_at "g"
  refine w_fld (by assumption) (Fx.cls (by assumption) 129 rfl) (Fx.na (by assumption) 131 rfl) (ns := ["body"]) (i := 0) rfl ?_
  walk_at "g"
  exact q
abbrev N_Choose_parts : List Str := ["self"]
abbrev V_Choose_parts : List Nat := [0]
abbrev G_Choose_parts : List Str := []
theorem wk_Choose_parts {g : Gb} {k : Nat} (Z : Fx g)  : Wlk g k d_Choose_parts N_Choose_parts ["self"] V_Choose_parts V_Choose_parts G_Choose_parts (spPartsN g "Choose") := by
  refine ⟨⟨rfl, rfl, rfl, by decide +kernel, rfl, by decide +kernel, by decide +kernel⟩, by decide +kernel, ?_, fun X S ds μ P h => ?_⟩
  · walk_at "sp_len"
  have nn0 : N_Choose_parts[0]? = some ("self" : Str) := rfl
  refine wb_cons ?_
  obtain ⟨s, rfl, e, q⟩ := h
  cases s <;> (try (exact absurd e (by simp only [nameOf]; decide)))
  walk_at "g"
  refine w_fld (by assumption) (Fx.cls (by assumption) 123 rfl) (Fx.na (by assumption) 125 rfl) (ns := ["one", "other"]) (i := 0) rfl ?_
  walk_at "g"
  refine w_fld (by assumption) (Fx.cls (by assumption) 123 rfl) (Fx.na (by assumption) 126 rfl) (ns := ["one", "other"]) (i := 1) rfl ?_
  walk_at "g"
  exact q
theorem ok_Write_parts {g : Gb} {k : Nat} (Z : Fx g)  : MeG g (k + 1) (cl g "Write") "parts" (spPartsN g "Write") :=
  Z.me 4 96 91 rfl rfl rfl rfl (Z.eqm 81) rfl (fun _ _ _ _ _ _ us hl => match us, hl with | [_], _ => rfl) (wk_Statement_parts Z "Write" (fun s e => by cases s <;> first | rfl | exact absurd e (by simp only [nameOf]; decide)))
theorem ok_Wait_parts {g : Gb} {k : Nat} (Z : Fx g)  : MeG g (k + 1) (cl g "Wait") "parts" (spPartsN g "Wait") :=
  Z.me 4 102 97 rfl rfl rfl rfl (Z.eqm 82) rfl (fun _ _ _ _ _ _ us hl => match us, hl with | [_], _ => rfl) (wk_Statement_parts Z "Wait" (fun s e => by cases s <;> first | rfl | exact absurd e (by simp only [nameOf]; decide)))
theorem ok_Mark_parts {g : Gb} {k : Nat} (Z : Fx g)  : MeG g (k + 1) (cl g "Mark") "parts" (spPartsN g "Mark") :=
  Z.me 4 107 103 rfl rfl rfl rfl (Z.eqm 83) rfl (fun _ _ _ _ _ _ us hl => match us, hl with | [_], _ => rfl) (wk_Statement_parts Z "Mark" (fun s e => by cases s <;> first | rfl | exact absurd e (by simp only [nameOf]; decide)))
theorem ok_Skip_parts {g : Gb} {k : Nat} (Z : Fx g)  : MeG g (k + 1) (cl g "Skip") "parts" (spPartsN g "Skip") :=
  Z.me 4 189 187 rfl rfl rfl rfl (Z.eqm 84) rfl (fun _ _ _ _ _ _ us hl => match us, hl with | [_], _ => rfl) (wk_Statement_parts Z "Skip" (fun s e => by cases s <;> first | rfl | exact absurd e (by simp only [nameOf]; decide)))
theorem ok_Stop_parts {g : Gb} {k : Nat} (Z : Fx g)  : MeG g (k + 1) (cl g "Stop") "parts" (spPartsN g "Stop") :=
  Z.me 4 192 190 rfl rfl rfl rfl (Z.eqm 85) rfl (fun _ _ _ _ _ _ us hl => match us, hl with | [_], _ => rfl) (wk_Statement_parts Z "Stop" (fun s e => by cases s <;> first | rfl | exact absurd e (by simp only [nameOf]; decide)))
theorem ok_If_parts {g : Gb} {k : Nat} (Z : Fx g)  : MeG g (k + 1) (cl g "If") "parts" (spPartsN g "If") :=
  Z.me 9 115 108 rfl rfl rfl rfl rfl rfl (fun _ _ _ _ _ _ us hl => match us, hl with | [_], _ => rfl) (wk_If_parts Z)
theorem ok_While_parts {g : Gb} {k : Nat} (Z : Fx g)  : MeG g (k + 1) (cl g "While") "parts" (spPartsN g "While") :=
  Z.me 11 122 116 rfl rfl rfl rfl rfl rfl (fun _ _ _ _ _ _ us hl => match us, hl with | [_], _ => rfl) (wk_While_parts Z)
theorem ok_Loop_parts {g : Gb} {k : Nat} (Z : Fx g)  : MeG g (k + 1) (cl g "Loop") "parts" (spPartsN g "Loop") :=
  Z.me 15 133 129 rfl rfl rfl rfl rfl rfl (fun _ _ _ _ _ _ us hl => match us, hl with | [_], _ => rfl) (wk_Loop_parts Z)
theorem ok_Choose_parts {g : Gb} {k : Nat} (Z : Fx g)  : MeG g (k + 1) (cl g "Choose") "parts" (spPartsN g "Choose") :=
  Z.me 13 128 123 rfl rfl rfl rfl rfl rfl (fun _ _ _ _ _ _ us hl => match us, hl with | [_], _ => rfl) (wk_Choose_parts Z)
theorem parts_all {g : Gb} {k : Nat} (Z : Fx g) : ∀ s, MeG g (k + 1) (cl g (nameOf s)) "parts" (spPartsN g (nameOf s))
  | .write _ _ => ok_Write_parts Z
  | .wait _ _ => ok_Wait_parts Z
  | .mark _ => ok_Mark_parts Z
  | .skip => ok_Skip_parts Z
  | .stop => ok_Stop_parts Z
  | .ife _ _ _ _ => ok_If_parts Z
  | .whl _ _ _ => ok_While_parts Z
  | .loop _ => ok_Loop_parts Z
  | .choose _ _ => ok_Choose_parts Z
def fldN : St → List Str
  | .write _ _ => ["cell", "value"]
  | .wait _ _ => ["cell", "value"]
  | .mark _ => ["name"]
  | .skip => []
  | .stop => []
  | .ife _ _ _ _ => ["cell", "value", "yes", "no"]
  | .whl _ _ _ => ["cell", "value", "body"]
  | .loop _ => ["body"]
  | .choose _ _ => ["one", "other"]
theorem prS_obj (g : Gb) : ∀ s, ∃ ds, prS g s = .obj (cl g (nameOf s)) (fldN s) ds := fun s => by cases s <;> exact ⟨_, rfl⟩
theorem ix_parts : ∀ s, ix (fldN s) "parts" = none := fun s => by cases s <;> rfl
theorem ix_size : ∀ s, ix (fldN s) "size" = none := fun s => by cases s <;> rfl
/-- sizes -/
def spSizeN (g : Gb) (n : Nat) (nm : Str) : ASp := fun ds μ P => ∃ s, ds = [prS g s] ∧ nameOf s = nm ∧ sz s ≤ n ∧ n ≤ 100 ∧ P (.int (sz s : Nat)) μ
def spSizeP (g : Gb) (n : Nat) : ASp := fun ds μ P => ∃ r, ds = [prog g r] ∧ szs r ≤ n ∧ n ≤ 100 ∧ P (.int (szs r : Nat)) μ
abbrev N_Statement_size : List Str := ["self", "part"]
abbrev V_Statement_size : List Nat := [0]
abbrev G_Statement_size : List Str := ["sum"]
abbrev V_Statement_size_0 : List Nat := [1]
abbrev L_Statement_size_0 : List Nat := [1]
abbrev G_Statement_size_0 : List Str := []
abbrev O_Statement_size_0 : List (Str × Nat) := [("part", 1)]
theorem wk_Statement_size {g : Gb} {k : Nat} (Z : Fx g) (n : Nat) (nm : Str) {j : Nat} (hj : j ≤ k) (Fp : ∀ s, MeG g j (cl g (nameOf s)) "parts" (spPartsN g (nameOf s))) (Fs : MeG g j (cl g "Program") "size" (spSizeP g (n - 1))) : Wlk g k d_Statement_size N_Statement_size ["self"] V_Statement_size V_Statement_size G_Statement_size (spSizeN g n nm) := by
  refine ⟨⟨rfl, rfl, rfl, by decide +kernel, rfl, by decide +kernel, by decide +kernel⟩, by decide +kernel, ?_, fun X S ds μ P h => ?_⟩
  · walk_at "sp_len"
  have nn0 : N_Statement_size[0]? = some ("self" : Str) := rfl
  have nn1 : N_Statement_size[1]? = some ("part" : Str) := rfl
  have gg0 : G_Statement_size[0]? = some ("sum" : Str) := rfl
  refine wb_cons ?_
  obtain ⟨s, rfl, e, hs, hn, q⟩ := h
  walk_at "g"
  refine w_lcM (vis' := V_Statement_size_0) (loc' := L_Statement_size_0) (gl' := G_Statement_size_0) (by assumption) O_Statement_size_0 (by decide +kernel) (by decide +kernel) ?_
  refine wi_lst (by assumption) ?_
  refine w_meth0 (by assumption) (Fp s) hj ?_
  walk_at "g"
  obtain ⟨ds, ed⟩ := prS_obj g s
  refine ⟨_, ds, ed, ix_parts s, ?_⟩
  refine ⟨s, rfl, rfl, _, rfl, ?_⟩
  refine ⟨List St, partsOf s, prog g, fun p => .int (szs p : Nat), rfl, by have := len_parts s; omega, fun p hp p2 acc hp2 => ⟨?_, fun X' S' => ?_, fun X' S' => ?_⟩, ?_⟩
  rotate_left
  · walk_at "g"
  · refine w_meth0 (by assumption) Fs hj ?_
    walk_at "g"
    have := parts_sz s p hp
    exact ⟨_, _, rfl, rfl, p, rfl, by omega, by omega, rfl, rfl⟩
  · refine ⟨(partsOf s).map fun p => (szs p : Int), by rw [List.map_map]; rfl, ?_⟩
    walk_at "g"
    rw [sum_parts s]; exact q
abbrev N_Program_size : List Str := ["self", "statement"]
abbrev V_Program_size : List Nat := [0]
abbrev G_Program_size : List Str := ["sum"]
abbrev V_Program_size_0 : List Nat := [1]
abbrev L_Program_size_0 : List Nat := [1]
abbrev G_Program_size_0 : List Str := []
abbrev O_Program_size_0 : List (Str × Nat) := [("statement", 1)]
theorem wk_Program_size {g : Gb} {k : Nat} (Z : Fx g) (n : Nat) {j : Nat} (hj : j ≤ k) (Fs : ∀ s, MeG g j (cl g (nameOf s)) "size" (spSizeN g n (nameOf s))) : Wlk g k d_Program_size N_Program_size ["self"] V_Program_size V_Program_size G_Program_size (spSizeP g n) := by
  refine ⟨⟨rfl, rfl, rfl, by decide +kernel, rfl, by decide +kernel, by decide +kernel⟩, by decide +kernel, ?_, fun X S ds μ P h => ?_⟩
  · walk_at "sp_len"
  have nn0 : N_Program_size[0]? = some ("self" : Str) := rfl
  have nn1 : N_Program_size[1]? = some ("statement" : Str) := rfl
  have gg0 : G_Program_size[0]? = some ("sum" : Str) := rfl
  refine wb_cons ?_
  obtain ⟨r, rfl, hs, hn, q⟩ := h
  walk_at "g"
  refine w_lcM (vis' := V_Program_size_0) (loc' := L_Program_size_0) (gl' := G_Program_size_0) (by assumption) O_Program_size_0 (by decide +kernel) (by decide +kernel) ?_
  refine wi_tup (by assumption) ?_
  refine w_fld (by assumption) (Fx.cls (by assumption) 134 rfl) (Fx.na (by assumption) 136 rfl) (ns := ["row"]) (i := 0) rfl ?_
  walk_at "g"
  refine ⟨St, r, prS g, fun p => .int (sz p : Nat), prSs_map g r, by have := len_szs r; omega, fun p hp p2 acc hp2 => ⟨?_, fun X' S' => ?_, fun X' S' => ?_⟩, ?_⟩
  rotate_left
  · walk_at "g"
  · refine w_meth0 (by assumption) (Fs p) hj ?_
    walk_at "g"
    obtain ⟨ds, ed⟩ := prS_obj g p
    have := sz_mem r p hp
    exact ⟨_, _, ed, ix_size p, p, rfl, rfl, by omega, by omega, rfl, rfl⟩
  · refine ⟨r.map fun p => (sz p : Int), by rw [List.map_map]; rfl, ?_⟩
    walk_at "g"
    have : (r.map fun p => (sz p : Int)).sum = (szs r : Nat) := by
      clear hs q hn
      induction r with
      | nil => rfl
      | cons s r ih => simp only [List.map_cons, List.sum_cons, szs, ih]; omega
    rw [this]; exact q
end
set_option maxHeartbeats 4000000
section
open PySem PySem.Spec L2
theorem z_Write_size {g : Gb} {k : Nat} (Z : Fx g) : MeG g (k + 1) (cl g "Write") "size" (fun _ _ _ => False) :=
  Z.me 5 95 91 rfl rfl rfl rfl (Z.eqm 72) rfl (fun _ _ _ _ _ _ us hl => match us, hl with | [_], _ => rfl) (ps := ["self"]) (N := N_Statement_size) (vis := V_Statement_size) (loc := V_Statement_size) (gl := G_Statement_size) ⟨⟨rfl, rfl, rfl, by decide +kernel, rfl, by decide +kernel, by decide +kernel⟩, by decide +kernel, fun _ _ _ h => h.elim, fun _ _ _ _ _ h => h.elim⟩
theorem ok_Write_size {g : Gb} {k : Nat} (Z : Fx g) (n : Nat) {j : Nat} (hj : j ≤ k) (Fp : ∀ s, MeG g j (cl g (nameOf s)) "parts" (spPartsN g (nameOf s))) (Fs : MeG g j (cl g "Program") "size" (spSizeP g (n - 1))) : MeG g (k + 1) (cl g "Write") "size" (spSizeN g n "Write") :=
  Z.me 5 95 91 rfl rfl rfl rfl (Z.eqm 72) rfl (fun _ _ _ _ _ _ us hl => match us, hl with | [_], _ => rfl) (wk_Statement_size Z n "Write" hj Fp Fs)
theorem z_Wait_size {g : Gb} {k : Nat} (Z : Fx g) : MeG g (k + 1) (cl g "Wait") "size" (fun _ _ _ => False) :=
  Z.me 5 101 97 rfl rfl rfl rfl (Z.eqm 73) rfl (fun _ _ _ _ _ _ us hl => match us, hl with | [_], _ => rfl) (ps := ["self"]) (N := N_Statement_size) (vis := V_Statement_size) (loc := V_Statement_size) (gl := G_Statement_size) ⟨⟨rfl, rfl, rfl, by decide +kernel, rfl, by decide +kernel, by decide +kernel⟩, by decide +kernel, fun _ _ _ h => h.elim, fun _ _ _ _ _ h => h.elim⟩
theorem ok_Wait_size {g : Gb} {k : Nat} (Z : Fx g) (n : Nat) {j : Nat} (hj : j ≤ k) (Fp : ∀ s, MeG g j (cl g (nameOf s)) "parts" (spPartsN g (nameOf s))) (Fs : MeG g j (cl g "Program") "size" (spSizeP g (n - 1))) : MeG g (k + 1) (cl g "Wait") "size" (spSizeN g n "Wait") :=
  Z.me 5 101 97 rfl rfl rfl rfl (Z.eqm 73) rfl (fun _ _ _ _ _ _ us hl => match us, hl with | [_], _ => rfl) (wk_Statement_size Z n "Wait" hj Fp Fs)
theorem z_Mark_size {g : Gb} {k : Nat} (Z : Fx g) : MeG g (k + 1) (cl g "Mark") "size" (fun _ _ _ => False) :=
  Z.me 5 106 103 rfl rfl rfl rfl (Z.eqm 74) rfl (fun _ _ _ _ _ _ us hl => match us, hl with | [_], _ => rfl) (ps := ["self"]) (N := N_Statement_size) (vis := V_Statement_size) (loc := V_Statement_size) (gl := G_Statement_size) ⟨⟨rfl, rfl, rfl, by decide +kernel, rfl, by decide +kernel, by decide +kernel⟩, by decide +kernel, fun _ _ _ h => h.elim, fun _ _ _ _ _ h => h.elim⟩
theorem ok_Mark_size {g : Gb} {k : Nat} (Z : Fx g) (n : Nat) {j : Nat} (hj : j ≤ k) (Fp : ∀ s, MeG g j (cl g (nameOf s)) "parts" (spPartsN g (nameOf s))) (Fs : MeG g j (cl g "Program") "size" (spSizeP g (n - 1))) : MeG g (k + 1) (cl g "Mark") "size" (spSizeN g n "Mark") :=
  Z.me 5 106 103 rfl rfl rfl rfl (Z.eqm 74) rfl (fun _ _ _ _ _ _ us hl => match us, hl with | [_], _ => rfl) (wk_Statement_size Z n "Mark" hj Fp Fs)
theorem z_Skip_size {g : Gb} {k : Nat} (Z : Fx g) : MeG g (k + 1) (cl g "Skip") "size" (fun _ _ _ => False) :=
  Z.me 5 188 187 rfl rfl rfl rfl (Z.eqm 75) rfl (fun _ _ _ _ _ _ us hl => match us, hl with | [_], _ => rfl) (ps := ["self"]) (N := N_Statement_size) (vis := V_Statement_size) (loc := V_Statement_size) (gl := G_Statement_size) ⟨⟨rfl, rfl, rfl, by decide +kernel, rfl, by decide +kernel, by decide +kernel⟩, by decide +kernel, fun _ _ _ h => h.elim, fun _ _ _ _ _ h => h.elim⟩
theorem ok_Skip_size {g : Gb} {k : Nat} (Z : Fx g) (n : Nat) {j : Nat} (hj : j ≤ k) (Fp : ∀ s, MeG g j (cl g (nameOf s)) "parts" (spPartsN g (nameOf s))) (Fs : MeG g j (cl g "Program") "size" (spSizeP g (n - 1))) : MeG g (k + 1) (cl g "Skip") "size" (spSizeN g n "Skip") :=
  Z.me 5 188 187 rfl rfl rfl rfl (Z.eqm 75) rfl (fun _ _ _ _ _ _ us hl => match us, hl with | [_], _ => rfl) (wk_Statement_size Z n "Skip" hj Fp Fs)
theorem z_Stop_size {g : Gb} {k : Nat} (Z : Fx g) : MeG g (k + 1) (cl g "Stop") "size" (fun _ _ _ => False) :=
  Z.me 5 191 190 rfl rfl rfl rfl (Z.eqm 76) rfl (fun _ _ _ _ _ _ us hl => match us, hl with | [_], _ => rfl) (ps := ["self"]) (N := N_Statement_size) (vis := V_Statement_size) (loc := V_Statement_size) (gl := G_Statement_size) ⟨⟨rfl, rfl, rfl, by decide +kernel, rfl, by decide +kernel, by decide +kernel⟩, by decide +kernel, fun _ _ _ h => h.elim, fun _ _ _ _ _ h => h.elim⟩
theorem ok_Stop_size {g : Gb} {k : Nat} (Z : Fx g) (n : Nat) {j : Nat} (hj : j ≤ k) (Fp : ∀ s, MeG g j (cl g (nameOf s)) "parts" (spPartsN g (nameOf s))) (Fs : MeG g j (cl g "Program") "size" (spSizeP g (n - 1))) : MeG g (k + 1) (cl g "Stop") "size" (spSizeN g n "Stop") :=
  Z.me 5 191 190 rfl rfl rfl rfl (Z.eqm 76) rfl (fun _ _ _ _ _ _ us hl => match us, hl with | [_], _ => rfl) (wk_Statement_size Z n "Stop" hj Fp Fs)
theorem z_If_size {g : Gb} {k : Nat} (Z : Fx g) : MeG g (k + 1) (cl g "If") "size" (fun _ _ _ => False) :=
  Z.me 5 114 108 rfl rfl rfl rfl (Z.eqm 77) rfl (fun _ _ _ _ _ _ us hl => match us, hl with | [_], _ => rfl) (ps := ["self"]) (N := N_Statement_size) (vis := V_Statement_size) (loc := V_Statement_size) (gl := G_Statement_size) ⟨⟨rfl, rfl, rfl, by decide +kernel, rfl, by decide +kernel, by decide +kernel⟩, by decide +kernel, fun _ _ _ h => h.elim, fun _ _ _ _ _ h => h.elim⟩
theorem ok_If_size {g : Gb} {k : Nat} (Z : Fx g) (n : Nat) {j : Nat} (hj : j ≤ k) (Fp : ∀ s, MeG g j (cl g (nameOf s)) "parts" (spPartsN g (nameOf s))) (Fs : MeG g j (cl g "Program") "size" (spSizeP g (n - 1))) : MeG g (k + 1) (cl g "If") "size" (spSizeN g n "If") :=
  Z.me 5 114 108 rfl rfl rfl rfl (Z.eqm 77) rfl (fun _ _ _ _ _ _ us hl => match us, hl with | [_], _ => rfl) (wk_Statement_size Z n "If" hj Fp Fs)
theorem z_While_size {g : Gb} {k : Nat} (Z : Fx g) : MeG g (k + 1) (cl g "While") "size" (fun _ _ _ => False) :=
  Z.me 5 121 116 rfl rfl rfl rfl (Z.eqm 78) rfl (fun _ _ _ _ _ _ us hl => match us, hl with | [_], _ => rfl) (ps := ["self"]) (N := N_Statement_size) (vis := V_Statement_size) (loc := V_Statement_size) (gl := G_Statement_size) ⟨⟨rfl, rfl, rfl, by decide +kernel, rfl, by decide +kernel, by decide +kernel⟩, by decide +kernel, fun _ _ _ h => h.elim, fun _ _ _ _ _ h => h.elim⟩
theorem ok_While_size {g : Gb} {k : Nat} (Z : Fx g) (n : Nat) {j : Nat} (hj : j ≤ k) (Fp : ∀ s, MeG g j (cl g (nameOf s)) "parts" (spPartsN g (nameOf s))) (Fs : MeG g j (cl g "Program") "size" (spSizeP g (n - 1))) : MeG g (k + 1) (cl g "While") "size" (spSizeN g n "While") :=
  Z.me 5 121 116 rfl rfl rfl rfl (Z.eqm 78) rfl (fun _ _ _ _ _ _ us hl => match us, hl with | [_], _ => rfl) (wk_Statement_size Z n "While" hj Fp Fs)
theorem z_Loop_size {g : Gb} {k : Nat} (Z : Fx g) : MeG g (k + 1) (cl g "Loop") "size" (fun _ _ _ => False) :=
  Z.me 5 132 129 rfl rfl rfl rfl (Z.eqm 80) rfl (fun _ _ _ _ _ _ us hl => match us, hl with | [_], _ => rfl) (ps := ["self"]) (N := N_Statement_size) (vis := V_Statement_size) (loc := V_Statement_size) (gl := G_Statement_size) ⟨⟨rfl, rfl, rfl, by decide +kernel, rfl, by decide +kernel, by decide +kernel⟩, by decide +kernel, fun _ _ _ h => h.elim, fun _ _ _ _ _ h => h.elim⟩
theorem ok_Loop_size {g : Gb} {k : Nat} (Z : Fx g) (n : Nat) {j : Nat} (hj : j ≤ k) (Fp : ∀ s, MeG g j (cl g (nameOf s)) "parts" (spPartsN g (nameOf s))) (Fs : MeG g j (cl g "Program") "size" (spSizeP g (n - 1))) : MeG g (k + 1) (cl g "Loop") "size" (spSizeN g n "Loop") :=
  Z.me 5 132 129 rfl rfl rfl rfl (Z.eqm 80) rfl (fun _ _ _ _ _ _ us hl => match us, hl with | [_], _ => rfl) (wk_Statement_size Z n "Loop" hj Fp Fs)
theorem z_Choose_size {g : Gb} {k : Nat} (Z : Fx g) : MeG g (k + 1) (cl g "Choose") "size" (fun _ _ _ => False) :=
  Z.me 5 127 123 rfl rfl rfl rfl (Z.eqm 79) rfl (fun _ _ _ _ _ _ us hl => match us, hl with | [_], _ => rfl) (ps := ["self"]) (N := N_Statement_size) (vis := V_Statement_size) (loc := V_Statement_size) (gl := G_Statement_size) ⟨⟨rfl, rfl, rfl, by decide +kernel, rfl, by decide +kernel, by decide +kernel⟩, by decide +kernel, fun _ _ _ h => h.elim, fun _ _ _ _ _ h => h.elim⟩
theorem ok_Choose_size {g : Gb} {k : Nat} (Z : Fx g) (n : Nat) {j : Nat} (hj : j ≤ k) (Fp : ∀ s, MeG g j (cl g (nameOf s)) "parts" (spPartsN g (nameOf s))) (Fs : MeG g j (cl g "Program") "size" (spSizeP g (n - 1))) : MeG g (k + 1) (cl g "Choose") "size" (spSizeN g n "Choose") :=
  Z.me 5 127 123 rfl rfl rfl rfl (Z.eqm 79) rfl (fun _ _ _ _ _ _ us hl => match us, hl with | [_], _ => rfl) (wk_Statement_size Z n "Choose" hj Fp Fs)
theorem ok_Program_size {g : Gb} {k : Nat} (Z : Fx g) (n : Nat) {j : Nat} (hj : j ≤ k) (Fs : ∀ s, MeG g j (cl g (nameOf s)) "size" (spSizeN g n (nameOf s))) : MeG g (k + 1) (cl g "Program") "size" (spSizeP g n) :=
  Z.me 17 137 134 rfl rfl rfl rfl rfl rfl (fun _ _ _ _ _ _ us hl => match us, hl with | [_], _ => rfl) (wk_Program_size Z n hj Fs)
theorem size_z {g : Gb} {k : Nat} (Z : Fx g) : ∀ s, MeG g (k + 1) (cl g (nameOf s)) "size" (spSizeN g 0 (nameOf s)) := fun s => by
  have no : ∀ ds μ P, spSizeN g 0 (nameOf s) ds μ P → False := fun ds μ P ⟨s', _, _, h, _⟩ => by have := sz_pos s'; omega
  cases s with
  | write _ _ => exact (z_Write_size Z).imp no
  | wait _ _ => exact (z_Wait_size Z).imp no
  | mark _ => exact (z_Mark_size Z).imp no
  | skip => exact (z_Skip_size Z).imp no
  | stop => exact (z_Stop_size Z).imp no
  | ife _ _ _ _ => exact (z_If_size Z).imp no
  | whl _ _ _ => exact (z_While_size Z).imp no
  | loop _ => exact (z_Loop_size Z).imp no
  | choose _ _ => exact (z_Choose_size Z).imp no
theorem size_s {g : Gb} {k : Nat} (Z : Fx g) (n : Nat) {j : Nat} (hj : j ≤ k) (Fp : ∀ s, MeG g j (cl g (nameOf s)) "parts" (spPartsN g (nameOf s))) (Fs : MeG g j (cl g "Program") "size" (spSizeP g (n - 1))) : ∀ s, MeG g (k + 1) (cl g (nameOf s)) "size" (spSizeN g n (nameOf s))
  | .write _ _ => ok_Write_size Z n hj Fp Fs
  | .wait _ _ => ok_Wait_size Z n hj Fp Fs
  | .mark _ => ok_Mark_size Z n hj Fp Fs
  | .skip => ok_Skip_size Z n hj Fp Fs
  | .stop => ok_Stop_size Z n hj Fp Fs
  | .ife _ _ _ _ => ok_If_size Z n hj Fp Fs
  | .whl _ _ _ => ok_While_size Z n hj Fp Fs
  | .loop _ => ok_Loop_size Z n hj Fp Fs
  | .choose _ _ => ok_Choose_size Z n hj Fp Fs
theorem size_all {g : Gb} (Z : Fx g) : ∀ n k, (∀ s, MeG g (k + 4 + 2 * n) (cl g (nameOf s)) "size" (spSizeN g n (nameOf s))) ∧ MeG g (k + 5 + 2 * n) (cl g "Program") "size" (spSizeP g n)
  | 0, k => ⟨fun s => (size_z (k := k) Z s).mono (by omega), ok_Program_size (k := k + 4) Z 0 (j := k + 4) (by omega) fun s => (size_z (k := k) Z s).mono (by omega)⟩
  | n + 1, k => by
    have ih := (size_all Z n k).2
    have h1 : ∀ s, MeG g (k + 4 + 2 * (n + 1)) (cl g (nameOf s)) "size" (spSizeN g (n + 1) (nameOf s)) := fun s => (size_s (k := k + 5 + 2 * n) Z (n + 1) (j := k + 5 + 2 * n) (Nat.le_refl _) (fun s => (parts_all (k := 0) Z s).mono (by omega)) ih s).mono (by omega)
    exact ⟨h1, (ok_Program_size (k := k + 4 + 2 * (n + 1)) Z (n + 1) (j := k + 4 + 2 * (n + 1)) (Nat.le_refl _) h1).mono (by omega)⟩
/-! ### depth -/
mutual
def depS : St → Nat
  | .ife _ _ y n => max (1 + mxS y) (1 + mxS n)
  | .whl _ _ b => 1 + mxS b
  | .loop b => 1 + mxS b
  | .choose a b => max (1 + mxS a) (1 + mxS b)
  | _ => 0
def mxS : List St → Nat
  | [] => 0
  | s :: r => max (depS s) (mxS r)
end
mutual
theorem depS_sz : ∀ s, depS s ≤ sz s
  | .write _ _ => Nat.zero_le _
  | .wait _ _ => Nat.zero_le _
  | .mark _ => Nat.zero_le _
  | .skip => Nat.zero_le _
  | .stop => Nat.zero_le _
  | .ife _ _ y n => by have := mxS_sz y; have := mxS_sz n; simp only [depS, sz]; omega
  | .whl _ _ b => by have := mxS_sz b; simp only [depS, sz]; omega
  | .loop b => by have := mxS_sz b; simp only [depS, sz]; omega
  | .choose a b => by have := mxS_sz a; have := mxS_sz b; simp only [depS, sz]; omega
theorem mxS_sz : ∀ r, mxS r ≤ szs r
  | [] => Nat.le_refl _
  | s :: r => by have := depS_sz s; have := mxS_sz r; simp only [mxS, szs]; omega
end
theorem mxS_app : ∀ a b, mxS (a ++ b) = max (mxS a) (mxS b)
  | [], b => by simp [mxS]
  | s :: r, b => by rw [List.cons_append]; simp only [mxS, mxS_app r b]; omega
def spDeep (g : Gb) (n : Nat) : ASp := fun ds μ P => ∃ r, ds = [prog g r] ∧ szs r < n ∧ n ≤ 100 ∧ P (.int (1 + (mxS r : Nat))) μ
theorem max_parts {s : St} {f : Nat} {z : Int} (h1 : z ∈ [(f : Int)] ++ (partsOf s).map fun p => (1 + (mxS p : Nat) : Int)) (h2 : ∀ y, y ∈ [(f : Int)] ++ (partsOf s).map (fun p => (1 + (mxS p : Nat) : Int)) → y ≤ z) : z = ((max f (depS s) : Nat) : Int) := by
  cases s <;> simp only [partsOf, List.map_cons, List.map_nil, List.cons_append, List.nil_append, List.mem_cons, List.not_mem_nil, or_false, forall_eq_or_imp, forall_eq, depS] at h1 h2 ⊢ <;> omega
abbrev N_Program_deep : List Str := ["self", "found", "statement", "part"]
abbrev V_Program_deep : List Nat := [0, 1, 2]
abbrev G_Program_deep : List Str := ["max"]
abbrev V_Program_deep_0 : List Nat := [3]
abbrev L_Program_deep_0 : List Nat := [3]
abbrev G_Program_deep_0 : List Str := []
abbrev O_Program_deep_0 : List (Str × Nat) := [("part", 3)]
theorem wk_Program_deep {g : Gb} {k : Nat} (Z : Fx g) (n : Nat) {j : Nat} (hj : j ≤ k) (Fp : ∀ s, MeG g j (cl g (nameOf s)) "parts" (spPartsN g (nameOf s))) (Fs : MeG g j (cl g "Program") "deep" (spDeep g n)) : Wlk g k d_Program_deep N_Program_deep ["self"] V_Program_deep V_Program_deep G_Program_deep (spDeep g (n + 1)) := by
  refine ⟨⟨rfl, rfl, rfl, by decide +kernel, rfl, by decide +kernel, by decide +kernel⟩, by decide +kernel, ?_, fun X S ds μ P h => ?_⟩
  · walk_at "sp_len"
  have nn0 : N_Program_deep[0]? = some ("self" : Str) := rfl
  have nn1 : N_Program_deep[1]? = some ("found" : Str) := rfl
  have nn2 : N_Program_deep[2]? = some ("statement" : Str) := rfl
  have nn3 : N_Program_deep[3]? = some ("part" : Str) := rfl
  have gg0 : G_Program_deep[0]? = some ("max" : Str) := rfl
  refine wb_cons ?_
  obtain ⟨r, rfl, hs, hn, q⟩ := h
  walk_at "g"
  refine ws_for (by assumption) ?_
  refine wi_tup (by assumption) ?_
  refine w_fld (by assumption) (Fx.cls (by assumption) 134 rfl) (Fx.na (by assumption) 136 rfl) (ns := ["row"]) (i := 0) rfl ?_
  walk_at "g"
  refine ⟨fun i ρ' m' => ∃ a2, ρ' = [some (prog g r), some (.int (mxS (r.take i) : Nat)), a2, none] ∧ m' = μ, ⟨_, rfl, rfl⟩, ?_, ?_⟩
  · rintro i d ρ' m' hd ⟨a1, rfl, rfl⟩
    rw [prSs_map, List.getElem?_map] at hd
    cases ht : r[i]? with
    | none => rw [ht] at hd; cases hd
    | some s =>
      rw [ht] at hd
      cases hd
      walk_at "g"
      refine w_maxL (by assumption) _ (by with_reducible assumption) (Fx.free (by assumption) 71 rfl) ?_
      walk_at "g"
      refine w_lcM (vis' := V_Program_deep_0) (loc' := L_Program_deep_0) (gl' := G_Program_deep_0) (by assumption) O_Program_deep_0 (by decide +kernel) (by decide +kernel) ?_
      refine wi_lst (by assumption) ?_
      refine w_meth0 (by assumption) (Fp s) hj ?_
      walk_at "g"
      obtain ⟨ds, ed⟩ := prS_obj g s
      refine ⟨_, ds, ed, ix_parts s, ?_⟩
      refine ⟨s, rfl, rfl, _, rfl, ?_⟩
      refine ⟨List St, partsOf s, prog g, fun p => .int (1 + (mxS p : Nat)), rfl, by have := len_parts s; omega, fun p hp p2 acc hp2 => ⟨?_, fun X' S' => ?_, fun X' S' => ?_⟩, ?_⟩
      rotate_left
      · walk_at "g"
      · refine w_meth0 (by assumption) Fs hj ?_
        walk_at "g"
        have := parts_sz s p hp
        have := sz_mem r s (List.mem_of_getElem? ht)
        exact ⟨_, _, rfl, rfl, p, rfl, by omega, by omega, rfl, rfl⟩
      · refine ⟨_, .ll ?_, ?_⟩
        · rw [List.length_map]
          have := len_parts s
          show 1 + _ ≤ _
          omega
        refine ⟨[((mxS (r.take i) : Nat) : Int)] ++ (partsOf s).map fun p => (1 + (mxS p : Nat) : Int), ?_, by simp, fun z h1 h2 => ?_⟩
        · rw [List.map_append, List.map_map]; rfl
        · have : max (mxS (r.take i)) (depS s) = mxS (r.take (i + 1)) := by
            rw [List.take_succ, ht, mxS_app]; simp only [Option.toList_some, mxS]; omega
          rw [max_parts h1 h2, this]
          exact ⟨_, rfl, rfl⟩
  · rintro ρ' m' ⟨a1, rfl, rfl⟩
    walk_at "g"
    rw [show (prSs g r).length = r.length by rw [prSs_map, List.length_map], List.take_length]
    exact q
theorem z_Program_deep {g : Gb} {k : Nat} (Z : Fx g) : MeG g (k + 1) (cl g "Program") "deep" (fun _ _ _ => False) :=
  Z.me 18 138 134 rfl rfl rfl rfl rfl rfl (fun _ _ _ _ _ _ us hl => match us, hl with | [_], _ => rfl) (ps := ["self"]) (N := N_Program_deep) (vis := V_Program_deep) (loc := V_Program_deep) (gl := G_Program_deep) ⟨⟨rfl, rfl, rfl, by decide +kernel, rfl, by decide +kernel, by decide +kernel⟩, by decide +kernel, fun _ _ _ h => h.elim, fun _ _ _ _ _ h => h.elim⟩
theorem ok_Program_deep {g : Gb} {k : Nat} (Z : Fx g) (n : Nat) {j : Nat} (hj : j ≤ k) (Fp : ∀ s, MeG g j (cl g (nameOf s)) "parts" (spPartsN g (nameOf s))) (Fs : MeG g j (cl g "Program") "deep" (spDeep g n)) : MeG g (k + 1) (cl g "Program") "deep" (spDeep g (n + 1)) :=
  Z.me 18 138 134 rfl rfl rfl rfl rfl rfl (fun _ _ _ _ _ _ us hl => match us, hl with | [_], _ => rfl) (wk_Program_deep Z n hj Fp Fs)
theorem deep_all {g : Gb} (Z : Fx g) : ∀ n k, MeG g (k + 4 + n) (cl g "Program") "deep" (spDeep g n)
  | 0, k => ((z_Program_deep (k := k + 3) Z).imp fun ds μ P ⟨r, _, h, _⟩ => absurd h (Nat.not_lt_zero _))
  | n + 1, k => ok_Program_deep (k := k + 4 + n) Z n (j := k + 4 + n) (Nat.le_refl _) (fun s => (parts_all (k := 0) Z s).mono (by omega)) (deep_all Z n k)
end
set_option maxHeartbeats 4000000
section
open PySem PySem.Spec L2
/-! ### .. of a Program that is being made -/
def mkP (g : Gb) (r : List St) : MC := .ins (cl g "Program") ["row"] [.tup (prSs g r)]
def spSizeQ (g : Gb) : ASp := fun ds μ P => ∃ r a, ds = [.ptr a] ∧ μ a = some (mkP g r) ∧ szs r ≤ 20 ∧ P (.int (szs r : Nat)) μ
def spDeepQ (g : Gb) : ASp := fun ds μ P => ∃ r a, ds = [.ptr a] ∧ μ a = some (mkP g r) ∧ szs r ≤ 20 ∧ P (.int (1 + (mxS r : Nat))) μ
theorem wk_Program_size_q {g : Gb} {k : Nat} (Z : Fx g) {j : Nat} (hj : j ≤ k) (Fs : ∀ s, MeG g j (cl g (nameOf s)) "size" (spSizeN g 20 (nameOf s))) : Wlk g k d_Program_size N_Program_size ["self"] V_Program_size V_Program_size G_Program_size (spSizeQ g) := by
  refine ⟨⟨rfl, rfl, rfl, by decide +kernel, rfl, by decide +kernel, by decide +kernel⟩, by decide +kernel, ?_, fun X S ds μ P h => ?_⟩
  · walk_at "sp_len"
  have nn0 : N_Program_size[0]? = some ("self" : Str) := rfl
  have nn1 : N_Program_size[1]? = some ("statement" : Str) := rfl
  have gg0 : G_Program_size[0]? = some ("sum" : Str) := rfl
  refine wb_cons ?_
  obtain ⟨r, a, rfl, ha, hs, q⟩ := h
  walk_at "g"
  refine w_lcM (vis' := V_Program_size_0) (loc' := L_Program_size_0) (gl' := G_Program_size_0) (by assumption) O_Program_size_0 (by decide +kernel) (by decide +kernel) ?_
  refine wi_tup (by assumption) ?_
  refine w_fldP (by assumption) (Fx.cls (by assumption) 134 rfl) (Fx.na (by assumption) 136 rfl) (ns := ["row"]) (i := 0) rfl ?_
  walk_at "g"
  refine ⟨a, _, _, rfl, ha, rfl, _, rfl, ?_⟩
  refine ⟨St, r, prS g, fun p => .int (sz p : Nat), prSs_map g r, by have := len_szs r; omega, fun p hp p2 acc hp2 => ⟨?_, fun X' S' => ?_, fun X' S' => ?_⟩, ?_⟩
  rotate_left
  · walk_at "g"
  · refine w_meth0 (by assumption) (Fs p) hj ?_
    walk_at "g"
    obtain ⟨ds, ed⟩ := prS_obj g p
    have := sz_mem r p hp
    exact ⟨_, _, ed, ix_size p, p, rfl, rfl, by omega, by omega, rfl, rfl⟩
  · refine ⟨r.map fun p => (sz p : Int), by rw [List.map_map]; rfl, ?_⟩
    walk_at "g"
    have : (r.map fun p => (sz p : Int)).sum = (szs r : Nat) := by
      clear hs q ha
      induction r with
      | nil => rfl
      | cons s r ih => simp only [List.map_cons, List.sum_cons, szs, ih]; omega
    rw [this]; exact q
theorem wk_Program_deep_q {g : Gb} {k : Nat} (Z : Fx g) {j : Nat} (hj : j ≤ k) (Fp : ∀ s, MeG g j (cl g (nameOf s)) "parts" (spPartsN g (nameOf s))) (Fs : MeG g j (cl g "Program") "deep" (spDeep g 21)) : Wlk g k d_Program_deep N_Program_deep ["self"] V_Program_deep V_Program_deep G_Program_deep (spDeepQ g) := by
  refine ⟨⟨rfl, rfl, rfl, by decide +kernel, rfl, by decide +kernel, by decide +kernel⟩, by decide +kernel, ?_, fun X S ds μ P h => ?_⟩
  · walk_at "sp_len"
  have nn0 : N_Program_deep[0]? = some ("self" : Str) := rfl
  have nn1 : N_Program_deep[1]? = some ("found" : Str) := rfl
  have nn2 : N_Program_deep[2]? = some ("statement" : Str) := rfl
  have nn3 : N_Program_deep[3]? = some ("part" : Str) := rfl
  have gg0 : G_Program_deep[0]? = some ("max" : Str) := rfl
  refine wb_cons ?_
  obtain ⟨r, a, rfl, ha, hs, q⟩ := h
  walk_at "g"
  refine ws_for (by assumption) ?_
  refine wi_tup (by assumption) ?_
  refine w_fldP (by assumption) (Fx.cls (by assumption) 134 rfl) (Fx.na (by assumption) 136 rfl) (ns := ["row"]) (i := 0) rfl ?_
  walk_at "g"
  refine ⟨a, _, _, rfl, ha, rfl, _, rfl, ?_⟩
  refine ⟨fun i ρ' m' => ∃ a2, ρ' = [some (.ptr a), some (.int (mxS (r.take i) : Nat)), a2, none] ∧ m' = μ, ⟨_, rfl, rfl⟩, ?_, ?_⟩
  · rintro i d ρ' m' hd ⟨a1, rfl, rfl⟩
    rw [prSs_map, List.getElem?_map] at hd
    cases ht : r[i]? with
    | none => rw [ht] at hd; cases hd
    | some s =>
      rw [ht] at hd
      cases hd
      walk_at "g"
      refine w_maxL (by assumption) _ (by with_reducible assumption) (Fx.free (by assumption) 71 rfl) ?_
      walk_at "g"
      refine w_lcM (vis' := V_Program_deep_0) (loc' := L_Program_deep_0) (gl' := G_Program_deep_0) (by assumption) O_Program_deep_0 (by decide +kernel) (by decide +kernel) ?_
      refine wi_lst (by assumption) ?_
      refine w_meth0 (by assumption) (Fp s) hj ?_
      walk_at "g"
      obtain ⟨ds, ed⟩ := prS_obj g s
      refine ⟨_, ds, ed, ix_parts s, ?_⟩
      refine ⟨s, rfl, rfl, _, rfl, ?_⟩
      refine ⟨List St, partsOf s, prog g, fun p => .int (1 + (mxS p : Nat)), rfl, by have := len_parts s; omega, fun p hp p2 acc hp2 => ⟨?_, fun X' S' => ?_, fun X' S' => ?_⟩, ?_⟩
      rotate_left
      · walk_at "g"
      · refine w_meth0 (by assumption) Fs hj ?_
        walk_at "g"
        have := parts_sz s p hp
        have := sz_mem r s (List.mem_of_getElem? ht)
        exact ⟨_, _, rfl, rfl, p, rfl, by omega, by omega, rfl, rfl⟩
      · refine ⟨_, .ll ?_, ?_⟩
        · rw [List.length_map]
          have := len_parts s
          show 1 + _ ≤ _
          omega
        refine ⟨[((mxS (r.take i) : Nat) : Int)] ++ (partsOf s).map fun p => (1 + (mxS p : Nat) : Int), ?_, by simp, fun z h1 h2 => ?_⟩
        · rw [List.map_append, List.map_map]; rfl
        · have : max (mxS (r.take i)) (depS s) = mxS (r.take (i + 1)) := by
            rw [List.take_succ, ht, mxS_app]; simp only [Option.toList_some, mxS]; omega
          rw [max_parts h1 h2, this]
          exact ⟨_, rfl, rfl⟩
  · rintro ρ' m' ⟨a1, rfl, rfl⟩
    walk_at "g"
    rw [show (prSs g r).length = r.length by rw [prSs_map, List.length_map], List.take_length]
    exact q
theorem ok_Program_size_q {g : Gb} {k : Nat} (Z : Fx g) {j : Nat} (hj : j ≤ k) (Fs : ∀ s, MeG g j (cl g (nameOf s)) "size" (spSizeN g 20 (nameOf s))) : MeG g (k + 1) (cl g "Program") "size" (spSizeQ g) :=
  Z.me 17 137 134 rfl rfl rfl rfl rfl rfl (fun _ _ _ _ _ _ us hl => match us, hl with | [_], _ => rfl) (wk_Program_size_q Z hj Fs)
theorem ok_Program_deep_q {g : Gb} {k : Nat} (Z : Fx g) {j : Nat} (hj : j ≤ k) (Fp : ∀ s, MeG g j (cl g (nameOf s)) "parts" (spPartsN g (nameOf s))) (Fs : MeG g j (cl g "Program") "deep" (spDeep g 21)) : MeG g (k + 1) (cl g "Program") "deep" (spDeepQ g) :=
  Z.me 18 138 134 rfl rfl rfl rfl rfl rfl (fun _ _ _ _ _ _ us hl => match us, hl with | [_], _ => rfl) (wk_Program_deep_q Z hj Fp Fs)
def spAskedSize : ASp := fun ds μ P => ∃ a b : Int, ds = [.int a, .int b] ∧ a ≤ 24 ∧ b ≤ 6 ∧ P .non μ
abbrev N_asked_size : List Str := ["size", "deep"]
abbrev V_asked_size : List Nat := [0, 1]
abbrev G_asked_size : List Str := ["MOST_STATEMENTS", "BadCount", "MOST_DEEP"]
theorem wk_asked_size {g : Gb} {k : Nat} (Z : Fx g)  : Wlk g k d_asked_size N_asked_size ["size", "deep"] V_asked_size V_asked_size G_asked_size spAskedSize := by
  refine ⟨⟨rfl, rfl, rfl, by decide +kernel, rfl, by decide +kernel, by decide +kernel⟩, by decide +kernel, ?_, fun X S ds μ P h => ?_⟩
  · walk_at "sp_len"
  have nn0 : N_asked_size[0]? = some ("size" : Str) := rfl
  have nn1 : N_asked_size[1]? = some ("deep" : Str) := rfl
  have gg0 : G_asked_size[0]? = some ("MOST_STATEMENTS" : Str) := rfl
  have gg1 : G_asked_size[1]? = some ("BadCount" : Str) := rfl
  have gg2 : G_asked_size[2]? = some ("MOST_DEEP" : Str) := rfl
  have gm0 : ∃ t, g.mg "MOST_STATEMENTS" = some (.int 24 t) := Z.int 82
  have gm2 : ∃ t, g.mg "MOST_DEEP" = some (.int 6 t) := Z.int 83
  refine wb_cons ?_
  obtain ⟨a, b, rfl, ha, hb, q⟩ := h
  walk_at "i"
  rw [if_neg (by simp; omega)]
  walk_at "g"
  walk_at "i"
  rw [if_neg (by simp; omega)]
  walk_at "g"
  exact q
theorem ok_asked_size {g : Gb} {k : Nat} (Z : Fx g)  : FnG g (k + 1) "asked_size" spAskedSize :=
  Z.fn 3 3 rfl rfl rfl rfl (fun _ _ _ _ _ _ us hl => match us, hl with | [_, _], _ => rfl) (wk_asked_size Z)
def spProgInit (g : Gb) : ASp := fun ds μ P => ∃ r a, ds = [.ptr a, .lst (prSs g r)] ∧ μ a = some (.ins (cl g "Program") [] []) ∧ szs r ≤ 5 ∧ P .non (up μ a (mkP g r))
abbrev N_Program_init : List Str := ["self", "statements"]
abbrev V_Program_init : List Nat := [0, 1]
abbrev G_Program_init : List Str := ["tuple", "asked_size"]
theorem wk_Program_init {g : Gb} {k : Nat} (Z : Fx g) {j : Nat} (hj : j ≤ k) (Fs : MeG g j (cl g "Program") "size" (spSizeQ g)) (Fd : MeG g j (cl g "Program") "deep" (spDeepQ g)) (Fa : FnG g j "asked_size" spAskedSize) : Wlk g k d_Program_init N_Program_init ["self", "statements"] V_Program_init V_Program_init G_Program_init (spProgInit g) := by
  refine ⟨⟨rfl, rfl, rfl, by decide +kernel, rfl, by decide +kernel, by decide +kernel⟩, by decide +kernel, ?_, fun X S ds μ P h => ?_⟩
  · walk_at "sp_len"
  have nn0 : N_Program_init[0]? = some ("self" : Str) := rfl
  have nn1 : N_Program_init[1]? = some ("statements" : Str) := rfl
  have gg0 : G_Program_init[0]? = some ("tuple" : Str) := rfl
  have gg1 : G_Program_init[1]? = some ("asked_size" : Str) := rfl
  refine wb_cons ?_
  obtain ⟨r, a, rfl, ha, hs, q⟩ := h
  refine ws_fld (by assumption) (Fx.cls (by assumption) 134 rfl) (Fx.na (by assumption) 136 rfl) (ns := []) (ds := []) rfl (by decide) ?_
  refine w_tupOfP (by assumption) _ (by with_reducible assumption) (Fx.free (by assumption) 77 rfl) ?_
  walk_at "g"
  refine ⟨a, _, rfl, ha, ?_⟩
  walk_at "g"
  refine w_methP0 (by assumption) Fs hj ?_
  walk_at "g"
  refine ⟨a, _, _, rfl, up_same, rfl, r, a, rfl, up_same, by omega, ?_⟩
  walk_at "g"
  refine w_methP0 (by assumption) Fd hj ?_
  walk_at "g"
  have := mxS_sz r
  refine ⟨a, _, _, rfl, up_same, rfl, r, a, rfl, up_same, by omega, ?_⟩
  walk_at "g"
  exact ⟨_, _, rfl, by omega, by omega, q⟩
theorem ok_Program_mk {g : Gb} {k : Nat} (Z : Fx g) {j : Nat} (hj : j ≤ k) (Fs : MeG g j (cl g "Program") "size" (spSizeQ g)) (Fd : MeG g j (cl g "Program") "deep" (spDeepQ g)) (Fa : FnG g j "asked_size" spAskedSize) : MkG g (k + 1) "Program" (cl g "Program") (spProgInit g) :=
  Z.mkG 16 135 15 rfl rfl rfl rfl rfl rfl (fun _ _ _ _ _ _ us hl => match us, hl with | [_, _], _ => rfl) (wk_Program_init Z hj Fs Fd Fa)
end
set_option maxHeartbeats 4000000
section
open PySem PySem.Spec L2
/-! ### statements are made -/
def spOnCell (C : Addr) : ASp := fun ds μ P => ∃ a c v, ds = [.ptr a, .str c, .str v] ∧ μ a = some (.ins C [] []) ∧ OkN c ∧ OkN v ∧ P .non (up μ a (.ins C ["cell", "value"] [.str c, .str v]))
abbrev N_OnCell_init : List Str := ["self", "cell", "value"]
abbrev V_OnCell_init : List Nat := [0, 1, 2]
abbrev G_OnCell_init : List Str := ["asked_names"]
theorem wk_OnCell_init {g : Gb} {k : Nat} (Z : Fx g) (C : Addr) (hc : Cls g.K C) (n1 : NoAttr g.K C "cell") (n2 : NoAttr g.K C "value") {j : Nat} (hj : j ≤ k) (Fa : FnG g j "asked_names" spAskedNames) : Wlk g k d_OnCell_init N_OnCell_init ["self", "cell", "value"] V_OnCell_init V_OnCell_init G_OnCell_init (spOnCell C) := by
  refine ⟨⟨rfl, rfl, rfl, by decide +kernel, rfl, by decide +kernel, by decide +kernel⟩, by decide +kernel, ?_, fun X S ds μ P h => ?_⟩
  · walk_at "sp_len"
  have nn0 : N_OnCell_init[0]? = some ("self" : Str) := rfl
  have nn1 : N_OnCell_init[1]? = some ("cell" : Str) := rfl
  have nn2 : N_OnCell_init[2]? = some ("value" : Str) := rfl
  have gg0 : G_OnCell_init[0]? = some ("asked_names" : Str) := rfl
  refine wb_cons ?_
  obtain ⟨a, c, v, rfl, ha, okc, okv, q⟩ := h
  walk_at "g"
  refine ⟨[c, v], rfl, by show 2 ≤ 1000; decide, fun t ht => ?_, ?_⟩
  · rcases List.mem_cons.mp ht with e | e
    · subst e; exact okc
    · have : t = v := by simpa using e
      subst this; exact okv
  walk_at "g"
  refine ws_fld (by assumption) hc n1 (ns := []) (ds := []) rfl (by decide) ?_
  walk_at "g"
  refine ⟨a, _, rfl, ha, ?_⟩
  walk_at "g"
  refine ws_fld (by assumption) hc n2 (ns := ["cell"]) (ds := []) rfl (by decide) ?_
  walk_at "g"
  refine ⟨a, _, rfl, up_same, ?_⟩
  rw [up_up]
  exact q
def spMarkI (g : Gb) : ASp := fun ds μ P => ∃ a n, ds = [.ptr a, .str n] ∧ μ a = some (.ins (cl g "Mark") [] []) ∧ OkN n ∧ P .non (up μ a (.ins (cl g "Mark") ["name"] [.str n]))
abbrev N_Mark_init : List Str := ["self", "name"]
abbrev V_Mark_init : List Nat := [0, 1]
abbrev G_Mark_init : List Str := ["asked_names"]
theorem wk_Mark_init {g : Gb} {k : Nat} (Z : Fx g) {j : Nat} (hj : j ≤ k) (Fa : FnG g j "asked_names" spAskedNames) : Wlk g k d_Mark_init N_Mark_init ["self", "name"] V_Mark_init V_Mark_init G_Mark_init (spMarkI g) := by
  refine ⟨⟨rfl, rfl, rfl, by decide +kernel, rfl, by decide +kernel, by decide +kernel⟩, by decide +kernel, ?_, fun X S ds μ P h => ?_⟩
  · walk_at "sp_len"
  have nn0 : N_Mark_init[0]? = some ("self" : Str) := rfl
  have nn1 : N_Mark_init[1]? = some ("name" : Str) := rfl
  have gg0 : G_Mark_init[0]? = some ("asked_names" : Str) := rfl
  refine wb_cons ?_
  obtain ⟨a, n, rfl, ha, okn, q⟩ := h
  walk_at "g"
  refine ⟨[n], rfl, by show 1 ≤ 1000; decide, fun t ht => ?_, ?_⟩
  · have : t = n := by simpa using ht
    subst this; exact okn
  walk_at "g"
  refine ws_fld (by assumption) (Fx.cls (by assumption) 103 rfl) (Fx.na (by assumption) 105 rfl) (ns := []) (ds := []) rfl (by decide) ?_
  walk_at "g"
  refine ⟨a, _, rfl, ha, ?_⟩
  exact q
def spIfI (g : Gb) : ASp := fun ds μ P => ∃ a c v y n, ds = [.ptr a, .str c, .str v, y, n] ∧ μ a = some (.ins (cl g "If") [] []) ∧ OkN c ∧ OkN v ∧ P .non (up μ a (.ins (cl g "If") ["cell", "value", "yes", "no"] [.str c, .str v, y, n]))
abbrev N_If_init : List Str := ["self", "cell", "value", "yes", "no"]
abbrev V_If_init : List Nat := [0, 1, 2, 3, 4]
abbrev G_If_init : List Str := ["OnCell"]
theorem wk_If_init {g : Gb} {k : Nat} (Z : Fx g) {j : Nat} (hj : j ≤ k) (Fo : ClG g j "OnCell" "__init__" (spOnCell (cl g "If"))) : Wlk g k d_If_init N_If_init ["self", "cell", "value", "yes", "no"] V_If_init V_If_init G_If_init (spIfI g) := by
  refine ⟨⟨rfl, rfl, rfl, by decide +kernel, rfl, by decide +kernel, by decide +kernel⟩, by decide +kernel, ?_, fun X S ds μ P h => ?_⟩
  · walk_at "sp_len"
  have nn0 : N_If_init[0]? = some ("self" : Str) := rfl
  have nn1 : N_If_init[1]? = some ("cell" : Str) := rfl
  have nn2 : N_If_init[2]? = some ("value" : Str) := rfl
  have nn3 : N_If_init[3]? = some ("yes" : Str) := rfl
  have nn4 : N_If_init[4]? = some ("no" : Str) := rfl
  have gg0 : G_If_init[0]? = some ("OnCell" : Str) := rfl
  have gm0 : g.mg "OnCell" = some (.ref (cl g "OnCell")) := Z.glo 5
  refine wb_cons ?_
  obtain ⟨a, c, v, y, n, rfl, ha, okc, okv, q⟩ := h
  refine ws_expr ?_
  refine w_clsf (by assumption) Fo hj ?_
  walk_at "g"
  refine ⟨a, c, v, rfl, ha, okc, okv, ?_⟩
  walk_at "g"
  refine ws_fld (by assumption) (Fx.cls (by assumption) 108 rfl) (Fx.na (by assumption) 112 rfl) (ns := ["cell", "value"]) (ds := []) rfl (by decide) ?_
  walk_at "g"
  refine ⟨a, _, rfl, up_same, ?_⟩
  walk_at "g"
  refine ws_fld (by assumption) (Fx.cls (by assumption) 108 rfl) (Fx.na (by assumption) 113 rfl) (ns := ["cell", "value", "yes"]) (ds := []) rfl (by decide) ?_
  walk_at "g"
  refine ⟨a, _, rfl, up_same, ?_⟩
  rw [up_up, up_up]
  exact q
def spWhileI (g : Gb) : ASp := fun ds μ P => ∃ a c v b, ds = [.ptr a, .str c, .str v, b] ∧ μ a = some (.ins (cl g "While") [] []) ∧ OkN c ∧ OkN v ∧ P .non (up μ a (.ins (cl g "While") ["cell", "value", "body"] [.str c, .str v, b]))
abbrev N_While_init : List Str := ["self", "cell", "value", "body"]
abbrev V_While_init : List Nat := [0, 1, 2, 3]
abbrev G_While_init : List Str := ["OnCell"]
theorem wk_While_init {g : Gb} {k : Nat} (Z : Fx g) {j : Nat} (hj : j ≤ k) (Fo : ClG g j "OnCell" "__init__" (spOnCell (cl g "While"))) : Wlk g k d_While_init N_While_init ["self", "cell", "value", "body"] V_While_init V_While_init G_While_init (spWhileI g) := by
  refine ⟨⟨rfl, rfl, rfl, by decide +kernel, rfl, by decide +kernel, by decide +kernel⟩, by decide +kernel, ?_, fun X S ds μ P h => ?_⟩
  · walk_at "sp_len"
  have nn0 : N_While_init[0]? = some ("self" : Str) := rfl
  have nn1 : N_While_init[1]? = some ("cell" : Str) := rfl
  have nn2 : N_While_init[2]? = some ("value" : Str) := rfl
  have nn3 : N_While_init[3]? = some ("body" : Str) := rfl
  have gg0 : G_While_init[0]? = some ("OnCell" : Str) := rfl
  have gm0 : g.mg "OnCell" = some (.ref (cl g "OnCell")) := Z.glo 5
  refine wb_cons ?_
  obtain ⟨a, c, v, b, rfl, ha, okc, okv, q⟩ := h
  refine ws_expr ?_
  refine w_clsf (by assumption) Fo hj ?_
  walk_at "g"
  refine ⟨a, c, v, rfl, ha, okc, okv, ?_⟩
  walk_at "g"
  refine ws_fld (by assumption) (Fx.cls (by assumption) 116 rfl) (Fx.na (by assumption) 120 rfl) (ns := ["cell", "value"]) (ds := []) rfl (by decide) ?_
  walk_at "g"
  refine ⟨a, _, rfl, up_same, ?_⟩
  rw [up_up]
  exact q
def spChooseI (g : Gb) : ASp := fun ds μ P => ∃ a y n, ds = [.ptr a, y, n] ∧ μ a = some (.ins (cl g "Choose") [] []) ∧ P .non (up μ a (.ins (cl g "Choose") ["one", "other"] [y, n]))
abbrev N_Choose_init : List Str := ["self", "one", "other"]
abbrev V_Choose_init : List Nat := [0, 1, 2]
abbrev G_Choose_init : List Str := []
theorem wk_Choose_init {g : Gb} {k : Nat} (Z : Fx g)  : Wlk g k d_Choose_init N_Choose_init ["self", "one", "other"] V_Choose_init V_Choose_init G_Choose_init (spChooseI g) := by
  refine ⟨⟨rfl, rfl, rfl, by decide +kernel, rfl, by decide +kernel, by decide +kernel⟩, by decide +kernel, ?_, fun X S ds μ P h => ?_⟩
  · walk_at "sp_len"
  have nn0 : N_Choose_init[0]? = some ("self" : Str) := rfl
  have nn1 : N_Choose_init[1]? = some ("one" : Str) := rfl
  have nn2 : N_Choose_init[2]? = some ("other" : Str) := rfl
  refine wb_cons ?_
  obtain ⟨a, y, n, rfl, ha, q⟩ := h
  refine ws_fld (by assumption) (Fx.cls (by assumption) 123 rfl) (Fx.na (by assumption) 125 rfl) (ns := []) (ds := []) rfl (by decide) ?_
  walk_at "g"
  refine ⟨a, _, rfl, ha, ?_⟩
  walk_at "g"
  refine ws_fld (by assumption) (Fx.cls (by assumption) 123 rfl) (Fx.na (by assumption) 126 rfl) (ns := ["one"]) (ds := []) rfl (by decide) ?_
  walk_at "g"
  refine ⟨a, _, rfl, up_same, ?_⟩
  rw [up_up]
  exact q
def spLoopI (g : Gb) : ASp := fun ds μ P => ∃ a y, ds = [.ptr a, y] ∧ μ a = some (.ins (cl g "Loop") [] []) ∧ P .non (up μ a (.ins (cl g "Loop") ["body"] [y]))
abbrev N_Loop_init : List Str := ["self", "body"]
abbrev V_Loop_init : List Nat := [0, 1]
abbrev G_Loop_init : List Str := []
theorem wk_Loop_init {g : Gb} {k : Nat} (Z : Fx g)  : Wlk g k d_Loop_init N_Loop_init ["self", "body"] V_Loop_init V_Loop_init G_Loop_init (spLoopI g) := by
  refine ⟨⟨rfl, rfl, rfl, by decide +kernel, rfl, by decide +kernel, by decide +kernel⟩, by decide +kernel, ?_, fun X S ds μ P h => ?_⟩
  · walk_at "sp_len"
  have nn0 : N_Loop_init[0]? = some ("self" : Str) := rfl
  have nn1 : N_Loop_init[1]? = some ("body" : Str) := rfl
  refine wb_cons ?_
  obtain ⟨a, y, rfl, ha, q⟩ := h
  refine ws_fld (by assumption) (Fx.cls (by assumption) 129 rfl) (Fx.na (by assumption) 131 rfl) (ns := []) (ds := []) rfl (by decide) ?_
  walk_at "g"
  refine ⟨a, _, rfl, ha, ?_⟩
  walk_at "g"
  exact q
theorem ok_Write_mk {g : Gb} {k : Nat} (Z : Fx g) {j : Nat} (hj : j ≤ k) (Fa : FnG g j "asked_names" spAskedNames) : MkG g (k + 1) "Write" (cl g "Write") (spOnCell (cl g "Write")) :=
  Z.mkG 6 92 6 rfl rfl rfl rfl (Z.eqm 86) rfl (fun _ _ _ _ _ _ us hl => match us, hl with | [_, _, _], _ => rfl) (wk_OnCell_init Z (cl g "Write") (Z.cls 91) (Z.na 93) (Z.na 94) hj Fa)
theorem ok_Wait_mk {g : Gb} {k : Nat} (Z : Fx g) {j : Nat} (hj : j ≤ k) (Fa : FnG g j "asked_names" spAskedNames) : MkG g (k + 1) "Wait" (cl g "Wait") (spOnCell (cl g "Wait")) :=
  Z.mkG 6 98 7 rfl rfl rfl rfl (Z.eqm 87) rfl (fun _ _ _ _ _ _ us hl => match us, hl with | [_, _, _], _ => rfl) (wk_OnCell_init Z (cl g "Wait") (Z.cls 97) (Z.na 99) (Z.na 100) hj Fa)
theorem ok_OnCell_init_cls {g : Gb} {k : Nat} (Z : Fx g) (C : Addr) (hc : Cls g.K C) (n1 : NoAttr g.K C "cell") (n2 : NoAttr g.K C "value") {j : Nat} (hj : j ≤ k) (Fa : FnG g j "asked_names" spAskedNames) : ClG g (k + 1) "OnCell" "__init__" (spOnCell C) :=
  Z.clsG 6 109 rfl rfl rfl rfl (fun _ _ _ _ _ _ us hl => match us, hl with | [_, _, _], _ => rfl) (wk_OnCell_init Z C hc n1 n2 hj Fa)
theorem ok_Mark_mk {g : Gb} {k : Nat} (Z : Fx g) {j : Nat} (hj : j ≤ k) (Fa : FnG g j "asked_names" spAskedNames) : MkG g (k + 1) "Mark" (cl g "Mark") (spMarkI g) :=
  Z.mkG 7 104 8 rfl rfl rfl rfl rfl rfl (fun _ _ _ _ _ _ us hl => match us, hl with | [_, _], _ => rfl) (wk_Mark_init Z hj Fa)
theorem ok_If_mk {g : Gb} {k : Nat} (Z : Fx g) {j : Nat} (hj : j ≤ k) (Fo : ClG g j "OnCell" "__init__" (spOnCell (cl g "If"))) : MkG g (k + 1) "If" (cl g "If") (spIfI g) :=
  Z.mkG 8 109 11 rfl rfl rfl rfl rfl rfl (fun _ _ _ _ _ _ us hl => match us, hl with | [_, _, _, _, _], _ => rfl) (wk_If_init Z hj Fo)
theorem ok_While_mk {g : Gb} {k : Nat} (Z : Fx g) {j : Nat} (hj : j ≤ k) (Fo : ClG g j "OnCell" "__init__" (spOnCell (cl g "While"))) : MkG g (k + 1) "While" (cl g "While") (spWhileI g) :=
  Z.mkG 10 117 12 rfl rfl rfl rfl rfl rfl (fun _ _ _ _ _ _ us hl => match us, hl with | [_, _, _, _], _ => rfl) (wk_While_init Z hj Fo)
theorem ok_Choose_mk {g : Gb} {k : Nat} (Z : Fx g)  : MkG g (k + 1) "Choose" (cl g "Choose") (spChooseI g) :=
  Z.mkG 12 124 13 rfl rfl rfl rfl rfl rfl (fun _ _ _ _ _ _ us hl => match us, hl with | [_, _, _], _ => rfl) (wk_Choose_init Z)
theorem ok_Loop_mk {g : Gb} {k : Nat} (Z : Fx g)  : MkG g (k + 1) "Loop" (cl g "Loop") (spLoopI g) :=
  Z.mkG 14 130 14 rfl rfl rfl rfl rfl rfl (fun _ _ _ _ _ _ us hl => match us, hl with | [_, _], _ => rfl) (wk_Loop_init Z)
end
set_option maxHeartbeats 4000000
section
open PySem PySem.Spec L2
/-! ### the law's rows made into Programs -/
def tagOf : St → Str
  | .write _ _ => "write"
  | .wait _ _ => "wait"
  | .mark _ => "mark"
  | .skip => "skip"
  | .stop => "stop"
  | .ife _ _ _ _ => "if"
  | .whl _ _ _ => "while"
  | .loop _ => "loop"
  | .choose _ _ => "choose"
def restOf : St → List D
  | .write c v => [.str c, .str v]
  | .wait c v => [.str c, .str v]
  | .mark n => [.str n]
  | .skip => []
  | .stop => []
  | .ife c v y n => [.str c, .str v, .tup (lawDs y), .tup (lawDs n)]
  | .whl c v b => [.str c, .str v, .tup (lawDs b)]
  | .loop b => [.tup (lawDs b)]
  | .choose a b => [.tup (lawDs a), .tup (lawDs b)]
theorem lawD_tag : ∀ s, lawD s = .tup (.str (tagOf s) :: restOf s) := fun s => by cases s <;> rfl
theorem cv_ok {pl : Plan} (h : PlanOk pl) {c v : Str} (q : CV pl c v) : OkN c ∧ OkN v := by
  obtain ⟨vs, h1, h2⟩ := q
  exact ⟨(h.ok _ h1).nm, (h.ok _ h1).ok v h2⟩
theorem parts_ok {pl : Plan} {ms : List Str} : ∀ (s : St) (r : List St), stOk pl ms s → r ∈ partsOf s → rowOk pl ms r := fun s r h hr => by
  cases s <;> simp only [partsOf, List.mem_cons, List.not_mem_nil, or_false] at hr
  · rcases hr with e | e <;> subst e
    · exact h.2.1
    · exact h.2.2
  · subst hr; exact h.2
  · subst hr; exact h
  · rcases hr with e | e <;> subst e
    · exact h.1
    · exact h.2
theorem row_mem {pl : Plan} {ms : List Str} : ∀ {r : List St} {s : St}, rowOk pl ms r → s ∈ r → stOk pl ms s
  | x :: r, s, h, hs => by
    rcases List.mem_cons.mp hs with e | e
    · subst e; exact h.1
    · exact row_mem h.2 e
theorem tag_write : ∀ {s : St}, tagOf s = "write" → ∃ c v, s = .write c v := fun {s} e => by
  cases s <;> first | exact ⟨_, _, rfl⟩ | exact absurd e (by simp only [tagOf]; decide)
theorem tag_wait : ∀ {s : St}, tagOf s = "wait" → ∃ c v, s = .wait c v := fun {s} e => by
  cases s <;> first | exact ⟨_, _, rfl⟩ | exact absurd e (by simp only [tagOf]; decide)
theorem tag_mark : ∀ {s : St}, tagOf s = "mark" → ∃ nn, s = .mark nn := fun {s} e => by
  cases s <;> first | exact ⟨_, rfl⟩ | exact absurd e (by simp only [tagOf]; decide)
theorem tag_if : ∀ {s : St}, tagOf s = "if" → ∃ c v y nn, s = .ife c v y nn := fun {s} e => by
  cases s <;> first | exact ⟨_, _, _, _, rfl⟩ | exact absurd e (by simp only [tagOf]; decide)
theorem tag_while : ∀ {s : St}, tagOf s = "while" → ∃ c v b, s = .whl c v b := fun {s} e => by
  cases s <;> first | exact ⟨_, _, _, rfl⟩ | exact absurd e (by simp only [tagOf]; decide)
theorem tag_choose : ∀ {s : St}, tagOf s = "choose" → ∃ y nn, s = .choose y nn := fun {s} e => by
  cases s <;> first | exact ⟨_, _, rfl⟩ | exact absurd e (by simp only [tagOf]; decide)
theorem tag_loop : ∀ {s : St}, tagOf s = "loop" → ∃ b, s = .loop b := fun {s} e => by
  cases s <;> first | exact ⟨_, rfl⟩ | exact absurd e (by simp only [tagOf]; decide)
def spBuilt (g : Gb) (n : Nat) : ASp := fun ds μ P => ∃ s pl ms, ds = [lawD s] ∧ PlanOk pl ∧ MsOk ms ∧ stOk pl ms s ∧ sz s ≤ n ∧ n ≤ 5 ∧ P (prS g s) μ
def spMade (g : Gb) (n : Nat) : ASp := fun ds μ P => ∃ r pl ms, ds = [rowD r] ∧ PlanOk pl ∧ MsOk ms ∧ rowOk pl ms r ∧ szs r ≤ n ∧ n ≤ 5 ∧ P (prog g r) μ
abbrev N_law_made : List Str := ["_law_row_here", "_law_one"]
abbrev V_law_made : List Nat := [0]
abbrev G_law_made : List Str := ["Program"]
abbrev V_law_made_0 : List Nat := [1]
abbrev L_law_made_0 : List Nat := [1]
abbrev G_law_made_0 : List Str := ["_law_built"]
abbrev O_law_made_0 : List (Str × Nat) := [("_law_one", 1)]
theorem wk_law_made {g : Gb} {k : Nat} (Z : Fx g) (n : Nat) {j : Nat} (hj : j + 1 ≤ k) (Fb : FnG g j "_law_built" (spBuilt g n)) (Fp : MkG g j "Program" (cl g "Program") (spProgInit g)) : Wlk g k d_law_made N_law_made ["_law_row_here"] V_law_made V_law_made G_law_made (spMade g n) := by
  refine ⟨⟨rfl, rfl, rfl, by decide +kernel, rfl, by decide +kernel, by decide +kernel⟩, by decide +kernel, ?_, fun X S ds μ P h => ?_⟩
  · walk_at "sp_len"
  have nn0 : N_law_made[0]? = some ("_law_row_here" : Str) := rfl
  have nn1 : N_law_made[1]? = some ("_law_one" : Str) := rfl
  have gg0 : G_law_made[0]? = some ("Program" : Str) := rfl
  have gc0_0 : G_law_made_0[0]? = some ("_law_built" : Str) := rfl
  refine wb_cons ?_
  obtain ⟨r, pl, ms, rfl, pok, mok, rok, hs, hn, q⟩ := h
  refine ws_ret ?_
  refine w_make (by assumption) Fp hj _ (by with_reducible assumption) ?_
  walk_at "g"
  refine w_lcM (vis' := V_law_made_0) (loc' := L_law_made_0) (gl' := G_law_made_0) (by assumption) O_law_made_0 (by decide +kernel) (by decide +kernel) ?_
  refine wi_tup (by assumption) ?_
  walk_at "g"
  refine ⟨St, r, lawD, prS g, lawDs_map r, by have := len_szs r; omega, fun s hs2 p2 acc hp2 => ⟨?_, fun X' S' => ?_, fun X' S' => ?_⟩, ?_⟩
  rotate_left
  · walk_at "g"
  · walk_at "g"
    have := sz_mem r s hs2
    exact ⟨s, pl, ms, rfl, pok, mok, row_mem rok hs2, by omega, hn, rfl, rfl⟩
  · walk_at "g"
    intro a ha
    rw [← prSs_map]
    refine ⟨r, a, rfl, up_same, by omega, rfl, ["row"], [.tup (prSs g r)], by rw [up_up]; exact up_same, ?_⟩
    rw [up_up, dl_up ha]
    exact q
abbrev N_law_built : List Str := ["_law_one", "_law_some", "_law_part"]
abbrev V_law_built : List Nat := [0, 1]
abbrev G_law_built : List Str := ["_law_parts", "Write", "Wait", "Mark", "If", "While", "Choose", "Loop", "Stop", "Skip", "int"]
abbrev V_law_built_0 : List Nat := [2]
abbrev L_law_built_0 : List Nat := [2]
abbrev G_law_built_0 : List Str := ["_law_made"]
abbrev O_law_built_0 : List (Str × Nat) := [("_law_part", 2)]
theorem wk_law_built {g : Gb} {k : Nat} (Z : Fx g) (n : Nat) {j : Nat} (hj : j + 1 ≤ k) (Fq : FnG g j "_law_parts" spParts) (Fm : FnG g j "_law_made" (spMade g (n - 1))) (Mw : MkG g j "Write" (cl g "Write") (spOnCell (cl g "Write"))) (Mi : MkG g j "Wait" (cl g "Wait") (spOnCell (cl g "Wait"))) (Mm : MkG g j "Mark" (cl g "Mark") (spMarkI g)) (Mf : MkG g j "If" (cl g "If") (spIfI g)) (Ml : MkG g j "While" (cl g "While") (spWhileI g)) (Mc : MkG g j "Choose" (cl g "Choose") (spChooseI g)) (Mo : MkG g j "Loop" (cl g "Loop") (spLoopI g)) : Wlk g k d_law_built N_law_built ["_law_one"] V_law_built V_law_built G_law_built (spBuilt g n) := by
  refine ⟨⟨rfl, rfl, rfl, by decide +kernel, rfl, by decide +kernel, by decide +kernel⟩, by decide +kernel, ?_, fun X S ds μ P h => ?_⟩
  · walk_at "sp_len"
  have nn0 : N_law_built[0]? = some ("_law_one" : Str) := rfl
  have nn1 : N_law_built[1]? = some ("_law_some" : Str) := rfl
  have nn2 : N_law_built[2]? = some ("_law_part" : Str) := rfl
  have gg0 : G_law_built[0]? = some ("_law_parts" : Str) := rfl
  have gg1 : G_law_built[1]? = some ("Write" : Str) := rfl
  have gg2 : G_law_built[2]? = some ("Wait" : Str) := rfl
  have gg3 : G_law_built[3]? = some ("Mark" : Str) := rfl
  have gg4 : G_law_built[4]? = some ("If" : Str) := rfl
  have gg5 : G_law_built[5]? = some ("While" : Str) := rfl
  have gg6 : G_law_built[6]? = some ("Choose" : Str) := rfl
  have gg7 : G_law_built[7]? = some ("Loop" : Str) := rfl
  have gg8 : G_law_built[8]? = some ("Stop" : Str) := rfl
  have gg9 : G_law_built[9]? = some ("Skip" : Str) := rfl
  have gg10 : G_law_built[10]? = some ("int" : Str) := rfl
  have gm1 : g.mg "Write" = some (.ref (cl g "Write")) := Z.glo 6
  have gm2 : g.mg "Wait" = some (.ref (cl g "Wait")) := Z.glo 7
  have gm3 : g.mg "Mark" = some (.ref (cl g "Mark")) := Z.glo 8
  have gm4 : g.mg "If" = some (.ref (cl g "If")) := Z.glo 11
  have gm5 : g.mg "While" = some (.ref (cl g "While")) := Z.glo 12
  have gm6 : g.mg "Choose" = some (.ref (cl g "Choose")) := Z.glo 13
  have gm7 : g.mg "Loop" = some (.ref (cl g "Loop")) := Z.glo 14
  have gm8 : g.mg "Stop" = some (.ref (cl g "Stop")) := Z.glo 10
  have gm9 : g.mg "Skip" = some (.ref (cl g "Skip")) := Z.glo 9
  have gc0_0 : G_law_built_0[0]? = some ("_law_made" : Str) := rfl
  refine wb_cons ?_
  obtain ⟨s, pl, ms, rfl, pok, mok, sok, hs, hn, q⟩ := h
  refine ws_setLcM (vis' := V_law_built_0) (loc' := L_law_built_0) (gl' := G_law_built_0) (by assumption) (by with_reducible assumption) (by rfl) (by rfl) (by rfl) (by rfl) O_law_built_0 (by decide +kernel) (by decide +kernel) ?_
  refine wi_tup (by assumption) ?_
  refine w_call (by assumption) Fq (by omega) _ (by with_reducible assumption) ?_
  walk_at "g"
  refine ⟨s, rfl, _, rfl, ?_⟩
  refine ⟨List St, partsOf s, rowD, prog g, rfl, by have := len_parts s; omega, fun r hr p2 acc hp2 => ⟨?_, fun X' S' => ?_, fun X' S' => ?_⟩, ?_⟩
  rotate_left
  · walk_at "g"
  · refine w_call (by assumption) Fm (by omega) _ (by with_reducible assumption) ?_
    walk_at "g"
    have := parts_sz s r hr
    exact ⟨r, pl, ms, rfl, pok, mok, parts_ok s r sok hr, by omega, by omega, rfl, rfl⟩
  have htag : ini N_law_built [lawD s] = [some (.tup (.str (tagOf s) :: restOf s)), none, none] := by rw [lawD_tag]; rfl
  rw [htag]
  walk_at "g"
  walk_at "i"
  split
  · rename_i h0
    have e := of_decide_eq_true h0
    obtain ⟨c, v, rfl⟩ := tag_write e
    obtain ⟨okc, okv⟩ := cv_ok pok sok
    walk_at "g"
    refine w_make (by assumption) Mw hj _ (by with_reducible assumption) ?_
    walk_at "g"
    intro a ha
    refine ⟨a, c, v, rfl, up_same, okc, okv, rfl, _, _, by rw [up_up]; exact up_same, ?_⟩
    rw [up_up, dl_up ha]
    exact q
  walk_at "g"
  walk_at "i"
  split
  · rename_i h0
    have e := of_decide_eq_true h0
    obtain ⟨c, v, rfl⟩ := tag_wait e
    obtain ⟨okc, okv⟩ := cv_ok pok sok
    walk_at "g"
    refine w_make (by assumption) Mi hj _ (by with_reducible assumption) ?_
    walk_at "g"
    intro a ha
    refine ⟨a, c, v, rfl, up_same, okc, okv, rfl, _, _, by rw [up_up]; exact up_same, ?_⟩
    rw [up_up, dl_up ha]
    exact q
  walk_at "g"
  walk_at "i"
  split
  · rename_i h0
    have e := of_decide_eq_true h0
    obtain ⟨nn, rfl⟩ := tag_mark e
    walk_at "g"
    refine w_make (by assumption) Mm hj _ (by with_reducible assumption) ?_
    walk_at "g"
    intro a ha
    refine ⟨a, nn, rfl, up_same, mok.ok nn sok, rfl, _, _, by rw [up_up]; exact up_same, ?_⟩
    rw [up_up, dl_up ha]
    exact q
  walk_at "g"
  walk_at "i"
  split
  · rename_i h0
    have e := of_decide_eq_true h0
    obtain ⟨c, v, y, nn, rfl⟩ := tag_if e
    obtain ⟨okc, okv⟩ := cv_ok pok sok.1
    walk_at "g"
    refine w_make (by assumption) Mf hj _ (by with_reducible assumption) ?_
    walk_at "g"
    intro a ha
    refine ⟨a, c, v, _, _, rfl, up_same, okc, okv, rfl, _, _, by rw [up_up]; exact up_same, ?_⟩
    rw [up_up, dl_up ha]
    exact q
  walk_at "g"
  walk_at "i"
  split
  · rename_i h0
    have e := of_decide_eq_true h0
    obtain ⟨c, v, b, rfl⟩ := tag_while e
    obtain ⟨okc, okv⟩ := cv_ok pok sok.1
    walk_at "g"
    refine w_make (by assumption) Ml hj _ (by with_reducible assumption) ?_
    walk_at "g"
    intro a ha
    refine ⟨a, c, v, _, rfl, up_same, okc, okv, rfl, _, _, by rw [up_up]; exact up_same, ?_⟩
    rw [up_up, dl_up ha]
    exact q
  walk_at "g"
  walk_at "i"
  split
  · rename_i h0
    have e := of_decide_eq_true h0
    obtain ⟨y, nn, rfl⟩ := tag_choose e
    walk_at "g"
    refine w_make (by assumption) Mc hj _ (by with_reducible assumption) ?_
    walk_at "g"
    intro a ha
    refine ⟨a, _, _, rfl, up_same, rfl, _, _, by rw [up_up]; exact up_same, ?_⟩
    rw [up_up, dl_up ha]
    exact q
  walk_at "g"
  walk_at "i"
  split
  · rename_i h0
    have e := of_decide_eq_true h0
    obtain ⟨b, rfl⟩ := tag_loop e
    walk_at "g"
    refine w_make (by assumption) Mo hj _ (by with_reducible assumption) ?_
    walk_at "g"
    intro a ha
    refine ⟨a, _, rfl, up_same, rfl, _, _, by rw [up_up]; exact up_same, ?_⟩
    rw [up_up, dl_up ha]
    exact q
  walk_at "g"
  refine w_bare (x := "Stop") (by assumption) Z 98 10 rfl rfl (by with_reducible assumption) ?_
  walk_at "g"
  refine w_bare (x := "Skip") (by assumption) Z 97 9 rfl rfl (by with_reducible assumption) ?_
  walk_at "g"
  rename_i h1 h2 h3 h4 h5 h6 h7
  cases s with
  | skip => exact ⟨_, .l (by rfl), q⟩
  | stop => exact ⟨_, .l (by rfl), q⟩
  | write _ _ => exact absurd (decide_eq_true rfl) h1
  | wait _ _ => exact absurd (decide_eq_true rfl) h2
  | mark _ => exact absurd (decide_eq_true rfl) h3
  | ife _ _ _ _ => exact absurd (decide_eq_true rfl) h4
  | whl _ _ _ => exact absurd (decide_eq_true rfl) h5
  | choose _ _ => exact absurd (decide_eq_true rfl) h6
  | loop _ => exact absurd (decide_eq_true rfl) h7
end
set_option maxHeartbeats 4000000
section
open PySem PySem.Spec L2
/-! ### the board -/
def boardD (g : Gb) (pl : Plan) : D := .obj (cl g "Board") ["names", "rows"] [.tupx (pl.map fun c => .str c.1), .dic (pl.map fun c => .inr c.1) (pl.map fun c => .tup (c.2.map .str))]
def spAskedCells : ASp := fun ds μ P => ∃ pl, ds = [planD pl] ∧ PlanOk pl ∧ P .non μ
abbrev N_asked_cells : List Str := ["cells", "name", "values"]
abbrev V_asked_cells : List Nat := [0, 1, 2]
abbrev G_asked_cells : List Str := ["len", "MOST_CELLS", "BadCount", "asked_names", "LEAST_VALUES", "MOST_VALUES", "asked_once"]
abbrev V_asked_cells_0 : List Nat := [1, 2]
abbrev L_asked_cells_0 : List Nat := [1, 2]
abbrev G_asked_cells_0 : List Str := []
abbrev O_asked_cells_0 : List (Str × Nat) := [("name", 1), ("values", 2)]
theorem wk_asked_cells {g : Gb} {k : Nat} (Z : Fx g) {j : Nat} (hj : j ≤ k) (Fn : FnG g j "asked_names" spAskedNames) (Fo : FnG g j "asked_once" spAskedOnce) : Wlk g k d_asked_cells N_asked_cells ["cells"] V_asked_cells V_asked_cells G_asked_cells spAskedCells := by
  refine ⟨⟨rfl, rfl, rfl, by decide +kernel, rfl, by decide +kernel, by decide +kernel⟩, by decide +kernel, ?_, fun X S ds μ P h => ?_⟩
  · walk_at "sp_len"
  have nn0 : N_asked_cells[0]? = some ("cells" : Str) := rfl
  have nn1 : N_asked_cells[1]? = some ("name" : Str) := rfl
  have nn2 : N_asked_cells[2]? = some ("values" : Str) := rfl
  have gg0 : G_asked_cells[0]? = some ("len" : Str) := rfl
  have gg1 : G_asked_cells[1]? = some ("MOST_CELLS" : Str) := rfl
  have gg2 : G_asked_cells[2]? = some ("BadCount" : Str) := rfl
  have gg3 : G_asked_cells[3]? = some ("asked_names" : Str) := rfl
  have gg4 : G_asked_cells[4]? = some ("LEAST_VALUES" : Str) := rfl
  have gg5 : G_asked_cells[5]? = some ("MOST_VALUES" : Str) := rfl
  have gg6 : G_asked_cells[6]? = some ("asked_once" : Str) := rfl
  have gm1 : ∃ t, g.mg "MOST_CELLS" = some (.int 3 t) := Z.int 88
  have gm4 : ∃ t, g.mg "LEAST_VALUES" = some (.int 2 t) := Z.int 89
  have gm5 : ∃ t, g.mg "MOST_VALUES" = some (.int 4 t) := Z.int 90
  refine wb_cons ?_
  obtain ⟨pl, rfl, ok, q⟩ := h
  have l1 := ok.l1
  have l2 := ok.l2
  refine ws_ifc (fun t m => t = false ∧ m = μ) ?_ (fun _ h => by cases h.1) ?_
  · walk_at "g"
    have e1 : decide ((1 : Int) ≤ ((pl.map cellD).length : Nat)) = true := decide_eq_true (by rw [List.length_map]; omega)
    have e2 : decide ((((pl.map cellD).length : Nat) : Int) ≤ 3) = true := decide_eq_true (by rw [List.length_map]; omega)
    rw [if_pos e1]
    walk_at "g"
    rw [e2]
    exact ⟨rfl, rfl⟩
  rintro m ⟨_, rfl⟩
  walk_at "g"
  refine ws_for (by assumption) ?_
  refine wi_lst (by assumption) ?_
  walk_at "g"
  refine ⟨fun i ρ' m' => ∃ a1 a2, ρ' = [some (planD pl), a1, a2] ∧ m' = m, ⟨_, _, rfl, rfl⟩, ?_, ?_⟩
  · rintro i d ρ' m' hd ⟨a1, a2, rfl, rfl⟩
    rw [List.getElem?_map] at hd
    cases ht : pl[i]? with
    | none => rw [ht] at hd; cases hd
    | some c =>
      rw [ht] at hd
      cases hd
      have cok := ok.ok c (List.mem_of_getElem? ht)
      have c2 := cok.l2
      have c3 := cok.l3
      walk_at "g"
      refine ⟨[c.1], rfl, by show 1 ≤ 1000; decide, fun t ht => ?_, ?_⟩
      · have : t = c.1 := by simpa using ht
        subst this; exact cok.nm
      walk_at "g"
      refine ws_ifc (fun t mm => t = false ∧ mm = m') ?_ (fun _ h => by cases h.1) ?_
      · walk_at "g"
        have e1 : decide ((2 : Int) ≤ ((c.2.map D.str).length : Nat)) = true := decide_eq_true (by rw [List.length_map]; omega)
        have e2 : decide ((((c.2.map D.str).length : Nat) : Int) ≤ 4) = true := decide_eq_true (by rw [List.length_map]; omega)
        rw [if_pos e1]
        walk_at "g"
        rw [e2]
        exact ⟨rfl, rfl⟩
      rintro m ⟨_, rfl⟩
      walk_at "g"
      refine ⟨c.2, rfl, by omega, cok.ok, ?_⟩
      walk_at "g"
      refine ⟨c.2, rfl, by omega, cok.nd, ?_⟩
      exact ⟨_, _, rfl, rfl⟩
  · rintro ρ' m' ⟨a1, a2, rfl, rfl⟩
    walk_at "g"
    refine w_lcM (vis' := V_asked_cells_0) (loc' := L_asked_cells_0) (gl' := G_asked_cells_0) (by assumption) O_asked_cells_0 (by decide +kernel) (by decide +kernel) ?_
    refine wi_lst (by assumption) ?_
    walk_at "g"
    refine ⟨Str × List Str, pl, cellD, fun c => .str c.1, rfl, by omega, fun c hc p2 acc hp2 => ⟨?_, fun X' S' => ?_, fun X' S' => ?_⟩, ?_⟩
    rotate_left
    · walk_at "g"
    · walk_at "g"
    walk_at "g"
    refine ⟨pl.map (·.1), by rw [List.map_map]; rfl, by rw [List.length_map]; omega, ok.nd, ?_⟩
    walk_at "g"
    exact q
theorem ok_asked_cells {g : Gb} {k : Nat} (Z : Fx g) {j : Nat} (hj : j ≤ k) (Fn : FnG g j "asked_names" spAskedNames) (Fo : FnG g j "asked_once" spAskedOnce) : FnG g (k + 1) "asked_cells" spAskedCells :=
  Z.fn 51 31 rfl rfl rfl rfl (fun _ _ _ _ _ _ us hl => match us, hl with | [_], _ => rfl) (wk_asked_cells Z hj Fn Fo)
def spBoardI (g : Gb) : ASp := fun ds μ P => ∃ pl a, ds = [.ptr a, planD pl] ∧ μ a = some (.ins (cl g "Board") [] []) ∧ PlanOk pl ∧ P .non (up μ a (.ins (cl g "Board") ["names", "rows"] [.tupx (pl.map fun c => .str c.1), .dic (pl.map fun c => .inr c.1) (pl.map fun c => .tup (c.2.map .str))]))
abbrev N_Board_init : List Str := ["self", "cells", "name", "values"]
abbrev V_Board_init : List Nat := [0, 1, 2, 3]
abbrev G_Board_init : List Str := ["asked_cells", "tuple"]
abbrev V_Board_init_0 : List Nat := [2, 3]
abbrev L_Board_init_0 : List Nat := [2, 3]
abbrev G_Board_init_0 : List Str := []
abbrev O_Board_init_0 : List (Str × Nat) := [("name", 2), ("values", 3)]
theorem wk_Board_init {g : Gb} {k : Nat} (Z : Fx g) {j : Nat} (hj : j ≤ k) (Fa : FnG g j "asked_cells" spAskedCells) : Wlk g k d_Board_init N_Board_init ["self", "cells"] V_Board_init V_Board_init G_Board_init (spBoardI g) := by
  refine ⟨⟨rfl, rfl, rfl, by decide +kernel, rfl, by decide +kernel, by decide +kernel⟩, by decide +kernel, ?_, fun X S ds μ P h => ?_⟩
  · walk_at "sp_len"
  have nn0 : N_Board_init[0]? = some ("self" : Str) := rfl
  have nn1 : N_Board_init[1]? = some ("cells" : Str) := rfl
  have nn2 : N_Board_init[2]? = some ("name" : Str) := rfl
  have nn3 : N_Board_init[3]? = some ("values" : Str) := rfl
  have gg0 : G_Board_init[0]? = some ("asked_cells" : Str) := rfl
  have gg1 : G_Board_init[1]? = some ("tuple" : Str) := rfl
  refine wb_cons ?_
  obtain ⟨pl, a, rfl, ha, ok, q⟩ := h
  have l1 := ok.l1
  have l2 := ok.l2
  walk_at "g"
  refine ⟨pl, rfl, ok, ?_⟩
  walk_at "g"
  refine ws_fld (by assumption) (Fx.cls (by assumption) 177 rfl) (Fx.na (by assumption) 179 rfl) (ns := []) (ds := []) rfl (by decide) ?_
  refine w_tupOf (by assumption) _ (by with_reducible assumption) (Fx.free (by assumption) 77 rfl) ?_
  refine w_lcM (vis' := V_Board_init_0) (loc' := L_Board_init_0) (gl' := G_Board_init_0) (by assumption) O_Board_init_0 (by decide +kernel) (by decide +kernel) ?_
  refine wi_lst (by assumption) ?_
  walk_at "g"
  refine ⟨Str × List Str, pl, cellD, fun c => .str c.1, rfl, by omega, fun c hc p2 acc hp2 => ⟨?_, fun X' S' => ?_, fun X' S' => ?_⟩, ?_⟩
  rotate_left
  · walk_at "g"
  · walk_at "g"
  walk_at "g"
  refine ⟨a, _, rfl, ha, ?_⟩
  walk_at "g"
  refine ws_fld (by assumption) (Fx.cls (by assumption) 177 rfl) (Fx.na (by assumption) 180 rfl) (ns := ["names"]) (ds := []) rfl (by decide) ?_
  refine w_newD fun dd hdd => ?_
  walk_at "g"
  have had : a ≠ dd := mu_ne up_same hdd
  refine ⟨a, _, rfl, by rw [up_ne had]; exact up_same, ?_⟩
  have hmu : up (up (up μ a (.ins (cl g "Board") ["names"] [.tupx (pl.map fun c => .str c.1)])) dd (.dic [] [])) a (.ins (cl g "Board") ["names", "rows"] [.tupx (pl.map fun c => .str c.1), .ptr dd]) = up (up μ a (.ins (cl g "Board") ["names", "rows"] [.tupx (pl.map fun c => .str c.1), .ptr dd])) dd (.dic [] []) := by
    rw [up_comm (Ne.symm had), up_up]
  show WB g X _ _ (up (up (up μ a (.ins (cl g "Board") ["names"] [.tupx (pl.map fun c => .str c.1)])) dd (.dic [] [])) a (.ins (cl g "Board") ["names", "rows"] [.tupx (pl.map fun c => .str c.1), .ptr dd])) _
  rw [hmu]
  refine wb_cons (ws_for (by assumption) ?_)
  refine wi_lst (by assumption) ?_
  walk_at "g"
  refine ⟨fun i ρ' m' => ∃ a2 a3, ρ' = [some (.ptr a), some (planD pl), a2, a3] ∧ m' = up (up μ a (.ins (cl g "Board") ["names", "rows"] [.tupx (pl.map fun c => .str c.1), .ptr dd])) dd (.dic ((pl.take i).map fun c => .inr c.1) ((pl.take i).map fun c => .tup (c.2.map .str))), ⟨_, _, rfl, rfl⟩, ?_, ?_⟩
  · rintro i d ρ' m' hd ⟨a1, a2, rfl, rfl⟩
    rw [List.getElem?_map] at hd
    cases ht : pl[i]? with
    | none => rw [ht] at hd; cases hd
    | some c =>
      rw [ht] at hd
      cases hd
      walk_at "g"
      refine ws_dput (by assumption) ?_
      refine w_tupOfP (by assumption) _ (by with_reducible assumption) (Fx.free (by assumption) 77 rfl) ?_
      walk_at "g"
      refine w_fldP (by assumption) (Fx.cls (by assumption) 177 rfl) (Fx.na (by assumption) 180 rfl) (ns := ["names", "rows"]) (i := 1) rfl ?_
      walk_at "g"
      refine ⟨a, _, .ptr dd, rfl, by rw [up_ne had]; exact up_same, rfl, ?_⟩
      walk_at "g"
      have hi : i < pl.length := (List.getElem?_eq_some_iff.mp ht).1
      have hnew : ∀ z, z ∈ (pl.take i).map (fun c => (Sum.inr c.1 : Key)) → ¬ z = .inr c.1 := fun z hz e => by
        obtain ⟨y, hy, ey⟩ := List.mem_map.mp hz
        rw [← ey] at e
        have e := Sum.inr.inj e
        obtain ⟨n, hn, en⟩ := List.mem_iff_getElem.mp hy
        rw [List.length_take] at hn
        rw [List.getElem_take] at en
        have e2 := (List.getElem?_eq_some_iff.mp ht).2
        have := (List.getElem_inj (i := n) (j := i) ok.nd (h₀ := by rw [List.length_map]; omega) (h₁ := by rw [List.length_map]; omega)).mp (by rw [List.getElem_map, List.getElem_map, en, e2]; exact e)
        omega
      refine ⟨dd, _, _, .inr c.1, rfl, up_same, rfl, ?_, by rw [List.length_map, List.length_take]; omega, ?_⟩
      · refine List.nodup_iff_pairwise_ne.mpr (List.pairwise_map.mpr ?_)
        have := List.pairwise_map.mp (List.nodup_iff_pairwise_ne.mp ok.nd)
        exact (this.sublist (List.take_sublist i pl)).imp fun h e => h (Sum.inr.inj e)
      · rw [putD_none hnew, up_up]
        refine ⟨_, _, rfl, ?_⟩
        rw [List.take_succ, ht]
        simp only [Option.toList_some, List.map_append, List.map_cons, List.map_nil]
  · rintro ρ' m' ⟨a1, a2, rfl, rfl⟩
    have hdn : up μ a (.ins (cl g "Board") ["names", "rows"] [.tupx (pl.map fun c => .str c.1), .ptr dd]) dd = none := by
      rw [up_ne (Ne.symm had)] at hdd ⊢; exact hdd
    rw [List.length_map, List.take_length]
    refine wb_frzF (p := a) (l := dd) (c := .dic _ _) (d := .dic _ _) 1 (by rw [up_ne had]; exact up_same) rfl up_same rfl had ?_
    rw [dl_up hdn, up_up]
    exact wb_nil q
theorem ok_Board_mk {g : Gb} {k : Nat} (Z : Fx g) {j : Nat} (hj : j ≤ k) (Fa : FnG g j "asked_cells" spAskedCells) : MkG g (k + 1) "Board" (cl g "Board") (spBoardI g) :=
  Z.mkG 52 178 32 rfl rfl rfl rfl rfl rfl (fun _ _ _ _ _ _ us hl => match us, hl with | [_, _], _ => rfl) (wk_Board_init Z hj Fa)
/-! ### its methods -/
def valsOf (pl : Plan) (c : Str) : List Str := ((pl.find? fun x => decide (x.1 = c)).map (·.2)).getD []
theorem vals_mem {pl : Plan} {c : Str} {vs : List Str} (nd : (pl.map (·.1)).Nodup) (h : (c, vs) ∈ pl) : valsOf pl c = vs := by
  unfold valsOf
  induction pl with
  | nil => cases h
  | cons x r ih =>
    rw [List.map_cons, List.nodup_cons] at nd
    rcases List.mem_cons.mp h with e | e
    · subst e; simp
    · have hne : ¬ x.1 = c := fun z => nd.1 (by rw [z]; exact List.mem_map.mpr ⟨_, e, rfl⟩)
      rw [List.find?_cons]
      simp only [hne, decide_false]
      exact ih nd.2 e
theorem vD_plan {pl : Plan} {c : Str} {vs : List Str} (nd : (pl.map (·.1)).Nodup) (h : (c, vs) ∈ pl) : vD (pl.map fun c => .inr c.1) (pl.map fun c => .tup (c.2.map .str)) (.inr c) = some (.tup (vs.map .str)) := by
  unfold vD
  induction pl with
  | nil => cases h
  | cons x r ih =>
    rw [List.map_cons, List.nodup_cons] at nd
    rw [List.map_cons, List.map_cons, List.zip_cons_cons, List.find?_cons]
    rcases List.mem_cons.mp h with e | e
    · subst e; simp
    · have hne : ¬ (Sum.inr x.1 : Key) = .inr c := fun z => nd.1 (by rw [Sum.inr.inj z]; exact List.mem_map.mpr ⟨_, e, rfl⟩)
      simp only [hne, decide_false]
      exact ih nd.2 e
def spValues (g : Gb) : ASp := fun ds μ P => ∃ pl c vs, ds = [boardD g pl, .str c] ∧ PlanOk pl ∧ (c, vs) ∈ pl ∧ P (.lst (vs.map .str)) μ
abbrev N_Board_values_of : List Str := ["self", "cell"]
abbrev V_Board_values_of : List Nat := [0, 1]
abbrev G_Board_values_of : List Str := ["NoCell", "list"]
theorem wk_Board_values_of {g : Gb} {k : Nat} (Z : Fx g)  : Wlk g k d_Board_values_of N_Board_values_of ["self", "cell"] V_Board_values_of V_Board_values_of G_Board_values_of (spValues g) := by
  refine ⟨⟨rfl, rfl, rfl, by decide +kernel, rfl, by decide +kernel, by decide +kernel⟩, by decide +kernel, ?_, fun X S ds μ P h => ?_⟩
  · walk_at "sp_len"
  have nn0 : N_Board_values_of[0]? = some ("self" : Str) := rfl
  have nn1 : N_Board_values_of[1]? = some ("cell" : Str) := rfl
  have gg0 : G_Board_values_of[0]? = some ("NoCell" : Str) := rfl
  have gg1 : G_Board_values_of[1]? = some ("list" : Str) := rfl
  refine wb_cons ?_
  obtain ⟨pl, c, vs, rfl, ok, hc, q⟩ := h
  refine ws_if (wt_dnotin (by assumption) ?_)
  walk_at "g"
  refine w_fld (by assumption) (Fx.cls (by assumption) 177 rfl) (Fx.na (by assumption) 180 rfl) (ns := ["names", "rows"]) (i := 1) rfl ?_
  walk_at "g"
  refine ⟨_, _, .inr c, rfl, rfl, ?_⟩
  rw [vD_plan ok.nd hc]
  rw [if_neg (by exact Bool.false_ne_true)]
  walk_at "e"
  walk_at "e"
  walk_at "e"
  walk_at "e"
  refine w_dget (by assumption) ?_
  refine w_fld (by assumption) (Fx.cls (by assumption) 177 rfl) (Fx.na (by assumption) 180 rfl) (ns := ["names", "rows"]) (i := 1) rfl ?_
  walk_at "g"
  refine ⟨_, _, .inr c, _, rfl, rfl, vD_plan ok.nd hc, ?_⟩
  exact ⟨_, .inr (.inl rfl), q⟩
theorem ok_Board_values_of {g : Gb} {k : Nat} (Z : Fx g)  : MeG g (k + 1) (cl g "Board") "values_of" (spValues g) :=
  Z.me 53 181 177 rfl rfl rfl rfl rfl rfl (fun _ _ _ _ _ _ us hl => match us, hl with | [_, _], _ => rfl) (wk_Board_values_of Z)
theorem plan_names {pl : Plan} : (pl.map fun c => D.str c.1) = (pl.map (·.1)).map D.str := by rw [List.map_map]; rfl
def firstOf (pl : Plan) : List Str := pl.map fun c => c.2.headD (Str.ofString "")
def spFirst (g : Gb) : ASp := fun ds μ P => ∃ pl, ds = [boardD g pl] ∧ PlanOk pl ∧ P (.tup ((firstOf pl).map .str)) μ
abbrev N_Board_first : List Str := ["self", "name"]
abbrev V_Board_first : List Nat := [0]
abbrev G_Board_first : List Str := ["tuple"]
abbrev V_Board_first_0 : List Nat := [0, 1]
abbrev L_Board_first_0 : List Nat := [1]
abbrev G_Board_first_0 : List Str := []
abbrev O_Board_first_0 : List (Str × Nat) := [("name", 1)]
theorem wk_Board_first {g : Gb} {k : Nat} (Z : Fx g)  : Wlk g k d_Board_first N_Board_first ["self"] V_Board_first V_Board_first G_Board_first (spFirst g) := by
  refine ⟨⟨rfl, rfl, rfl, by decide +kernel, rfl, by decide +kernel, by decide +kernel⟩, by decide +kernel, ?_, fun X S ds μ P h => ?_⟩
  · walk_at "sp_len"
  have nn0 : N_Board_first[0]? = some ("self" : Str) := rfl
  have nn1 : N_Board_first[1]? = some ("name" : Str) := rfl
  have gg0 : G_Board_first[0]? = some ("tuple" : Str) := rfl
  refine wb_cons ?_
  obtain ⟨pl, rfl, ok, q⟩ := h
  have l2 := ok.l2
  walk_at "e"
  refine w_tupOfP (by assumption) _ (by with_reducible assumption) (Fx.free (by assumption) 77 rfl) ?_
  refine w_lcM (vis' := V_Board_first_0) (loc' := L_Board_first_0) (gl' := G_Board_first_0) (by assumption) O_Board_first_0 (by decide +kernel) (by decide +kernel) ?_
  refine wi_tupx (by assumption) ?_
  refine w_fld (by assumption) (Fx.cls (by assumption) 177 rfl) (Fx.na (by assumption) 179 rfl) (ns := ["names", "rows"]) (i := 0) rfl ?_
  walk_at "g"
  refine ⟨Str × List Str, pl, fun c => .str c.1, fun c => .str (c.2.headD (Str.ofString "")), rfl, by omega, fun c hc p2 acc hp2 => ⟨?_, fun X' S' => ?_, fun X' S' => ?_⟩, ?_⟩
  rotate_left
  · walk_at "g"
  · refine w_sub1 (by assumption) ?_
    refine w_dget (by assumption) ?_
    refine w_fld (by assumption) (Fx.cls (by assumption) 177 rfl) (Fx.na (by assumption) 180 rfl) (ns := ["names", "rows"]) (i := 1) rfl ?_
    walk_at "g"
    refine ⟨_, _, .inr c.1, _, rfl, rfl, vD_plan ok.nd hc, ?_⟩
    walk_at "g"
    have h2 := (ok.ok c hc).l2
    obtain ⟨c1, vs⟩ := c
    cases vs with
    | nil => exact absurd h2 (by show ¬ 2 ≤ 0; decide)
    | cons v r => exact ⟨.str v, .t at0, rfl, rfl⟩
  · refine ⟨_, rfl, ?_⟩
    unfold firstOf at q
    rw [List.map_map] at q
    exact q
theorem ok_Board_first {g : Gb} {k : Nat} (Z : Fx g)  : MeG g (k + 1) (cl g "Board") "first" (spFirst g) :=
  Z.me 54 182 177 rfl rfl rfl rfl rfl rfl (fun _ _ _ _ _ _ us hl => match us, hl with | [_], _ => rfl) (wk_Board_first Z)
def spAsked (g : Gb) : ASp := fun ds μ P => ∃ pl c vs v, ds = [boardD g pl, .str c, .str v] ∧ PlanOk pl ∧ (c, vs) ∈ pl ∧ v ∈ vs ∧ P .non μ
theorem inV_map {z : Str} {ys : List Str} : inV (scD (.str z)) ((ys.map D.str).map scD) = decide (z ∈ ys) := by rw [List.map_map]; exact inV_strs
theorem fl_strs {ys : List Str} : (ys.map D.str).all flD = true := by
  rw [List.all_eq_true]; intro d hd; obtain ⟨t, _, e⟩ := List.mem_map.mp hd; subst e; rfl
abbrev N_Board_asked : List Str := ["self", "cell", "value"]
abbrev V_Board_asked : List Nat := [0, 1, 2]
abbrev G_Board_asked : List Str := ["NoValue"]
theorem wk_Board_asked {g : Gb} {k : Nat} (Z : Fx g) {j : Nat} (hj : j ≤ k) (Fv : MeG g j (cl g "Board") "values_of" (spValues g)) : Wlk g k d_Board_asked N_Board_asked ["self", "cell", "value"] V_Board_asked V_Board_asked G_Board_asked (spAsked g) := by
  refine ⟨⟨rfl, rfl, rfl, by decide +kernel, rfl, by decide +kernel, by decide +kernel⟩, by decide +kernel, ?_, fun X S ds μ P h => ?_⟩
  · walk_at "sp_len"
  have nn0 : N_Board_asked[0]? = some ("self" : Str) := rfl
  have nn1 : N_Board_asked[1]? = some ("cell" : Str) := rfl
  have nn2 : N_Board_asked[2]? = some ("value" : Str) := rfl
  have gg0 : G_Board_asked[0]? = some ("NoValue" : Str) := rfl
  refine wb_cons ?_
  obtain ⟨pl, c, vs, v, rfl, ok, hc, hv, q⟩ := h
  refine ws_if (wt_nin (by assumption) ?_)
  walk_at "g"
  refine w_meth (by assumption) Fv hj ?_
  walk_at "g"
  refine ⟨_, _, rfl, rfl, ?_⟩
  walk_at "g"
  refine ⟨pl, c, vs, rfl, ok, hc, _, .l rfl fl_strs, ?_⟩
  rw [inV_map, decide_eq_true hv]
  rw [if_neg (by exact Bool.false_ne_true)]
  walk_at "g"
  exact q
theorem ok_Board_asked {g : Gb} {k : Nat} (Z : Fx g) {j : Nat} (hj : j ≤ k) (Fv : MeG g j (cl g "Board") "values_of" (spValues g)) : MeG g (k + 1) (cl g "Board") "asked" (spAsked g) :=
  Z.me 55 183 177 rfl rfl rfl rfl rfl rfl (fun _ _ _ _ _ _ us hl => match us, hl with | [_, _, _], _ => rfl) (wk_Board_asked Z hj Fv)
def othersOf (vs : List Str) (v : Str) : List Str := vs.filter fun w => !decide (w = v)
def spOthers (g : Gb) : ASp := fun ds μ P => ∃ pl c vs v, ds = [boardD g pl, .str c, .str v] ∧ PlanOk pl ∧ (c, vs) ∈ pl ∧ P (.lst ((othersOf vs v).map .str)) μ
abbrev N_Board_others : List Str := ["self", "cell", "value", "one"]
abbrev V_Board_others : List Nat := [0, 1, 2]
abbrev G_Board_others : List Str := []
abbrev V_Board_others_0 : List Nat := [2, 3]
abbrev L_Board_others_0 : List Nat := [3]
abbrev G_Board_others_0 : List Str := []
abbrev O_Board_others_0 : List (Str × Nat) := [("one", 3)]
theorem wk_Board_others {g : Gb} {k : Nat} (Z : Fx g) {j : Nat} (hj : j ≤ k) (Fv : MeG g j (cl g "Board") "values_of" (spValues g)) : Wlk g k d_Board_others N_Board_others ["self", "cell", "value"] V_Board_others V_Board_others G_Board_others (spOthers g) := by
  refine ⟨⟨rfl, rfl, rfl, by decide +kernel, rfl, by decide +kernel, by decide +kernel⟩, by decide +kernel, ?_, fun X S ds μ P h => ?_⟩
  · walk_at "sp_len"
  have nn0 : N_Board_others[0]? = some ("self" : Str) := rfl
  have nn1 : N_Board_others[1]? = some ("cell" : Str) := rfl
  have nn2 : N_Board_others[2]? = some ("value" : Str) := rfl
  have nn3 : N_Board_others[3]? = some ("one" : Str) := rfl
  refine wb_cons ?_
  obtain ⟨pl, c, vs, v, rfl, ok, hc, q⟩ := h
  have := (ok.ok _ hc).l3
  walk_at "g"
  refine w_lcP (vis' := V_Board_others_0) (loc' := L_Board_others_0) (gl' := G_Board_others_0) (by assumption) O_Board_others_0 (by decide +kernel) (by decide +kernel) ?_
  refine wi_lst (by assumption) ?_
  refine w_meth (by assumption) Fv hj ?_
  walk_at "g"
  refine ⟨_, _, rfl, rfl, ?_⟩
  walk_at "g"
  refine ⟨pl, c, vs, rfl, ok, hc, _, rfl, ?_⟩
  refine ⟨Str, vs, D.str, D.str, fun w => !decide (w = v), rfl, by show vs.length ≤ _; have : vs.length ≤ 3 := this; omega, fun w hw p2 acc hp2 => ⟨?_, fun X' S' => ?_, fun X' S' => ?_, fun _ X' S' => ?_⟩, q⟩
  rotate_left
  · walk_at "g"
  · show WT _ _ _ _ _ _
    walk_at "g"
  · walk_at "g"
theorem ok_Board_others {g : Gb} {k : Nat} (Z : Fx g) {j : Nat} (hj : j ≤ k) (Fv : MeG g j (cl g "Board") "values_of" (spValues g)) : MeG g (k + 1) (cl g "Board") "others" (spOthers g) :=
  Z.me 56 184 177 rfl rfl rfl rfl rfl rfl (fun _ _ _ _ _ _ us hl => match us, hl with | [_, _, _], _ => rfl) (wk_Board_others Z hj Fv)
end
set_option maxHeartbeats 4000000
section
open PySem PySem.Spec L2
theorem ix_spec {c : Str} : ∀ {ns : List Str}, c ∈ ns → ns[ns.idxOf c]? = some c ∧ (∀ m, m < ns.idxOf c → ns[m]? ≠ some c) ∧ ns.idxOf c < ns.length
  | [], h => by cases h
  | n :: ns, h => by
    by_cases e : n = c
    · subst e
      have : (n :: ns).idxOf n = 0 := by simp [List.idxOf_cons]
      rw [this]
      exact ⟨rfl, fun m hm => absurd hm (Nat.not_lt_zero _), by simp⟩
    · have hm : c ∈ ns := by
        rcases List.mem_cons.mp h with q | q
        · exact absurd q.symm e
        · exact q
      obtain ⟨h1, h2, h3⟩ := ix_spec hm
      have hb : (n == c) = false := by simpa using e
      have : (n :: ns).idxOf c = ns.idxOf c + 1 := by simp [List.idxOf_cons, hb]
      rw [this]
      refine ⟨by simpa using h1, fun m hm => ?_, by simpa using h3⟩
      cases m with
      | zero => intro z; exact e (by simpa using z)
      | succ m => intro z; exact h2 m (by omega) (by simpa using z)
def cix (pl : Plan) (c : Str) : Nat := (pl.map (·.1)).idxOf c
theorem cut_take {ds : List D} {n : Nat} (h : n ≤ ds.length) : cutD ds none (some (n : Nat)) = ds.take n := by
  unfold cutD
  rw [HT.sIx_nat, HT.sIx_none, Nat.min_eq_left h]; rfl
theorem cut_drop {ds : List D} {n : Nat} (h : n ≤ ds.length) : cutD ds (some (n : Nat)) none = ds.drop n := by
  unfold cutD
  rw [HT.sIx_nat, HT.sIx_none, Nat.min_eq_left h, List.take_of_length_le (by rw [List.length_drop]; exact Nat.le_refl _)]
theorem set_cut {α : Type} : ∀ {l : List α} {n : Nat} {x : α}, n < l.length → l.take n ++ [x] ++ l.drop (n + 1) = l.set n x
  | a :: l, 0, x, _ => rfl
  | a :: l, n + 1, x, h => by
    have := @set_cut α l n x (by simpa using h)
    simp only [List.take_succ_cons, List.drop_succ_cons, List.set_cons_succ, List.cons_append]
    rw [this]
  | [], _, _, h => by simp at h
inductive Act where
  | go | put (c v : Str) | look (c v : Str)
def actD : Act → D
  | .go => .tup [.str "go"]
  | .put c v => .tup [.str "put", .str c, .str v]
  | .look c v => .tup [.str "look", .str c, .str v]
def actOk (pl : Plan) : Act → Prop
  | .go => True
  | .put c v => CV pl c v
  | .look c v => CV pl c v
def behindM (pl : Plan) (st : List Str) : Act → Option (List Str)
  | .go => some st
  | .put c v => some (st.set (cix pl c) v)
  | .look c v => if st[cix pl c]? = some v then some st else none
def stD (st : List Str) : D := .tup (st.map .str)
def optD : Option (List Str) → D
  | none => .non
  | some st => stD st
def spValueAt (g : Gb) : ASp := fun ds μ P => ∃ pl st c z, ds = [boardD g pl, stD st, .str c] ∧ st.length = pl.length ∧ c ∈ pl.map (·.1) ∧ st[cix pl c]? = some z ∧ P (.str z) μ
abbrev N_Board_value_at : List Str := ["self", "state", "cell"]
abbrev V_Board_value_at : List Nat := [0, 1, 2]
abbrev G_Board_value_at : List Str := []
theorem wk_Board_value_at {g : Gb} {k : Nat} (Z : Fx g)  : Wlk g k d_Board_value_at N_Board_value_at ["self", "state", "cell"] V_Board_value_at V_Board_value_at G_Board_value_at (spValueAt g) := by
  refine ⟨⟨rfl, rfl, rfl, by decide +kernel, rfl, by decide +kernel, by decide +kernel⟩, by decide +kernel, ?_, fun X S ds μ P h => ?_⟩
  · walk_at "sp_len"
  have nn0 : N_Board_value_at[0]? = some ("self" : Str) := rfl
  have nn1 : N_Board_value_at[1]? = some ("state" : Str) := rfl
  have nn2 : N_Board_value_at[2]? = some ("cell" : Str) := rfl
  refine wb_cons ?_
  obtain ⟨pl, st, c, z, rfl, hl, hc, hz, q⟩ := h
  obtain ⟨i1, i2, i3⟩ := ix_spec hc
  walk_at "g"
  refine w_tindex (by assumption) rfl ?_
  refine w_fld (by assumption) (Fx.cls (by assumption) 177 rfl) (Fx.na (by assumption) 179 rfl) (ns := ["names", "rows"]) (i := 0) rfl ?_
  walk_at "g"
  refine ⟨pl.map (·.1), by rw [plan_names], ?_⟩
  walk_at "g"
  refine ⟨c, _, rfl, i1, i2, _, .t (d := .str z) ?_, q⟩
  unfold atI
  rw [ix3 (by omega) (by rw [List.length_map] at i3 ⊢; omega)]
  show (st.map D.str)[cix pl c]? = _
  rw [List.getElem?_map, hz]; rfl
theorem ok_Board_value_at {g : Gb} {k : Nat} (Z : Fx g)  : MeG g (k + 1) (cl g "Board") "value_at" (spValueAt g) :=
  Z.me 57 185 177 rfl rfl rfl rfl rfl rfl (fun _ _ _ _ _ _ us hl => match us, hl with | [_, _, _], _ => rfl) (wk_Board_value_at Z)
def spBehind (g : Gb) : ASp := fun ds μ P => ∃ pl st a, ds = [boardD g pl, stD st, actD a] ∧ PlanOk pl ∧ st.length = pl.length ∧ actOk pl a ∧ P (optD (behindM pl st a)) μ
theorem cv_name {pl : Plan} {c v : Str} (h : CV pl c v) : c ∈ pl.map (·.1) := let ⟨vs, h1, _⟩ := h; List.mem_map.mpr ⟨_, h1, rfl⟩
abbrev N_Board_behind : List Str := ["self", "state", "act", "at"]
abbrev V_Board_behind : List Nat := [0, 1, 2, 3]
abbrev G_Board_behind : List Str := []
theorem wk_Board_behind {g : Gb} {k : Nat} (Z : Fx g)  : Wlk g k d_Board_behind N_Board_behind ["self", "state", "act"] V_Board_behind V_Board_behind G_Board_behind (spBehind g) := by
  refine ⟨⟨rfl, rfl, rfl, by decide +kernel, rfl, by decide +kernel, by decide +kernel⟩, by decide +kernel, ?_, fun X S ds μ P h => ?_⟩
  · walk_at "sp_len"
  have nn0 : N_Board_behind[0]? = some ("self" : Str) := rfl
  have nn1 : N_Board_behind[1]? = some ("state" : Str) := rfl
  have nn2 : N_Board_behind[2]? = some ("act" : Str) := rfl
  have nn3 : N_Board_behind[3]? = some ("at" : Str) := rfl
  refine wb_cons ?_
  obtain ⟨pl, st, a, rfl, ok, hl, hok, q⟩ := h
  have l2 := ok.l2
  cases a with
  | go =>
    walk_at "i"
    rw [if_pos (by decide +kernel)]
    walk_at "g"
    exact q
  | put c v =>
    obtain ⟨i1, i2, i3⟩ := ix_spec (cv_name hok)
    have i3' : cix pl c < st.length := by rw [List.length_map] at i3; unfold cix; omega
    walk_at "i"
    rw [if_neg (by decide +kernel)]
    walk_at "g"
    refine w_tindex (by assumption) rfl ?_
    refine w_fld (by assumption) (Fx.cls (by assumption) 177 rfl) (Fx.na (by assumption) 179 rfl) (ns := ["names", "rows"]) (i := 0) rfl ?_
    walk_at "g"
    refine ⟨pl.map (·.1), by rw [plan_names], ?_⟩
    walk_at "g"
    refine ⟨c, cix pl c, rfl, i1, i2, ?_⟩
    walk_at "g"
    walk_at "i"
    rw [if_pos (by decide +kernel)]
    have e1 : cutD (st.map D.str) none (some (cix pl c : Nat)) = (st.map D.str).take (cix pl c) := cut_take (by rw [List.length_map]; omega)
    have e2 : cutD (st.map D.str) (some ((cix pl c : Nat) + 1)) none = (st.map D.str).drop (cix pl c + 1) := cut_drop (n := cix pl c + 1) (by rw [List.length_map]; omega)
    walk_at "g"
    · rw [e1, e2, List.length_append, List.length_take, List.length_drop, List.length_map]
      show _ + 1 + _ ≤ _
      omega
    · rw [e1, e2, set_cut (by rw [List.length_map]; omega)]
      have e3 : (st.map D.str).set (cix pl c) (.str v) = (st.set (cix pl c) v).map D.str := by rw [List.map_set]
      rw [e3]
      exact q
    · rw [e1, List.length_take, List.length_map]
      show _ + 1 ≤ _
      omega
  | look c v =>
    obtain ⟨i1, i2, i3⟩ := ix_spec (cv_name hok)
    have i3' : cix pl c < st.length := by rw [List.length_map] at i3; unfold cix; omega
    walk_at "i"
    rw [if_neg (by decide +kernel)]
    walk_at "g"
    refine w_tindex (by assumption) rfl ?_
    refine w_fld (by assumption) (Fx.cls (by assumption) 177 rfl) (Fx.na (by assumption) 179 rfl) (ns := ["names", "rows"]) (i := 0) rfl ?_
    walk_at "g"
    refine ⟨pl.map (·.1), by rw [plan_names], ?_⟩
    walk_at "g"
    refine ⟨c, cix pl c, rfl, i1, i2, ?_⟩
    walk_at "g"
    walk_at "i"
    rw [if_neg (by decide +kernel)]
    walk_at "g"
    walk_at "i"
    refine ⟨_, .t (d := .str st[cix pl c]) ?_, ?_⟩
    · unfold atI
      rw [ix3 (by omega) (by rw [List.length_map]; omega)]
      show (st.map D.str)[cix pl c]? = _
      rw [List.getElem?_map, List.getElem?_eq_getElem i3']; rfl
    walk_at "g"
    have eb : behindM pl st (.look c v) = if st[cix pl c] = v then some st else none := by
      show (if st[cix pl c]? = some v then some st else none) = _
      rw [List.getElem?_eq_getElem i3']
      by_cases h : st[cix pl c] = v
      · rw [if_pos h, if_pos (by rw [h])]
      · rw [if_neg h, if_neg (fun z => h (Option.some.inj z))]
    rw [eb] at q
    split
    · rename_i h
      rw [if_pos (of_decide_eq_true h)] at q
      walk_at "g"
      exact q
    · rename_i h
      rw [if_neg (by simpa using h)] at q
      walk_at "g"
      exact q
theorem ok_Board_behind {g : Gb} {k : Nat} (Z : Fx g)  : MeG g (k + 1) (cl g "Board") "behind" (spBehind g) :=
  Z.me 58 186 177 rfl rfl rfl rfl rfl rfl (fun _ _ _ _ _ _ us hl => match us, hl with | [_, _, _], _ => rfl) (wk_Board_behind Z)
/-! ### the steps of a room -/
abbrev Exits := List (Act × Nat)
def exD (e : Act × Nat) : D := .tup [actD e.1, .int (e.2 : Nat)]
def exsD (es : Exits) : D := .lst (es.map exD)
def looksM (pl : Plan) (c v : Str) (then_ other : Nat) : Exits := (.look c v, then_) :: (othersOf (valsOf pl c) v).map fun w => (.look c w, other)
end
set_option maxHeartbeats 4000000
section
open PySem PySem.Spec L2
/-- an object with a cell and a value -/
structure OnC (g : Gb) (C : Addr) (ns : List Str) (ds : List D) (c v : Str) : Prop where
  cl : Cls g.K C
  n1 : NoAttr g.K C "cell"
  n2 : NoAttr g.K C "value"
  i1 : ix ns "cell" = some 0
  i2 : ix ns "value" = some 1
  d1 : ds[0]? = some (.str c)
  d2 : ds[1]? = some (.str v)
def cvOf : St → Option (Str × Str)
  | .write c v => some (c, v)
  | .wait c v => some (c, v)
  | .ife c v _ _ => some (c, v)
  | .whl c v _ => some (c, v)
  | _ => none
theorem onC_of {g : Gb} (Z : Fx g) {s : St} {c v : Str} (h : cvOf s = some (c, v)) : ∃ ds, prS g s = .obj (cl g (nameOf s)) (fldN s) ds ∧ OnC g (cl g (nameOf s)) (fldN s) ds c v := by
  cases s <;> simp only [cvOf, Option.some.injEq, Prod.mk.injEq, reduceCtorEq] at h
  · obtain ⟨rfl, rfl⟩ := h; exact ⟨_, rfl, (Z.cls 91), (Z.na 93), (Z.na 94), rfl, rfl, rfl, rfl⟩
  · obtain ⟨rfl, rfl⟩ := h; exact ⟨_, rfl, (Z.cls 97), (Z.na 99), (Z.na 100), rfl, rfl, rfl, rfl⟩
  · obtain ⟨rfl, rfl⟩ := h; exact ⟨_, rfl, (Z.cls 108), (Z.na 110), (Z.na 111), rfl, rfl, rfl, rfl⟩
  · obtain ⟨rfl, rfl⟩ := h; exact ⟨_, rfl, (Z.cls 116), (Z.na 118), (Z.na 119), rfl, rfl, rfl, rfl⟩
def spLooks (g : Gb) : ASp := fun ds μ P => ∃ pl s c v t o, ds = [boardD g pl, prS g s, .int (t : Nat), .int (o : Nat)] ∧ cvOf s = some (c, v) ∧ PlanOk pl ∧ CV pl c v ∧ P (exsD (looksM pl c v t o)) μ
abbrev N_looks : List Str := ["board", "statement", "then", "other", "found", "value"]
abbrev V_looks : List Nat := [0, 1, 2, 3, 4, 5]
abbrev G_looks : List Str := []
theorem wk_looks {g : Gb} {k : Nat} (Z : Fx g) {j : Nat} (hj : j ≤ k) (Fo : MeG g j (cl g "Board") "others" (spOthers g)) : Wlk g k d_looks N_looks ["board", "statement", "then", "other"] V_looks V_looks G_looks (spLooks g) := by
  refine ⟨⟨rfl, rfl, rfl, by decide +kernel, rfl, by decide +kernel, by decide +kernel⟩, by decide +kernel, ?_, fun X S ds μ P h => ?_⟩
  · walk_at "sp_len"
  have nn0 : N_looks[0]? = some ("board" : Str) := rfl
  have nn1 : N_looks[1]? = some ("statement" : Str) := rfl
  have nn2 : N_looks[2]? = some ("then" : Str) := rfl
  have nn3 : N_looks[3]? = some ("other" : Str) := rfl
  have nn4 : N_looks[4]? = some ("found" : Str) := rfl
  have nn5 : N_looks[5]? = some ("value" : Str) := rfl
  refine wb_cons ?_
  obtain ⟨pl, s, c, v, t, o, rfl, hs, ok, hcv, q⟩ := h
  obtain ⟨vs, hc, hv⟩ := hcv
  have hvals := vals_mem ok.nd hc
  have l3 : vs.length ≤ 3 := (ok.ok _ hc).l3
  have l4 : (othersOf vs v).length ≤ 3 := Nat.le_trans (List.length_filter_le _ _) l3
  obtain ⟨ds, es, O⟩ := onC_of Z hs
  rw [es]
  refine ws_setL (by assumption) 4 rfl rfl ?_
  walk_at "g"
  refine w_fld (by assumption) O.cl O.n1 O.i1 ?_
  walk_at "g"
  refine ⟨_, _, rfl, O.d1, ?_⟩
  walk_at "g"
  refine w_fld (by assumption) O.cl O.n2 O.i2 ?_
  walk_at "g"
  refine ⟨_, _, rfl, O.d2, ?_⟩
  walk_at "g"
  intro f hf
  walk_at "g"
  refine ws_for (by assumption) ?_
  refine wi_lst (by assumption) ?_
  refine w_meth (by assumption) Fo hj ?_
  walk_at "g"
  refine ⟨_, _, rfl, rfl, ?_⟩
  walk_at "g"
  refine w_fld (by assumption) O.cl O.n1 O.i1 ?_
  walk_at "g"
  refine ⟨_, _, rfl, O.d1, ?_⟩
  walk_at "g"
  refine w_fld (by assumption) O.cl O.n2 O.i2 ?_
  walk_at "g"
  refine ⟨_, _, rfl, O.d2, ?_⟩
  walk_at "g"
  refine ⟨pl, c, vs, v, rfl, ok, hc, _, rfl, ?_⟩
  refine ⟨fun i ρ' m' => ∃ a5, ρ' = [some (boardD g pl), some (.obj (cl g (nameOf s)) (fldN s) ds), some (.int (t : Nat)), some (.int (o : Nat)), some (.ptr f), a5] ∧ m' = up μ f (.lst (((.look c v, t) :: ((othersOf vs v).take i).map fun w => (.look c w, o) : Exits).map exD)), ⟨_, rfl, rfl⟩, ?_, ?_⟩
  · rintro i d ρ' m' hd ⟨a1, rfl, rfl⟩
    rw [List.getElem?_map] at hd
    cases ht : (othersOf vs v)[i]? with
    | none => rw [ht] at hd; cases hd
    | some w =>
      rw [ht] at hd
      cases hd
      walk_at "g"
      refine ws_append (by assumption) rfl ?_
      walk_at "g"
      refine ⟨⟨_, up_same⟩, ?_⟩
      walk_at "g"
      refine w_fld (by assumption) O.cl O.n1 O.i1 ?_
      walk_at "g"
      refine ⟨_, _, rfl, O.d1, ?_⟩
      walk_at "g"
      refine ⟨_, up_same, ?_, _, rfl, ?_⟩
      · rw [List.length_map, List.length_cons, List.length_map, List.length_take]; omega
      · rw [up_up, List.take_succ, ht]
        simp only [Option.toList_some, List.map_append, List.map_cons, List.map_nil, List.cons_append]
        rfl
  · rintro ρ' m' ⟨a1, rfl, rfl⟩
    rw [List.length_map, List.take_length]
    refine wb_frz 4 rfl up_same rfl ?_
    rw [dl_up hf]
    walk_at "g"
    unfold looksM at q
    rw [hvals] at q
    exact q
theorem ok_looks {g : Gb} {k : Nat} (Z : Fx g) {j : Nat} (hj : j ≤ k) (Fo : MeG g j (cl g "Board") "others" (spOthers g)) : FnG g (k + 1) "looks" (spLooks g) :=
  Z.fn 19 16 rfl rfl rfl rfl (fun _ _ _ _ _ _ us hl => match us, hl with | [_, _, _, _], _ => rfl) (wk_looks Z hj Fo)
end
set_option maxHeartbeats 4000000
section
open PySem PySem.Spec L2
/-! ### isinstance of statements -/
theorem kit_Write {g : Gb} (Z : Fx g) : ∀ s, PySem.W.kitOne g.K (.ref (cl g (nameOf s))) (.ref (cl g "Write")) = some (decide (("Write" : Str) = nameOf s))
  | .write _ _ => (Z.kit 0).trans (congrArg some (show true = decide (("Write" : Str) = ("Write" : Str)) by decide +kernel))
  | .wait _ _ => (Z.kit 8).trans (congrArg some (show false = decide (("Write" : Str) = ("Wait" : Str)) by decide +kernel))
  | .mark _ => (Z.kit 16).trans (congrArg some (show false = decide (("Write" : Str) = ("Mark" : Str)) by decide +kernel))
  | .skip => (Z.kit 24).trans (congrArg some (show false = decide (("Write" : Str) = ("Skip" : Str)) by decide +kernel))
  | .stop => (Z.kit 32).trans (congrArg some (show false = decide (("Write" : Str) = ("Stop" : Str)) by decide +kernel))
  | .ife _ _ _ _ => (Z.kit 40).trans (congrArg some (show false = decide (("Write" : Str) = ("If" : Str)) by decide +kernel))
  | .whl _ _ _ => (Z.kit 48).trans (congrArg some (show false = decide (("Write" : Str) = ("While" : Str)) by decide +kernel))
  | .loop _ => (Z.kit 64).trans (congrArg some (show false = decide (("Write" : Str) = ("Loop" : Str)) by decide +kernel))
  | .choose _ _ => (Z.kit 56).trans (congrArg some (show false = decide (("Write" : Str) = ("Choose" : Str)) by decide +kernel))
theorem kit_Wait {g : Gb} (Z : Fx g) : ∀ s, PySem.W.kitOne g.K (.ref (cl g (nameOf s))) (.ref (cl g "Wait")) = some (decide (("Wait" : Str) = nameOf s))
  | .write _ _ => (Z.kit 1).trans (congrArg some (show false = decide (("Wait" : Str) = ("Write" : Str)) by decide +kernel))
  | .wait _ _ => (Z.kit 9).trans (congrArg some (show true = decide (("Wait" : Str) = ("Wait" : Str)) by decide +kernel))
  | .mark _ => (Z.kit 17).trans (congrArg some (show false = decide (("Wait" : Str) = ("Mark" : Str)) by decide +kernel))
  | .skip => (Z.kit 25).trans (congrArg some (show false = decide (("Wait" : Str) = ("Skip" : Str)) by decide +kernel))
  | .stop => (Z.kit 33).trans (congrArg some (show false = decide (("Wait" : Str) = ("Stop" : Str)) by decide +kernel))
  | .ife _ _ _ _ => (Z.kit 41).trans (congrArg some (show false = decide (("Wait" : Str) = ("If" : Str)) by decide +kernel))
  | .whl _ _ _ => (Z.kit 49).trans (congrArg some (show false = decide (("Wait" : Str) = ("While" : Str)) by decide +kernel))
  | .loop _ => (Z.kit 65).trans (congrArg some (show false = decide (("Wait" : Str) = ("Loop" : Str)) by decide +kernel))
  | .choose _ _ => (Z.kit 57).trans (congrArg some (show false = decide (("Wait" : Str) = ("Choose" : Str)) by decide +kernel))
theorem kit_If {g : Gb} (Z : Fx g) : ∀ s, PySem.W.kitOne g.K (.ref (cl g (nameOf s))) (.ref (cl g "If")) = some (decide (("If" : Str) = nameOf s))
  | .write _ _ => (Z.kit 2).trans (congrArg some (show false = decide (("If" : Str) = ("Write" : Str)) by decide +kernel))
  | .wait _ _ => (Z.kit 10).trans (congrArg some (show false = decide (("If" : Str) = ("Wait" : Str)) by decide +kernel))
  | .mark _ => (Z.kit 18).trans (congrArg some (show false = decide (("If" : Str) = ("Mark" : Str)) by decide +kernel))
  | .skip => (Z.kit 26).trans (congrArg some (show false = decide (("If" : Str) = ("Skip" : Str)) by decide +kernel))
  | .stop => (Z.kit 34).trans (congrArg some (show false = decide (("If" : Str) = ("Stop" : Str)) by decide +kernel))
  | .ife _ _ _ _ => (Z.kit 42).trans (congrArg some (show true = decide (("If" : Str) = ("If" : Str)) by decide +kernel))
  | .whl _ _ _ => (Z.kit 50).trans (congrArg some (show false = decide (("If" : Str) = ("While" : Str)) by decide +kernel))
  | .loop _ => (Z.kit 66).trans (congrArg some (show false = decide (("If" : Str) = ("Loop" : Str)) by decide +kernel))
  | .choose _ _ => (Z.kit 58).trans (congrArg some (show false = decide (("If" : Str) = ("Choose" : Str)) by decide +kernel))
theorem kit_While {g : Gb} (Z : Fx g) : ∀ s, PySem.W.kitOne g.K (.ref (cl g (nameOf s))) (.ref (cl g "While")) = some (decide (("While" : Str) = nameOf s))
  | .write _ _ => (Z.kit 3).trans (congrArg some (show false = decide (("While" : Str) = ("Write" : Str)) by decide +kernel))
  | .wait _ _ => (Z.kit 11).trans (congrArg some (show false = decide (("While" : Str) = ("Wait" : Str)) by decide +kernel))
  | .mark _ => (Z.kit 19).trans (congrArg some (show false = decide (("While" : Str) = ("Mark" : Str)) by decide +kernel))
  | .skip => (Z.kit 27).trans (congrArg some (show false = decide (("While" : Str) = ("Skip" : Str)) by decide +kernel))
  | .stop => (Z.kit 35).trans (congrArg some (show false = decide (("While" : Str) = ("Stop" : Str)) by decide +kernel))
  | .ife _ _ _ _ => (Z.kit 43).trans (congrArg some (show false = decide (("While" : Str) = ("If" : Str)) by decide +kernel))
  | .whl _ _ _ => (Z.kit 51).trans (congrArg some (show true = decide (("While" : Str) = ("While" : Str)) by decide +kernel))
  | .loop _ => (Z.kit 67).trans (congrArg some (show false = decide (("While" : Str) = ("Loop" : Str)) by decide +kernel))
  | .choose _ _ => (Z.kit 59).trans (congrArg some (show false = decide (("While" : Str) = ("Choose" : Str)) by decide +kernel))
theorem kit_Loop {g : Gb} (Z : Fx g) : ∀ s, PySem.W.kitOne g.K (.ref (cl g (nameOf s))) (.ref (cl g "Loop")) = some (decide (("Loop" : Str) = nameOf s))
  | .write _ _ => (Z.kit 4).trans (congrArg some (show false = decide (("Loop" : Str) = ("Write" : Str)) by decide +kernel))
  | .wait _ _ => (Z.kit 12).trans (congrArg some (show false = decide (("Loop" : Str) = ("Wait" : Str)) by decide +kernel))
  | .mark _ => (Z.kit 20).trans (congrArg some (show false = decide (("Loop" : Str) = ("Mark" : Str)) by decide +kernel))
  | .skip => (Z.kit 28).trans (congrArg some (show false = decide (("Loop" : Str) = ("Skip" : Str)) by decide +kernel))
  | .stop => (Z.kit 36).trans (congrArg some (show false = decide (("Loop" : Str) = ("Stop" : Str)) by decide +kernel))
  | .ife _ _ _ _ => (Z.kit 44).trans (congrArg some (show false = decide (("Loop" : Str) = ("If" : Str)) by decide +kernel))
  | .whl _ _ _ => (Z.kit 52).trans (congrArg some (show false = decide (("Loop" : Str) = ("While" : Str)) by decide +kernel))
  | .loop _ => (Z.kit 68).trans (congrArg some (show true = decide (("Loop" : Str) = ("Loop" : Str)) by decide +kernel))
  | .choose _ _ => (Z.kit 60).trans (congrArg some (show false = decide (("Loop" : Str) = ("Choose" : Str)) by decide +kernel))
theorem kit_Mark {g : Gb} (Z : Fx g) : ∀ s, PySem.W.kitOne g.K (.ref (cl g (nameOf s))) (.ref (cl g "Mark")) = some (decide (("Mark" : Str) = nameOf s))
  | .write _ _ => (Z.kit 5).trans (congrArg some (show false = decide (("Mark" : Str) = ("Write" : Str)) by decide +kernel))
  | .wait _ _ => (Z.kit 13).trans (congrArg some (show false = decide (("Mark" : Str) = ("Wait" : Str)) by decide +kernel))
  | .mark _ => (Z.kit 21).trans (congrArg some (show true = decide (("Mark" : Str) = ("Mark" : Str)) by decide +kernel))
  | .skip => (Z.kit 29).trans (congrArg some (show false = decide (("Mark" : Str) = ("Skip" : Str)) by decide +kernel))
  | .stop => (Z.kit 37).trans (congrArg some (show false = decide (("Mark" : Str) = ("Stop" : Str)) by decide +kernel))
  | .ife _ _ _ _ => (Z.kit 45).trans (congrArg some (show false = decide (("Mark" : Str) = ("If" : Str)) by decide +kernel))
  | .whl _ _ _ => (Z.kit 53).trans (congrArg some (show false = decide (("Mark" : Str) = ("While" : Str)) by decide +kernel))
  | .loop _ => (Z.kit 69).trans (congrArg some (show false = decide (("Mark" : Str) = ("Loop" : Str)) by decide +kernel))
  | .choose _ _ => (Z.kit 61).trans (congrArg some (show false = decide (("Mark" : Str) = ("Choose" : Str)) by decide +kernel))
theorem kit_Skip {g : Gb} (Z : Fx g) : ∀ s, PySem.W.kitOne g.K (.ref (cl g (nameOf s))) (.ref (cl g "Skip")) = some (decide (("Skip" : Str) = nameOf s))
  | .write _ _ => (Z.kit 6).trans (congrArg some (show false = decide (("Skip" : Str) = ("Write" : Str)) by decide +kernel))
  | .wait _ _ => (Z.kit 14).trans (congrArg some (show false = decide (("Skip" : Str) = ("Wait" : Str)) by decide +kernel))
  | .mark _ => (Z.kit 22).trans (congrArg some (show false = decide (("Skip" : Str) = ("Mark" : Str)) by decide +kernel))
  | .skip => (Z.kit 30).trans (congrArg some (show true = decide (("Skip" : Str) = ("Skip" : Str)) by decide +kernel))
  | .stop => (Z.kit 38).trans (congrArg some (show false = decide (("Skip" : Str) = ("Stop" : Str)) by decide +kernel))
  | .ife _ _ _ _ => (Z.kit 46).trans (congrArg some (show false = decide (("Skip" : Str) = ("If" : Str)) by decide +kernel))
  | .whl _ _ _ => (Z.kit 54).trans (congrArg some (show false = decide (("Skip" : Str) = ("While" : Str)) by decide +kernel))
  | .loop _ => (Z.kit 70).trans (congrArg some (show false = decide (("Skip" : Str) = ("Loop" : Str)) by decide +kernel))
  | .choose _ _ => (Z.kit 62).trans (congrArg some (show false = decide (("Skip" : Str) = ("Choose" : Str)) by decide +kernel))
theorem kit_Stop {g : Gb} (Z : Fx g) : ∀ s, PySem.W.kitOne g.K (.ref (cl g (nameOf s))) (.ref (cl g "Stop")) = some (decide (("Stop" : Str) = nameOf s))
  | .write _ _ => (Z.kit 7).trans (congrArg some (show false = decide (("Stop" : Str) = ("Write" : Str)) by decide +kernel))
  | .wait _ _ => (Z.kit 15).trans (congrArg some (show false = decide (("Stop" : Str) = ("Wait" : Str)) by decide +kernel))
  | .mark _ => (Z.kit 23).trans (congrArg some (show false = decide (("Stop" : Str) = ("Mark" : Str)) by decide +kernel))
  | .skip => (Z.kit 31).trans (congrArg some (show false = decide (("Stop" : Str) = ("Skip" : Str)) by decide +kernel))
  | .stop => (Z.kit 39).trans (congrArg some (show true = decide (("Stop" : Str) = ("Stop" : Str)) by decide +kernel))
  | .ife _ _ _ _ => (Z.kit 47).trans (congrArg some (show false = decide (("Stop" : Str) = ("If" : Str)) by decide +kernel))
  | .whl _ _ _ => (Z.kit 55).trans (congrArg some (show false = decide (("Stop" : Str) = ("While" : Str)) by decide +kernel))
  | .loop _ => (Z.kit 71).trans (congrArg some (show false = decide (("Stop" : Str) = ("Loop" : Str)) by decide +kernel))
  | .choose _ _ => (Z.kit 63).trans (congrArg some (show false = decide (("Stop" : Str) = ("Choose" : Str)) by decide +kernel))
def tested : List Str := ["Write", "Wait", "If", "While", "Loop", "Mark", "Skip", "Stop"]
theorem kit_all {g : Gb} (Z : Fx g) (s : St) {nm : Str} (h : nm ∈ tested) : PySem.W.kitOne g.K (.ref (cl g (nameOf s))) (.ref (cl g nm)) = some (decide (nm = nameOf s)) := by
  simp only [tested, List.mem_cons, List.not_mem_nil, or_false] at h
  rcases h with e | e | e | e | e | e | e | e <;> subst e
  · exact kit_Write Z s
  · exact kit_Wait Z s
  · exact kit_If Z s
  · exact kit_While Z s
  · exact kit_Loop Z s
  · exact kit_Mark Z s
  · exact kit_Skip Z s
  · exact kit_Stop Z s
theorem inst_ok {g : Gb} {x : Str} (h : inst x g.K = true) : PySem.W.findIn g.K (.ref (cl g x)) "__class__" = some (some (.builtin "object.__class__")) ∧ PySem.W.specialIn g.K (.builtin "object.__class__") "__get__" = some (some (.builtin "getset_descriptor.__get__")) ∧ PySem.W.takesIn g.K (.builtin "object.__class__") = some true ∧ PySem.W.mroIn g.K (cl g x) (.type "object") = some true := by
  obtain ⟨h1, h2⟩ := He.ba h
  obtain ⟨h2, h3⟩ := He.ba h2
  obtain ⟨h3, h4⟩ := He.ba h3
  exact ⟨of_decide_eq_true h1, of_decide_eq_true h2, of_decide_eq_true h3, of_decide_eq_true h4⟩
theorem inst_all {g : Gb} (Z : Fx g) : ∀ s, inst (nameOf s) g.K = true
  | .write _ _ => (Z.ext 88)
  | .wait _ _ => (Z.ext 89)
  | .mark _ => (Z.ext 90)
  | .skip => (Z.ext 91)
  | .stop => (Z.ext 92)
  | .ife _ _ _ _ => (Z.ext 93)
  | .whl _ _ _ => (Z.ext 94)
  | .loop _ => (Z.ext 96)
  | .choose _ _ => (Z.ext 95)
theorem cls_all {g : Gb} (Z : Fx g) : ∀ s, Cls g.K (cl g (nameOf s))
  | .write _ _ => (Z.cls 91)
  | .wait _ _ => (Z.cls 97)
  | .mark _ => (Z.cls 103)
  | .skip => (Z.cls 187)
  | .stop => (Z.cls 190)
  | .ife _ _ _ _ => (Z.cls 108)
  | .whl _ _ _ => (Z.cls 116)
  | .loop _ => (Z.cls 129)
  | .choose _ _ => (Z.cls 123)
theorem ty_of {g : Gb} (Z : Fx g) (s : St) {m : Mu} {H : Hp} {v : V} (r : Rp g.K m H (prS g s) v) : TyX g.K H v (.ref (cl g (nameOf s))) := by
  obtain ⟨ds, e⟩ := prS_obj g s
  rw [e] at r
  obtain ⟨a, dx, xs, ev, hh, hn, hl, rr⟩ := r
  subst ev
  obtain ⟨h1, h2, h3, h4⟩ := inst_ok (inst_all Z s)
  exact .base (.ins hh (cls_all Z s) h1 h2 h3 h4)
section
variable {g : Gb} {k : Nat} {N : List Str} {vis loc : List Nat} {gl : List Str} {sc : Scope} {X : Cx} {ρ : Ro} {μ : Mu} {R : AE} {pos p p2 : Pos} {Post : AQ} {e a b : Expr} {es : List Expr} {x1 : Nat}
theorem w_isi (S : Sit g k N vis loc gl sc X) (Z : Fx g) {i : Nat} (hx : gl[i]? = some ("isinstance" : Str)) (hm : g.mg "isinstance" = none) (h : W g X a ρ μ fun d m => ∃ s, d = prS g s ∧ W g X b ρ m fun y m2 => ∃ nm, y = .ptr (cl g nm) ∧ nm ∈ tested ∧ Post (.bl (decide (nm = nameOf s))) m2)
    (he : starEach [a, b] X.env = (false, eval a X.env) :: starEach [b] X.env := by rfl) (he2 : starEach [b] X.env = [(false, eval b X.env)] := by rfl) (hpl : (backTo pos (starEach [b] X.env)).any (·.1) = false := by rfl) : W g X (.Call (.Name "isinstance" p) [a, b] [] pos) ρ μ Post := by
  refine w_callB S call_isi i hx hm (by decide +kernel) ?_ he hpl
  refine wa_cons (h.mono fun d m ⟨s, ed, q⟩ => wa_cons (q.mono fun y m2 ⟨nm, ey, ht, post⟩ => wa_nil (fun H us Q mm r kk => ?_)) he2) he
  subst ed ey
  obtain ⟨u, v, eu, ru, rv⟩ := rps2 r
  subst eu
  have ev : v = .ref (cl g nm) := rv
  subst ev
  refine ⟨u, .ref (cl g nm), .ref (cl g (nameOf s)), .ref (cl g nm), _, rfl, .own _, S.hK ▸ ty_of Z s ru, by rw [S.hK]; exact kit_all Z s ht, kk _ _ (VQ.at (d := .bl _) mm rfl post)⟩
theorem kit_any {g : Gb} (Z : Fx g) (s : St) : ∀ {nms : List Str}, (∀ n, n ∈ nms → n ∈ tested) → PySem.W.kitAny g.K (.ref (cl g (nameOf s))) (nms.map fun n => .ref (cl g n)) = some (nms.any fun n => decide (n = nameOf s))
  | [], _ => rfl
  | n :: r, h => by
    have ih := kit_any Z s fun n hn => h n (List.mem_cons_of_mem _ hn)
    show (match PySem.W.kitOne g.K (.ref (cl g (nameOf s))) (.ref (cl g n)) with | some true => some true | some false => PySem.W.kitAny g.K (.ref (cl g (nameOf s))) (r.map fun n => .ref (cl g n)) | none => none) = _
    rw [kit_all Z s (h n List.mem_cons_self), List.any_cons]
    cases decide (n = nameOf s) with
    | true => rfl
    | false => exact ih
theorem rps_ptrs {K : PySem.W.Frag} {m : Mu} {H : Hp} {g : Gb} : ∀ {nms : List Str} {us : List V}, Rps K m H (nms.map fun n => .ptr (cl g n)) us → us = nms.map fun n => .ref (cl g n)
  | [], _, h => h
  | n :: r, _, ⟨v, w, e, h, t⟩ => by
    have h' : v = .ref (cl g n) := h
    subst e h'; rw [rps_ptrs t]; rfl
theorem paired_ptrs {g : Gb} : ∀ (nms : List Str), Paired ClsV (nms.map fun n => V.ref (cl g n)) (nms.map fun n => Value.ref (cl g n))
  | [] => .nil
  | n :: r => .cons (.own _) (paired_ptrs r)
/-- isinstance(x, (C1, C2, ..)) -/
theorem w_isiT (S : Sit g k N vis loc gl sc X) (Z : Fx g) {i : Nat} (hx : gl[i]? = some ("isinstance" : Str)) (hm : g.mg "isinstance" = none) (h : W g X a ρ μ fun d m => ∃ s, d = prS g s ∧ WA g X es ρ m fun ys m2 => ∃ nms : List Str, ys = nms.map (fun n => .ptr (cl g n)) ∧ (∀ n, n ∈ nms → n ∈ tested) ∧ nms.length ≤ 100 ∧ Post (.bl (nms.any fun n => decide (n = nameOf s))) m2)
    (he : starEach [a, .Tuple es x1 p2] X.env = (false, eval a X.env) :: starEach [.Tuple es x1 p2] X.env := by rfl) (he2 : starEach [.Tuple es x1 p2] X.env = [(false, eval (.Tuple es x1 p2) X.env)] := by rfl) (hpl : (backTo pos (starEach [.Tuple es x1 p2] X.env)).any (·.1) = false := by rfl) : W g X (.Call (.Name "isinstance" p) [a, .Tuple es x1 p2] [] pos) ρ μ Post := fun σ H at_ => by
  have hx' := S.hg i _ hx
  refine E.of (pe_callB call_isiT hx'.1 (by rw [S.hmg]; exact hm) (by decide +kernel) (pa_cons (E.pe X a) (pa_cons (pe_tup (EA.pa X es)) pa_nil he2) he) hx'.2.2 hx'.2.1 he hpl) ?_
  refine h.then at_ fun d m u H1 G1 a1 r1 ⟨s, ed, q⟩ => ?_
  subst ed
  refine q.then a1 fun ys m2 us H2 G2 a2 r2 ⟨nms, ey, ht, hl, post⟩ => ?_
  subst ey
  have eus := rps_ptrs r2
  subst eus
  refine ⟨by rw [List.length_map]; exact Nat.le_trans hl (by decide), fun q hq => ?_⟩
  have G3 : Gs m2 m2 H2 (upd H2 q (.tup (nms.map fun n => V.ref (cl g n)))) := gs_new hq
  exact ⟨u, q, _, .ref (cl g (nameOf s)), nms.map (fun n => Value.ref (cl g n)), _, rfl, upd_same, paired_ptrs nms, S.hK ▸ ty_of Z s (rp_mono G3 _ _ (rp_mono G2 _ _ r1)), by rw [S.hK]; exact kit_any Z s ht,
    .bl _, m2, (G1.trans G2).trans G3, mk_new a2.mu hq, rfl, post⟩
end
end
end Mb
namespace Mb
open PySem PySem.Spec L2
local macro_rules | `(tactic| walk_at "sp_len") => `(tactic| (intro ds μ P h; first | (obtain ⟨e, _⟩ := h; subst e; rfl) | (obtain ⟨_, e, _⟩ := h; subst e; rfl) | (obtain ⟨_, _, e, _⟩ := h; subst e; rfl) | (obtain ⟨_, _, _, e, _⟩ := h; subst e; rfl) | (obtain ⟨_, _, _, _, e, _⟩ := h; subst e; rfl) | (obtain ⟨_, _, _, _, _, e, _⟩ := h; subst e; rfl) | (obtain ⟨_, _, _, _, _, _, e, _⟩ := h; subst e; rfl) | (obtain ⟨_, _, _, _, _, _, _, e, _⟩ := h; subst e; rfl) | (obtain ⟨_, _, _, _, _, _, _, _, e, _⟩ := h; subst e; rfl) | (obtain ⟨_, _, _, _, _, _, _, _, _, e, _⟩ := h; subst e; rfl) | (obtain ⟨_, _, _, _, _, _, _, _, _, _, e, _⟩ := h; subst e; rfl) | (obtain ⟨_, _, _, _, _, _, _, _, _, _, _, e, _⟩ := h; subst e; rfl)))
local macro_rules | `(tactic| walk_at "v") => `(tactic| refine w_v (by assumption) (by with_reducible assumption) (by rfl) (by rfl) ?_)
local macro_rules | `(tactic| walk_at "side") => `(tactic| first | exact ⟨by omega, by omega, by omega⟩ | fail)
local macro_rules | `(tactic| walk_at "side") => `(tactic| first | exact ⟨by omega, by omega⟩ | fail)
local macro_rules | `(tactic| walk_at "side") => `(tactic| first | exact .inr ⟨by omega, by omega⟩ | fail)
local macro_rules | `(tactic| walk_at "side") => `(tactic| first | exact .inl ⟨by omega, by omega⟩ | fail)
local macro_rules | `(tactic| walk_at "side") => `(tactic| first | ((with_reducible refine Nat.le_of_ble_eq_true ?a); (case a => rfl)) | fail)
local macro_rules | `(tactic| walk_at "side") => `(tactic| first | decide | fail)
local macro_rules | `(tactic| walk_at "side") => `(tactic| first | omega | fail)
local macro_rules | `(tactic| walk_at "side") => `(tactic| first | with_reducible rfl | fail)
local macro_rules | `(tactic| walk_at "side") => `(tactic| first | with_reducible assumption | fail)
local macro_rules | `(tactic| walk_at "lf") => `(tactic| first | with_reducible rfl | fail)
local macro_rules | `(tactic| walk_at "lf") => `(tactic| first | ((with_reducible show ∃ i, kD _ = some i ∧ _); first | refine ⟨_, rfl, ?_⟩) | fail)
local macro_rules | `(tactic| walk_at "lf") => `(tactic| first | ((with_reducible show ∃ i, lenD _ _ = some i ∧ _); first | refine ⟨_, rfl, ?_⟩) | fail)
local macro_rules | `(tactic| walk_at "lf") => `(tactic| first | ((with_reducible show ∃ i, _ = D.ptr i ∧ _); first | refine ⟨_, rfl, ?_⟩) | fail)
local macro_rules | `(tactic| walk_at "lf") => `(tactic| first | ((with_reducible show ∃ i, _ = D.tupx i ∧ _); first | refine ⟨_, rfl, ?_⟩) | fail)
local macro_rules | `(tactic| walk_at "lf") => `(tactic| first | ((with_reducible show ∃ i, _ = D.lst i ∧ _); first | refine ⟨_, rfl, ?_⟩) | fail)
local macro_rules | `(tactic| walk_at "lf") => `(tactic| first | ((with_reducible show ∃ i, _ = D.tup i ∧ _); first | refine ⟨_, rfl, ?_⟩) | fail)
local macro_rules | `(tactic| walk_at "lf") => `(tactic| first | ((with_reducible show ∃ i, _ = D.bl i ∧ _); first | refine ⟨_, rfl, ?_⟩) | fail)
local macro_rules | `(tactic| walk_at "lf") => `(tactic| first | ((with_reducible show ∃ i, _ = D.int i ∧ _); first | refine ⟨_, rfl, ?_⟩) | fail)
local macro_rules | `(tactic| walk_at "lf") => `(tactic| first | ((with_reducible show ∃ i j, _ = D.int i ∧ _ = D.int j ∧ _); first | refine ⟨_, _, rfl, rfl, ?_⟩) | fail)
local macro_rules | `(tactic| walk_at "lf") => `(tactic| first | ((with_reducible show ∃ ds d, _ = D.obj _ _ ds ∧ ds[_]? = some d ∧ _); first | refine ⟨_, _, rfl, rfl, ?_⟩) | fail)
local macro_rules | `(tactic| walk_at "lf") => `(tactic| first | ((with_reducible show ∃ bb, InD _ _ _ bb ∧ _); first | with_reducible refine ⟨_, .s, ?_⟩ | refine ⟨_, .l (by rfl) ?_, ?_⟩ | refine ⟨_, .t (by rfl) ?_, ?_⟩ | refine ⟨_, .p (by assumption) (by rfl) ?_, ?_⟩) | fail)
local macro_rules | `(tactic| walk_at "lf") => `(tactic| first | ((with_reducible show ∃ bb, EqD _ _ bb ∧ _); first | with_reducible refine ⟨_, .ii, ?_⟩ | with_reducible refine ⟨_, .ss, ?_⟩ | with_reducible refine ⟨_, .bb, ?_⟩ | with_reducible refine ⟨_, .ns, ?_⟩ | with_reducible refine ⟨_, .sn, ?_⟩ | with_reducible refine ⟨_, .nn, ?_⟩) | fail)
local macro_rules | `(tactic| walk_at "lf") => `(tactic| first | ((with_reducible show ∃ d, SubD _ _ _ d ∧ _); first | refine ⟨_, .p (by assumption) (by rfl), ?_⟩ | refine ⟨_, .t at0, ?_⟩ | refine ⟨_, .l at0, ?_⟩ | refine ⟨_, .t (by rfl), ?_⟩ | refine ⟨_, .l (by rfl), ?_⟩ | refine ⟨_, .x (by rfl), ?_⟩) | fail)
local macro_rules | `(tactic| walk_at "lf") => `(tactic| first | ((with_reducible show ∃ d, PlusD _ _ d ∧ _); first | with_reducible refine ⟨_, .ii, ?_⟩ | refine ⟨_, .ss ?_, ?_⟩ | refine ⟨_, .tt ?_, ?_⟩ | refine ⟨_, .ll ?_, ?_⟩) | fail)
local macro_rules | `(tactic| walk_at "lf") => `(tactic| first | ((with_reducible refine And.intro ?a ?b); (case a => walk_at "side")) | fail)
local macro_rules | `(tactic| walk_at "mu") => `(tactic| (funext b; simp only [up, dl]; repeat' split) <;> simp_all)
local macro_rules | `(tactic| walk_at "g") => `(tactic| repeat walk_at "e")
local macro_rules | `(tactic| walk_at "i") => `(tactic| ((refine ws_if ?_); (repeat walk_at "e")))
local macro_rules | `(tactic| walk_at "e") => `(tactic| first | walk_at "lf" | fail)
local macro_rules | `(tactic| walk_at "e") => `(tactic| first | ((with_reducible show ∃ nm, _ = D.ptr (cl _ nm) ∧ nm ∈ tested ∧ _); first | refine ⟨_, rfl, by simp [tested], ?_⟩) | fail)
local macro_rules | `(tactic| walk_at "e") => `(tactic| first | ((with_reducible show ∃ s, _ = prS _ s ∧ _); first | refine ⟨_, rfl, ?_⟩) | fail)
local macro_rules | `(tactic| walk_at "e") => `(tactic| first | ((with_reducible show WT _ _ (Expr.Call _ _ _ _) _ _ _); refine wt_val ?_) | fail)
local macro_rules | `(tactic| walk_at "e") => `(tactic| first | ((with_reducible show (if false = true then _ else _)); rw [if_neg Bool.false_ne_true]) | fail)
local macro_rules | `(tactic| walk_at "e") => `(tactic| first | ((with_reducible show (if true = true then _ else _)); rw [if_pos rfl]) | fail)
local macro_rules | `(tactic| walk_at "e") => `(tactic| first | ((with_reducible show W _ _ (Expr.BoolOp BoolOp.And _ _) _ _ _); refine w_and ?_) | fail)
local macro_rules | `(tactic| walk_at "e") => `(tactic| first | ((with_reducible show W _ _ (Expr.BoolOp BoolOp.Or _ _) _ _ _); refine w_or ?_) | fail)
local macro_rules | `(tactic| walk_at "e") => `(tactic| first | ((with_reducible show W _ _ (Expr.BoolOp _ [_] _) _ _ _); refine w_one ?_) | fail)
local macro_rules | `(tactic| walk_at "e") => `(tactic| first | ((with_reducible show W _ _ (Expr.Name _ _) _ _ _); refine w_gcls (by assumption) (by with_reducible assumption) (by with_reducible assumption) ?_) | fail)
local macro_rules | `(tactic| walk_at "e") => `(tactic| first | ((with_reducible show W _ _ (Expr.Name _ _) _ _ _); refine w_gstr (by assumption) (by with_reducible assumption) (by with_reducible assumption) ?_) | fail)
local macro_rules | `(tactic| walk_at "e") => `(tactic| first | ((with_reducible show W _ _ (Expr.Name _ _) _ _ _); refine w_gint (by assumption) (by with_reducible assumption) (by with_reducible assumption) ?_) | fail)
local macro_rules | `(tactic| walk_at "e") => `(tactic| first | ((with_reducible show W _ _ (Expr.Name _ _) _ _ _); refine w_v (by assumption) (by with_reducible assumption) (by rfl) (by rfl) ?_) | fail)
local macro_rules | `(tactic| walk_at "e") => `(tactic| first | ((with_reducible show W _ _ (Expr.Call (Expr.Name _ _) (_ :: _) [] _) _ _ _); refine w_call (by assumption) (by with_reducible assumption) (by omega) _ (by with_reducible assumption) ?_) | fail)
local macro_rules | `(tactic| walk_at "e") => `(tactic| first | ((with_reducible show W _ _ (Expr.Call (Expr.Name "isinstance" _) _ _ _) _ _ _); refine w_isi (by assumption) (by assumption) (by with_reducible assumption) (Fx.free (by assumption) 68 rfl) ?_) | fail)
local macro_rules | `(tactic| walk_at "e") => `(tactic| first | ((with_reducible show W _ _ (Expr.Call (Expr.Name "isinstance" _) [_, Expr.Tuple _ _ _] _ _) _ _ _); refine w_isiT (by assumption) (by assumption) (by with_reducible assumption) (Fx.free (by assumption) 68 rfl) ?_) | fail)
local macro_rules | `(tactic| walk_at "e") => `(tactic| first | ((with_reducible show WI _ _ _ (Expr.Call (Expr.Name "range" _) _ _ _) _ _ _); refine wi_range (by assumption) _ (by with_reducible assumption) (Fx.free (by assumption) 72 rfl) ?_) | fail)
local macro_rules | `(tactic| walk_at "e") => `(tactic| first | ((with_reducible show W _ _ (Expr.Call (Expr.Name "str" _) _ _ _) _ _ _); refine w_strI (by assumption) _ (by with_reducible assumption) (Fx.free (by assumption) 75 rfl) ?_) | fail)
local macro_rules | `(tactic| walk_at "e") => `(tactic| first | ((with_reducible show W _ _ (Expr.Call (Expr.Name "int" _) _ _ _) _ _ _); refine w_intB (by assumption) _ (by with_reducible assumption) (Fx.free (by assumption) 67 rfl) ?_) | fail)
local macro_rules | `(tactic| walk_at "e") => `(tactic| first | ((with_reducible show W _ _ (Expr.Call (Expr.Name "list" _) _ _ _) _ _ _); refine w_listOf (by assumption) _ (by with_reducible assumption) (Fx.free (by assumption) 70 rfl) ?_) | fail)
local macro_rules | `(tactic| walk_at "e") => `(tactic| first | ((with_reducible show W _ _ (Expr.Call (Expr.Name "all" _) _ _ _) _ _ _); refine w_all (by assumption) _ (by with_reducible assumption) (Fx.free (by assumption) 64 rfl) ?_) | fail)
local macro_rules | `(tactic| walk_at "e") => `(tactic| first | ((with_reducible show W _ _ (Expr.Call (Expr.Name "sum" _) _ _ _) _ _ _); refine w_sum (by assumption) _ (by with_reducible assumption) (Fx.free (by assumption) 76 rfl) ?_) | fail)
local macro_rules | `(tactic| walk_at "e") => `(tactic| first | ((with_reducible show W _ _ (Expr.Call (Expr.Name "len" _) _ _ _) _ _ _); refine w_len (by assumption) _ (by with_reducible assumption) (Fx.free (by assumption) 69 rfl) ?_) | fail)
local macro_rules | `(tactic| walk_at "e") => `(tactic| first | ((with_reducible show WS _ _ (Stmt.Expr (Expr.Call (Expr.Name _ _) _ _ _) _) _ _ _); refine ws_expr ?_) | fail)
local macro_rules | `(tactic| walk_at "e") => `(tactic| first | ((with_reducible show WS _ _ (Stmt.Pass _) _ _ _); refine ws_pass ?_) | fail)
local macro_rules | `(tactic| walk_at "e") => `(tactic| first | with_reducible refine wb_nil ?_ | fail)
local macro_rules | `(tactic| walk_at "e") => `(tactic| first | with_reducible refine wb_cons ?_ | fail)
local macro_rules | `(tactic| walk_at "e") => `(tactic| first | with_reducible refine wb_one ?_ | fail)
local macro_rules | `(tactic| walk_at "e") => `(tactic| first | ((with_reducible show WGs _ _ _ [] _ _ _ _); refine wgs_nil ?_) | fail)
local macro_rules | `(tactic| walk_at "e") => `(tactic| first | ((with_reducible show WGs _ _ _ (_ :: _) _ _ _ _); refine wgs_cons ?_) | fail)
local macro_rules | `(tactic| walk_at "e") => `(tactic| first | ((with_reducible show WG _ _ _ (Expr.Tuple _ _ _) _ _ _ _); refine wg_tup (by assumption) ?_) | fail)
local macro_rules | `(tactic| walk_at "e") => `(tactic| first | ((with_reducible show WG _ _ _ (Expr.Name _ _) _ _ _ _); refine wg_v (by assumption) (by with_reducible assumption) (by rfl) (by rfl) ?_) | fail)
local macro_rules | `(tactic| walk_at "e") => `(tactic| first | ((with_reducible show WS _ _ (Stmt.Assign [Expr.Tuple _ _ _] _ _) _ _ _); refine ws_unp ?_) | fail)
local macro_rules | `(tactic| walk_at "e") => `(tactic| first | ((fail_if_success (with_reducible show WS _ _ (Stmt.Assign _ (Expr.List _ _) _) _ _ _)); (fail_if_success (with_reducible show WS _ _ (Stmt.Assign _ (Expr.Dict _ _ _) _) _ _ _)); (fail_if_success (with_reducible show WS _ _ (Stmt.Assign _ (Expr.ListComp _ _ _ _) _) _ _ _)); (with_reducible show WS _ _ (Stmt.Assign [Expr.Name _ _] _ _) _ _ _); refine ws_v (by assumption) (by with_reducible assumption) (by rfl) ?_) | fail)
local macro_rules | `(tactic| walk_at "e") => `(tactic| first | ((with_reducible show WS _ _ (Stmt.Return (some _) _) _ _ _); refine ws_ret ?_) | fail)
local macro_rules | `(tactic| walk_at "e") => `(tactic| first | ((with_reducible show WW _ _ (Expr.BoolOp BoolOp.Or _ _) _ _ _); refine ww_or ?_) | fail)
local macro_rules | `(tactic| walk_at "e") => `(tactic| first | ((with_reducible show WW _ _ (Expr.BoolOp BoolOp.And _ _) _ _ _); refine ww_and ?_) | fail)
local macro_rules | `(tactic| walk_at "e") => `(tactic| first | ((with_reducible show WW _ _ (Expr.BoolOp BoolOp.Or [_] _) _ _ _); refine ww_or1 ?_) | fail)
local macro_rules | `(tactic| walk_at "e") => `(tactic| first | ((with_reducible show WW _ _ (Expr.BoolOp BoolOp.And [_] _) _ _ _); refine ww_and1 ?_) | fail)
local macro_rules | `(tactic| walk_at "e") => `(tactic| first | ((with_reducible show WT _ _ (Expr.BoolOp _ _ _) _ _ _); refine wt_w ?_) | fail)
local macro_rules | `(tactic| walk_at "e") => `(tactic| first | ((with_reducible show WT _ _ (Expr.UnaryOp UnaryOp.Not _ _) _ _ _); refine wt_not ?_) | fail)
local macro_rules | `(tactic| walk_at "e") => `(tactic| first | ((with_reducible show WT _ _ (Expr.Compare _ [CmpOp.LtE, CmpOp.Lt] _ _) _ _ _); refine wt_chain op_le op_lt ?_) | fail)
local macro_rules | `(tactic| walk_at "e") => `(tactic| first | ((with_reducible show WT _ _ (Expr.Compare _ [CmpOp.LtE, CmpOp.LtE] _ _) _ _ _); refine wt_chain op_le op_le ?_) | fail)
local macro_rules | `(tactic| walk_at "e") => `(tactic| first | ((with_reducible show W _ _ (Expr.Compare _ [CmpOp.In] _ _) _ _ _); refine w_in (by assumption) ?_) | fail)
local macro_rules | `(tactic| walk_at "e") => `(tactic| first | ((with_reducible show WT _ _ (Expr.Compare _ [CmpOp.NotIn] _ _) _ _ _); refine wt_nin (by assumption) ?_) | fail)
local macro_rules | `(tactic| walk_at "e") => `(tactic| first | ((with_reducible show WT _ _ (Expr.Compare _ [CmpOp.In] _ _) _ _ _); refine wt_in (by assumption) ?_) | fail)
local macro_rules | `(tactic| walk_at "e") => `(tactic| first | ((with_reducible show W _ _ (Expr.Compare _ [CmpOp.NotEq] _ _) _ _ _); refine w_neE (by assumption) ?_) | fail)
local macro_rules | `(tactic| walk_at "e") => `(tactic| first | ((with_reducible show W _ _ (Expr.Compare _ [CmpOp.Eq] _ _) _ _ _); refine w_eqE (by assumption) ?_) | fail)
local macro_rules | `(tactic| walk_at "e") => `(tactic| first | ((with_reducible show WT _ _ (Expr.Compare _ [CmpOp.NotEq] _ _) _ _ _); refine wt_neE (by assumption) ?_) | fail)
local macro_rules | `(tactic| walk_at "e") => `(tactic| first | ((with_reducible show WT _ _ (Expr.Compare _ [CmpOp.Eq] _ _) _ _ _); refine wt_eqE (by assumption) ?_) | fail)
local macro_rules | `(tactic| walk_at "e") => `(tactic| first | ((with_reducible show W _ _ (Expr.Compare _ [CmpOp.Is] [Expr.Constant Const.none _ _] _) _ _ _); refine w_isN ?_) | fail)
local macro_rules | `(tactic| walk_at "e") => `(tactic| first | ((with_reducible show WT _ _ (Expr.Compare _ [CmpOp.IsNot] [Expr.Constant Const.none _ _] _) _ _ _); refine wt_notN ?_) | fail)
local macro_rules | `(tactic| walk_at "e") => `(tactic| first | ((with_reducible show WT _ _ (Expr.Compare _ [CmpOp.Is] [Expr.Constant Const.none _ _] _) _ _ _); refine wt_isN ?_) | fail)
local macro_rules | `(tactic| walk_at "e") => `(tactic| first | ((with_reducible show W _ _ (Expr.Compare _ [CmpOp.GtE] _ _) _ _ _); refine w_cmpI op_ge ?_) | fail)
local macro_rules | `(tactic| walk_at "e") => `(tactic| first | ((with_reducible show WT _ _ (Expr.Compare _ [CmpOp.GtE] _ _) _ _ _); refine wt_cmpI op_ge ?_) | fail)
local macro_rules | `(tactic| walk_at "e") => `(tactic| first | ((with_reducible show W _ _ (Expr.Compare _ [CmpOp.LtE] _ _) _ _ _); refine w_cmpI op_le ?_) | fail)
local macro_rules | `(tactic| walk_at "e") => `(tactic| first | ((with_reducible show WT _ _ (Expr.Compare _ [CmpOp.LtE] _ _) _ _ _); refine wt_cmpI op_le ?_) | fail)
local macro_rules | `(tactic| walk_at "e") => `(tactic| first | ((with_reducible show W _ _ (Expr.Compare _ [CmpOp.Lt] _ _) _ _ _); refine w_cmpI op_lt ?_) | fail)
local macro_rules | `(tactic| walk_at "e") => `(tactic| first | ((with_reducible show WT _ _ (Expr.Compare _ [CmpOp.Lt] _ _) _ _ _); refine wt_cmpI op_lt ?_) | fail)
local macro_rules | `(tactic| walk_at "e") => `(tactic| first | ((with_reducible show W _ _ (Expr.Compare _ [CmpOp.Gt] _ _) _ _ _); refine w_cmpI op_gt ?_) | fail)
local macro_rules | `(tactic| walk_at "e") => `(tactic| first | ((with_reducible show WT _ _ (Expr.Compare _ [CmpOp.Gt] _ _) _ _ _); refine wt_cmpI op_gt ?_) | fail)
local macro_rules | `(tactic| walk_at "e") => `(tactic| first | with_reducible refine w_pow ?_ | fail)
local macro_rules | `(tactic| walk_at "e") => `(tactic| first | with_reducible refine w_mul ?_ | fail)
local macro_rules | `(tactic| walk_at "e") => `(tactic| first | with_reducible refine w_div ?_ | fail)
local macro_rules | `(tactic| walk_at "e") => `(tactic| first | with_reducible refine w_mod ?_ | fail)
local macro_rules | `(tactic| walk_at "e") => `(tactic| first | with_reducible refine w_sub ?_ | fail)
local macro_rules | `(tactic| walk_at "e") => `(tactic| first | with_reducible refine wp_nil ?_ | fail)
local macro_rules | `(tactic| walk_at "e") => `(tactic| first | with_reducible refine wp_cons ?_ | fail)
local macro_rules | `(tactic| walk_at "e") => `(tactic| first | with_reducible refine wo_none ?_ | fail)
local macro_rules | `(tactic| walk_at "e") => `(tactic| first | with_reducible refine wo_some ?_ | fail)
local macro_rules | `(tactic| walk_at "e") => `(tactic| first | with_reducible refine wa_nil ?_ | fail)
local macro_rules | `(tactic| walk_at "e") => `(tactic| first | ((with_reducible show WA _ _ (_ :: _) _ _ _); refine wa_cons ?_) | fail)
local macro_rules | `(tactic| walk_at "e") => `(tactic| first | with_reducible refine w_tup ?_ | fail)
local macro_rules | `(tactic| walk_at "e") => `(tactic| first | with_reducible refine w_lst ?_ | fail)
local macro_rules | `(tactic| walk_at "e") => `(tactic| first | ((with_reducible show W _ _ (Expr.Subscript _ _ _) _ _ _); refine w_sub1 (by assumption) ?_) | fail)
local macro_rules | `(tactic| walk_at "e") => `(tactic| first | ((with_reducible show W _ _ (Expr.Subscript _ (Expr.Slice _ _ _ _) _) _ _ _); refine w_slT (by assumption) ?_) | fail)
local macro_rules | `(tactic| walk_at "e") => `(tactic| first | with_reducible refine w_plus (by assumption) ?_ | fail)
local macro_rules | `(tactic| walk_at "e") => `(tactic| first | with_reducible refine w_bl ?_ | fail)
local macro_rules | `(tactic| walk_at "e") => `(tactic| first | with_reducible refine w_non ?_ | fail)
local macro_rules | `(tactic| walk_at "e") => `(tactic| first | with_reducible refine w_str ?_ | fail)
local macro_rules | `(tactic| walk_at "e") => `(tactic| first | with_reducible refine w_int ?_ | fail)
set_option maxHeartbeats 4000000
section
open PySem PySem.Spec L2
/-! ### the rooms -/
def bg (r : List St) (inner back : Nat) : Nat := match r with
  | [] => back
  | _ :: _ => inner
mutual
def layS (pl : Plan) : St → Nat → Nat → List Exits
  | .write c v, _, goal => [[(.put c v, goal)]]
  | .wait c v, _, goal => [[(.look c v, goal)]]
  | .mark _, _, goal => [[(.go, goal)]]
  | .skip, _, goal => [[(.go, goal)]]
  | .stop, _, _ => [[]]
  | .ife c v y n, at_, goal => looksM pl c v (bg y (at_ + 1) goal) (bg n (at_ + 1 + szs y) goal) :: (layR pl y (at_ + 1) goal ++ layR pl n (at_ + 1 + szs y) goal)
  | .whl c v b, at_, goal => looksM pl c v (bg b (at_ + 1) at_) goal :: layR pl b (at_ + 1) at_
  | .loop b, at_, _ => [(.go, bg b (at_ + 1) at_)] :: layR pl b (at_ + 1) at_
  | .choose a b, at_, goal => [(.go, bg a (at_ + 1) goal), (.go, bg b (at_ + 1 + szs a) goal)] :: (layR pl a (at_ + 1) goal ++ layR pl b (at_ + 1 + szs a) goal)
def layR (pl : Plan) : List St → Nat → Nat → List Exits
  | [], _, _ => []
  | s :: r, first, behind => layS pl s first (bg r (first + sz s) behind) ++ layR pl r (first + sz s) behind
end
mutual
def preS : St → List St
  | .ife c v y n => .ife c v y n :: (preR y ++ preR n)
  | .whl c v b => .whl c v b :: preR b
  | .loop b => .loop b :: preR b
  | .choose a b => .choose a b :: (preR a ++ preR b)
  | .write c v => [.write c v]
  | .wait c v => [.wait c v]
  | .mark n => [.mark n]
  | .skip => [.skip]
  | .stop => [.stop]
def preR : List St → List St
  | [] => []
  | s :: r => preS s ++ preR r
end
theorem preS_parts (s : St) : preS s = s :: ((partsOf s).map preR).flatten := by cases s <;> simp [preS, partsOf]
theorem preR_map : ∀ r : List St, preR r = (r.map preS).flatten
  | [] => rfl
  | s :: r => by rw [List.map_cons, List.flatten_cons, ← preR_map r]; rfl
mutual
theorem layS_len (pl : Plan) : ∀ (s : St) (a b : Nat), (layS pl s a b).length = sz s
  | .write _ _, _, _ => rfl
  | .wait _ _, _, _ => rfl
  | .mark _, _, _ => rfl
  | .skip, _, _ => rfl
  | .stop, _, _ => rfl
  | .ife _ _ y n, a, b => by simp only [layS, sz, List.length_cons, List.length_append, layR_len pl y, layR_len pl n]; omega
  | .whl _ _ x, a, b => by simp only [layS, sz, List.length_cons, layR_len pl x]; omega
  | .loop x, a, b => by simp only [layS, sz, List.length_cons, layR_len pl x]; omega
  | .choose y n, a, b => by simp only [layS, sz, List.length_cons, List.length_append, layR_len pl y, layR_len pl n]; omega
theorem layR_len (pl : Plan) : ∀ (r : List St) (a b : Nat), (layR pl r a b).length = szs r
  | [], _, _ => rfl
  | s :: r, a, b => by simp only [layR, szs, List.length_append, layS_len pl s, layR_len pl r]
end
mutual
theorem preS_len : ∀ (s : St), (preS s).length = sz s
  | .write _ _ => rfl
  | .wait _ _ => rfl
  | .mark _ => rfl
  | .skip => rfl
  | .stop => rfl
  | .ife _ _ y n => by simp only [preS, sz, List.length_cons, List.length_append, preR_len y, preR_len n]; omega
  | .whl _ _ x => by simp only [preS, sz, List.length_cons, preR_len x]; omega
  | .loop x => by simp only [preS, sz, List.length_cons, preR_len x]; omega
  | .choose y n => by simp only [preS, sz, List.length_cons, List.length_append, preR_len y, preR_len n]; omega
theorem preR_len : ∀ (r : List St), (preR r).length = szs r
  | [] => rfl
  | s :: r => by simp only [preR, szs, List.length_append, preS_len s, preR_len r]
end
theorem szs_take_succ : ∀ {r : List St} {i : Nat} {s : St}, r[i]? = some s → szs (r.take i) + sz s ≤ szs r
  | x :: r, 0, s, h => by
    have : x = s := by simpa using h
    subst this; simp [szs]
  | x :: r, i + 1, s, h => by
    have := szs_take_succ (r := r) (i := i) (by simpa using h)
    rw [List.take_succ_cons]; simp only [szs]; omega
  | [], _, _, h => by simp at h
theorem parts_take_sz {s : St} {j : Nat} {p : List St} (h : (partsOf s)[j]? = some p) : ((((partsOf s).take j).map preR).flatten).length + szs p + 1 ≤ sz s := by
  cases s <;> simp only [partsOf] at h ⊢ <;> (try (simp at h; done))
  all_goals (rcases j with _ | _ | j <;> simp at h <;> (try subst h) <;> simp [sz, preR_len] <;> omega)
/-- number_row -/
def spNum (g : Gb) (n : Nat) : ASp := fun ds μ P => ∃ r a x y pp acc, ds = [.ptr a, prog g r] ∧ szs r < n ∧ n ≤ 50 ∧ acc.length + szs r ≤ 100 ∧ μ a = some (.ins (cl g "Machine") ["plan", "text", "places"] [x, y, .ptr pp]) ∧ μ pp = some (.lst acc) ∧ P .non (up μ pp (.lst (acc ++ (preR r).map (prS g))))
abbrev N_Machine_number_row : List Str := ["self", "program", "statement", "part"]
abbrev V_Machine_number_row : List Nat := [0, 1, 2, 3]
abbrev G_Machine_number_row : List Str := []
theorem wk_Machine_number_row {g : Gb} {k : Nat} (Z : Fx g) (n : Nat) {j : Nat} (hj : j ≤ k) (Fp : ∀ s, MeG g j (cl g (nameOf s)) "parts" (spPartsN g (nameOf s))) (Fn : MeG g j (cl g "Machine") "number_row" (spNum g n)) : Wlk g k d_Machine_number_row N_Machine_number_row ["self", "program"] V_Machine_number_row V_Machine_number_row G_Machine_number_row (spNum g (n + 1)) := by
  refine ⟨⟨rfl, rfl, rfl, by decide +kernel, rfl, by decide +kernel, by decide +kernel⟩, by decide +kernel, ?_, fun X S ds μ P h => ?_⟩
  · walk_at "sp_len"
  have nn0 : N_Machine_number_row[0]? = some ("self" : Str) := rfl
  have nn1 : N_Machine_number_row[1]? = some ("program" : Str) := rfl
  have nn2 : N_Machine_number_row[2]? = some ("statement" : Str) := rfl
  have nn3 : N_Machine_number_row[3]? = some ("part" : Str) := rfl
  refine wb_cons ?_
  obtain ⟨r, a, x, y, pp, acc, rfl, hs, hn, hacc, ha, hpp, q⟩ := h
  have hne : a ≠ pp := fun e => by subst e; rw [ha] at hpp; cases hpp
  refine ws_for (by assumption) ?_
  refine wi_tup (by assumption) ?_
  refine w_fld (by assumption) (Fx.cls (by assumption) 134 rfl) (Fx.na (by assumption) 136 rfl) (ns := ["row"]) (i := 0) rfl ?_
  walk_at "g"
  refine ⟨fun i ρ' m' => ∃ a2 a3, ρ' = [some (.ptr a), some (prog g r), a2, a3] ∧ m' = up μ pp (.lst (acc ++ (preR (r.take i)).map (prS g))), ⟨_, _, rfl, by rw [show (preR (r.take 0)).map (prS g) = [] from rfl, List.append_nil, up_id hpp]⟩, ?_, ?_⟩
  · rintro i d ρ' m' hd ⟨a2, a3, rfl, rfl⟩
    rw [prSs_map, List.getElem?_map] at hd
    cases ht : r[i]? with
    | none => rw [ht] at hd; cases hd
    | some s =>
      rw [ht] at hd
      cases hd
      have hsz := sz_mem r s (List.mem_of_getElem? ht)
      walk_at "g"
      refine ws_append (by assumption) rfl ?_
      refine w_fldP (by assumption) (Fx.cls (by assumption) 139 rfl) (Fx.na (by assumption) 143 rfl) (ns := ["plan", "text", "places"]) (i := 2) rfl ?_
      walk_at "g"
      refine ⟨a, _, .ptr pp, rfl, by rw [up_ne hne]; exact ha, rfl, ?_⟩
      refine ⟨pp, rfl, ⟨_, up_same⟩, ?_⟩
      walk_at "g"
      have hst := szs_take_succ ht
      have hA : (acc ++ (preR (r.take i)).map (prS g)).length = acc.length + szs (r.take i) := by rw [List.length_append, List.length_map, preR_len]
      refine ⟨_, up_same, by rw [hA]; omega, ?_⟩
      rw [up_up]
      walk_at "g"
      refine ws_for (by assumption) ?_
      refine wi_lst (by assumption) ?_
      refine w_meth0 (by assumption) (Fp s) hj ?_
      walk_at "g"
      obtain ⟨ds, ed⟩ := prS_obj g s
      refine ⟨_, ds, ed, ix_parts s, ?_⟩
      refine ⟨s, rfl, rfl, _, rfl, ?_⟩
      refine ⟨fun jj ρ' m' => ∃ a3, ρ' = [some (.ptr a), some (prog g r), some (prS g s), a3] ∧ m' = up μ pp (.lst ((acc ++ (preR (r.take i)).map (prS g) ++ [prS g s]) ++ ((((partsOf s).take jj).map preR).flatten).map (prS g))), ⟨_, rfl, by rw [List.take_zero]; simp⟩, ?_, ?_⟩
      · rintro jj d ρ' m' hd ⟨a3, rfl, rfl⟩
        rw [List.getElem?_map] at hd
        cases htp : (partsOf s)[jj]? with
        | none => rw [htp] at hd; cases hd
        | some p =>
          rw [htp] at hd
          cases hd
          have hps := parts_sz s p (List.mem_of_getElem? htp)
          have hflen : ((((partsOf s).take jj).map preR).flatten).length + szs p + 1 ≤ sz s := parts_take_sz htp
          walk_at "g"
          refine ws_expr ?_
          refine w_methP (by assumption) Fn hj ?_
          walk_at "g"
          refine ⟨a, _, _, rfl, by rw [up_ne hne]; exact ha, rfl, ?_⟩
          walk_at "g"
          refine ⟨p, a, x, y, pp, _, rfl, by omega, by omega, ?_, by rw [up_ne hne]; exact ha, up_same, ?_⟩
          · rw [List.length_append, List.length_append, hA, List.length_map]
            show _ + 1 + _ + _ ≤ _
            omega
          · rw [up_up]
            refine ⟨_, rfl, ?_⟩
            rw [List.take_succ, htp]
            simp only [Option.toList_some, List.map_append, List.map_cons, List.map_nil, List.flatten_append, List.flatten_cons, List.flatten_nil, List.append_nil, List.append_assoc]
      · rintro ρ' m' ⟨a3, rfl, rfl⟩
        rw [List.length_map, List.take_length]
        refine ⟨_, _, rfl, ?_⟩
        rw [List.take_succ, ht]
        simp only [Option.toList_some, preR_map, List.map_append, List.map_cons, List.map_nil, List.flatten_append, List.flatten_cons, List.flatten_nil, List.append_nil, preS_parts s, List.append_assoc, List.cons_append, List.nil_append]
  · rintro ρ' m' ⟨a2, a3, rfl, rfl⟩
    rw [show (prSs g r).length = r.length by rw [prSs_map, List.length_map], List.take_length]
    walk_at "g"
    exact q
end
set_option maxHeartbeats 4000000
section
open PySem PySem.Spec L2
def exitsOf (pl : Plan) : St → List Nat → Nat → Exits
  | .write c v, _, goal => [(.put c v, goal)]
  | .wait c v, _, goal => [(.look c v, goal)]
  | .mark _, _, goal => [(.go, goal)]
  | .skip, _, goal => [(.go, goal)]
  | .stop, _, _ => []
  | .ife c v _ _, bs, _ => looksM pl c v (bs.getD 0 0) (bs.getD 1 0)
  | .whl c v _, bs, goal => looksM pl c v (bs.getD 0 0) goal
  | .loop _, bs, _ => bs.map fun b => (.go, b)
  | .choose _ _, bs, _ => bs.map fun b => (.go, b)
def begs : List (List St) → Nat → Nat → List Nat
  | [], _, _ => []
  | p :: ps, inner, back => bg p inner back :: begs ps (inner + szs p) back
def layP (pl : Plan) : List (List St) → Nat → Nat → List Exits
  | [], _, _ => []
  | p :: ps, inner, back => layR pl p inner back ++ layP pl ps (inner + szs p) back
def backOf (s : St) (at_ goal : Nat) : Nat := match s with
  | .whl _ _ _ => at_
  | .loop _ => at_
  | _ => goal
theorem layS_eq (pl : Plan) (s : St) (a b : Nat) : layS pl s a b = exitsOf pl s (begs (partsOf s) (a + 1) (backOf s a b)) b :: layP pl (partsOf s) (a + 1) (backOf s a b) := by
  cases s <;> simp [layS, exitsOf, begs, layP, partsOf, backOf]
def szp (ps : List (List St)) : Nat := (ps.map szs).sum
theorem begs_app : ∀ (ps : List (List St)) (p : List St) (i b : Nat), begs (ps ++ [p]) i b = begs ps i b ++ [bg p (i + szp ps) b]
  | [], p, i, b => by simp [begs, szp]
  | q :: ps, p, i, b => by
    rw [List.cons_append]
    simp only [begs, begs_app ps p, List.cons_append]
    have : i + szs q + szp ps = i + szp (q :: ps) := by simp [szp]; omega
    rw [this]
theorem layP_app (pl : Plan) : ∀ (ps : List (List St)) (p : List St) (i b : Nat), layP pl (ps ++ [p]) i b = layP pl ps i b ++ layR pl p (i + szp ps) b
  | [], p, i, b => by simp [layP, szp]
  | q :: ps, p, i, b => by
    rw [List.cons_append]
    simp only [layP, layP_app pl ps p, List.append_assoc]
    have : i + szs q + szp ps = i + szp (q :: ps) := by simp [szp]; omega
    rw [this]
theorem layP_len (pl : Plan) : ∀ (ps : List (List St)) (i b : Nat), (layP pl ps i b).length = szp ps
  | [], _, _ => rfl
  | q :: ps, i, b => by simp [layP, szp, layR_len, layP_len pl ps]
theorem szp_parts (s : St) : 1 + szp (partsOf s) = sz s := by cases s <;> simp [partsOf, szp, sz]
theorem szp_take {s : St} {j : Nat} {p : List St} (h : (partsOf s)[j]? = some p) : 1 + szp ((partsOf s).take j) + szs p ≤ sz s := by
  cases s <;> simp only [partsOf] at h ⊢ <;> (try (simp at h; done))
  all_goals (rcases j with _ | _ | j <;> simp at h <;> (try subst h) <;> simp [sz, szp] <;> omega)
/-- begin_of -/
def spBeginOf (g : Gb) : ASp := fun ds μ P => ∃ x r f b, ds = [x, prog g r, .int (f : Nat), .int (b : Nat)] ∧ r.length ≤ 100 ∧ P (.int (bg r f b : Nat)) μ
abbrev N_Machine_begin_of : List Str := ["self", "program", "first", "behind"]
abbrev V_Machine_begin_of : List Nat := [0, 1, 2, 3]
abbrev G_Machine_begin_of : List Str := ["len"]
theorem wk_Machine_begin_of {g : Gb} {k : Nat} (Z : Fx g)  : Wlk g k d_Machine_begin_of N_Machine_begin_of ["self", "program", "first", "behind"] V_Machine_begin_of V_Machine_begin_of G_Machine_begin_of (spBeginOf g) := by
  refine ⟨⟨rfl, rfl, rfl, by decide +kernel, rfl, by decide +kernel, by decide +kernel⟩, by decide +kernel, ?_, fun X S ds μ P h => ?_⟩
  · walk_at "sp_len"
  have nn0 : N_Machine_begin_of[0]? = some ("self" : Str) := rfl
  have nn1 : N_Machine_begin_of[1]? = some ("program" : Str) := rfl
  have nn2 : N_Machine_begin_of[2]? = some ("first" : Str) := rfl
  have nn3 : N_Machine_begin_of[3]? = some ("behind" : Str) := rfl
  have gg0 : G_Machine_begin_of[0]? = some ("len" : Str) := rfl
  refine wb_cons ?_
  obtain ⟨x, r, f, b, rfl, hl, q⟩ := h
  refine ws_ifc (fun t m => t = decide (r = []) ∧ m = μ) ?_ ?_ ?_
  · walk_at "g"
    refine w_fld (by assumption) (Fx.cls (by assumption) 134 rfl) (Fx.na (by assumption) 136 rfl) (ns := ["row"]) (i := 0) rfl ?_
    walk_at "g"
    refine ⟨?_, rfl⟩
    cases r with
    | nil => rfl
    | cons s r =>
      show decide (((prSs g (s :: r)).length : Nat) = (0 : Int)) = _
      rw [decide_eq_false (by show ¬ (((prSs g r).length + 1 : Nat) : Int) = 0; omega), decide_eq_false (by simp)]
  · rintro m ⟨e, rfl⟩
    have er := of_decide_eq_true e.symm
    subst er
    walk_at "g"
    exact q
  · rintro m ⟨e, rfl⟩
    have er := of_decide_eq_false e.symm
    walk_at "g"
    cases r with
    | nil => exact absurd rfl er
    | cons s r => exact q
theorem ok_Machine_begin_of {g : Gb} {k : Nat} (Z : Fx g)  : MeG g (k + 1) (cl g "Machine") "begin_of" (spBeginOf g) :=
  Z.me 23 147 139 rfl rfl rfl rfl rfl rfl (fun _ _ _ _ _ _ us hl => match us, hl with | [_, _, _, _], _ => rfl) (wk_Machine_begin_of Z)
/-- steps_of -/
def machI (g : Gb) (pl : Plan) (x y ex : D) : MC := .ins (cl g "Machine") ["plan", "text", "places", "exits"] [boardD g pl, x, y, ex]
def spSteps (g : Gb) : ASp := fun ds μ P => ∃ a s bs goal pl ms x y ex, ds = [.ptr a, prS g s, .lst (bs.map fun b : Nat => .int b), .int (goal : Nat)] ∧ μ a = some (machI g pl x y ex) ∧ PlanOk pl ∧ stOk pl ms s ∧ bs.length = (partsOf s).length ∧ P (exsD (exitsOf pl s bs goal)) μ
theorem name_is {s : St} {nm : Str} (h : decide (nm = nameOf s) = true) : nameOf s = nm := (of_decide_eq_true h).symm
theorem is_Write : ∀ {s : St}, decide (("Write" : Str) = nameOf s) = true → ∃ c v, s = .write c v := fun {s} e => by
  have e := name_is e
  cases s <;> first | exact ⟨_, _, rfl⟩ | exact absurd e (by simp only [nameOf]; decide)
theorem is_Wait : ∀ {s : St}, decide (("Wait" : Str) = nameOf s) = true → ∃ c v, s = .wait c v := fun {s} e => by
  have e := name_is e
  cases s <;> first | exact ⟨_, _, rfl⟩ | exact absurd e (by simp only [nameOf]; decide)
theorem is_If : ∀ {s : St}, decide (("If" : Str) = nameOf s) = true → ∃ c v y nn, s = .ife c v y nn := fun {s} e => by
  have e := name_is e
  cases s <;> first | exact ⟨_, _, _, _, rfl⟩ | exact absurd e (by simp only [nameOf]; decide)
theorem is_While : ∀ {s : St}, decide (("While" : Str) = nameOf s) = true → ∃ c v b, s = .whl c v b := fun {s} e => by
  have e := name_is e
  cases s <;> first | exact ⟨_, _, _, rfl⟩ | exact absurd e (by simp only [nameOf]; decide)
theorem is_Stop : ∀ {s : St}, decide (("Stop" : Str) = nameOf s) = true → s = .stop := fun {s} e => by
  have e := name_is e
  cases s <;> first | rfl | exact absurd e (by simp only [nameOf]; decide)
theorem is_Mark : ∀ {s : St}, decide (("Mark" : Str) = nameOf s) = true → ∃ n, s = .mark n := fun {s} e => by
  have e := name_is e
  cases s <;> first | exact ⟨_, rfl⟩ | exact absurd e (by simp only [nameOf]; decide)
theorem is_Skip : ∀ {s : St}, decide (("Skip" : Str) = nameOf s) = true → s = .skip := fun {s} e => by
  have e := name_is e
  cases s <;> first | rfl | exact absurd e (by simp only [nameOf]; decide)
theorem is_MS : ∀ {s : St}, ((["Mark", "Skip"] : List Str).any fun n => decide (n = nameOf s)) = true → (∃ n, s = .mark n) ∨ s = .skip := fun {s} e => by
  rw [List.any_cons, List.any_cons, List.any_nil, Bool.or_false, Bool.or_eq_true] at e
  rcases e with e | e
  · exact .inl (is_Mark e)
  · exact .inr (is_Skip e)
theorem ms_mark {n : Str} : ((["Mark", "Skip"] : List Str).any fun x => decide (x = nameOf (.mark n))) = true := by
  rw [List.any_cons, show decide (("Mark" : Str) = nameOf (.mark n)) = true from decide_eq_true rfl]; rfl
theorem ms_skip : ((["Mark", "Skip"] : List Str).any fun x => decide (x = nameOf .skip)) = true := by
  rw [List.any_cons, List.any_cons, show decide (("Skip" : Str) = nameOf .skip) = true from decide_eq_true rfl, Bool.true_or, Bool.or_true]
abbrev N_Machine_steps_of : List Str := ["self", "statement", "begins", "goal", "begin"]
abbrev V_Machine_steps_of : List Nat := [0, 1, 2, 3]
abbrev G_Machine_steps_of : List Str := ["isinstance", "Write", "Wait", "Mark", "Skip", "GO", "Stop", "If", "looks", "While"]
abbrev V_Machine_steps_of_0 : List Nat := [4]
abbrev L_Machine_steps_of_0 : List Nat := [4]
abbrev G_Machine_steps_of_0 : List Str := ["GO"]
abbrev O_Machine_steps_of_0 : List (Str × Nat) := [("begin", 4)]
theorem wk_Machine_steps_of {g : Gb} {k : Nat} (Z : Fx g) (ig jg : Nat) (hig : exs[ig]? = some goT) (hjg : fa[jg]? = some (.glo "GO")) {j : Nat} (hj : j ≤ k) (Fl : FnG g j "looks" (spLooks g)) : Wlk g k d_Machine_steps_of N_Machine_steps_of ["self", "statement", "begins", "goal"] V_Machine_steps_of V_Machine_steps_of G_Machine_steps_of (spSteps g) := by
  refine ⟨⟨rfl, rfl, rfl, by decide +kernel, rfl, by decide +kernel, by decide +kernel⟩, by decide +kernel, ?_, fun X S ds μ P h => ?_⟩
  · walk_at "sp_len"
  have nn0 : N_Machine_steps_of[0]? = some ("self" : Str) := rfl
  have nn1 : N_Machine_steps_of[1]? = some ("statement" : Str) := rfl
  have nn2 : N_Machine_steps_of[2]? = some ("begins" : Str) := rfl
  have nn3 : N_Machine_steps_of[3]? = some ("goal" : Str) := rfl
  have nn4 : N_Machine_steps_of[4]? = some ("begin" : Str) := rfl
  have gg0 : G_Machine_steps_of[0]? = some ("isinstance" : Str) := rfl
  have gg1 : G_Machine_steps_of[1]? = some ("Write" : Str) := rfl
  have gg2 : G_Machine_steps_of[2]? = some ("Wait" : Str) := rfl
  have gg3 : G_Machine_steps_of[3]? = some ("Mark" : Str) := rfl
  have gg4 : G_Machine_steps_of[4]? = some ("Skip" : Str) := rfl
  have gg5 : G_Machine_steps_of[5]? = some ("GO" : Str) := rfl
  have gg6 : G_Machine_steps_of[6]? = some ("Stop" : Str) := rfl
  have gg7 : G_Machine_steps_of[7]? = some ("If" : Str) := rfl
  have gg8 : G_Machine_steps_of[8]? = some ("looks" : Str) := rfl
  have gg9 : G_Machine_steps_of[9]? = some ("While" : Str) := rfl
  have gm1 : g.mg "Write" = some (.ref (cl g "Write")) := Z.glo 6
  have gm2 : g.mg "Wait" = some (.ref (cl g "Wait")) := Z.glo 7
  have gm3 : g.mg "Mark" = some (.ref (cl g "Mark")) := Z.glo 8
  have gm4 : g.mg "Skip" = some (.ref (cl g "Skip")) := Z.glo 9
  have gm6 : g.mg "Stop" = some (.ref (cl g "Stop")) := Z.glo 10
  have gm7 : g.mg "If" = some (.ref (cl g "If")) := Z.glo 11
  have gm9 : g.mg "While" = some (.ref (cl g "While")) := Z.glo 12
  have gc0_0 : G_Machine_steps_of_0[0]? = some ("GO" : Str) := rfl
  refine wb_cons ?_
  obtain ⟨a, s, bs, goal, pl, ms, x, y, ex, rfl, ha, ok, sok, hb, q⟩ := h
  walk_at "i"
  split
  · rename_i h0
    obtain ⟨c, v, rfl⟩ := is_Write h0
    walk_at "g"
    refine w_fld (by assumption) (Fx.cls (by assumption) 91 rfl) (Fx.na (by assumption) 93 rfl) (ns := ["cell", "value"]) (i := 0) rfl ?_
    walk_at "g"
    refine w_fld (by assumption) (Fx.cls (by assumption) 91 rfl) (Fx.na (by assumption) 94 rfl) (ns := ["cell", "value"]) (i := 1) rfl ?_
    walk_at "g"
    exact q
  walk_at "g"
  walk_at "i"
  split
  · rename_i h0
    obtain ⟨c, v, rfl⟩ := is_Wait h0
    walk_at "g"
    refine w_fld (by assumption) (Fx.cls (by assumption) 97 rfl) (Fx.na (by assumption) 99 rfl) (ns := ["cell", "value"]) (i := 0) rfl ?_
    walk_at "g"
    refine w_fld (by assumption) (Fx.cls (by assumption) 97 rfl) (Fx.na (by assumption) 100 rfl) (ns := ["cell", "value"]) (i := 1) rfl ?_
    walk_at "g"
    exact q
  walk_at "g"
  walk_at "i"
  refine ⟨["Mark", "Skip"], rfl, by simp [tested], by show 2 ≤ 100; decide, ?_⟩
  walk_at "g"
  split
  · rename_i h0
    rcases is_MS h0 with ⟨nn, rfl⟩ | rfl
    · walk_at "g"
      refine w_gGO Z ig jg hig hjg (by assumption) (by with_reducible assumption) ?_
      walk_at "g"
      exact q
    · walk_at "g"
      refine w_gGO Z ig jg hig hjg (by assumption) (by with_reducible assumption) ?_
      walk_at "g"
      exact q
  walk_at "g"
  walk_at "i"
  split
  · rename_i h0
    have e := is_Stop h0
    subst e
    walk_at "g"
    exact q
  walk_at "g"
  walk_at "i"
  split
  · rename_i h0
    obtain ⟨c, v, y', n', rfl⟩ := is_If h0
    obtain ⟨b0, b1, rfl⟩ : ∃ b0 b1, bs = [b0, b1] := by
      rcases bs with _ | ⟨b0, _ | ⟨b1, _ | ⟨b2, r⟩⟩⟩ <;> simp [partsOf] at hb
      exact ⟨_, _, rfl⟩
    walk_at "g"
    refine w_fldP (by assumption) (Fx.cls (by assumption) 139 rfl) (Fx.na (by assumption) 141 rfl) (ns := ["plan", "text", "places", "exits"]) (i := 0) rfl ?_
    walk_at "g"
    refine ⟨a, _, _, rfl, ha, rfl, ?_⟩
    walk_at "g"
    exact ⟨pl, .ife c v y' n', c, v, b0, b1, rfl, rfl, ok, sok.1, q⟩
  walk_at "g"
  walk_at "i"
  split
  · rename_i h0
    obtain ⟨c, v, b', rfl⟩ := is_While h0
    obtain ⟨b0, rfl⟩ : ∃ b0, bs = [b0] := by
      rcases bs with _ | ⟨b0, _ | ⟨b1, r⟩⟩ <;> simp [partsOf] at hb
      exact ⟨_, rfl⟩
    walk_at "g"
    refine w_fldP (by assumption) (Fx.cls (by assumption) 139 rfl) (Fx.na (by assumption) 141 rfl) (ns := ["plan", "text", "places", "exits"]) (i := 0) rfl ?_
    walk_at "g"
    refine ⟨a, _, _, rfl, ha, rfl, ?_⟩
    walk_at "g"
    exact ⟨pl, .whl c v b', c, v, b0, goal, rfl, rfl, ok, sok.1, q⟩
  walk_at "g"
  refine w_lcM (vis' := V_Machine_steps_of_0) (loc' := L_Machine_steps_of_0) (gl' := G_Machine_steps_of_0) (by assumption) O_Machine_steps_of_0 (by decide +kernel) (by decide +kernel) ?_
  refine wi_lst (by assumption) ?_
  walk_at "g"
  have hfin : exitsOf pl s bs goal = bs.map fun b => (Act.go, b) := by
    rename_i h1 h2 h3 h4 h5 h6
    cases s <;> first | rfl | (exfalso; first | exact h1 (decide_eq_true rfl) | exact h2 (decide_eq_true rfl) | exact h3 ms_mark | exact h3 ms_skip | exact h4 (decide_eq_true rfl) | exact h5 (decide_eq_true rfl) | exact h6 (decide_eq_true rfl))
  refine ⟨Nat, bs, fun b => .int (b : Nat), fun b => exD (.go, b), rfl, ?_, fun p hp p2 acc hp2 => ⟨?_, fun X' S' => ?_, fun X' S' => ?_⟩, ?_⟩
  · rw [hb]; have := len_parts s; omega
  rotate_left
  · walk_at "g"
  · walk_at "g"
    refine w_gGO Z ig jg hig hjg (by assumption) (by with_reducible assumption) ?_
    walk_at "g"
    exact ⟨rfl, rfl⟩
  · rw [hfin] at q
    unfold exsD at q
    rw [List.map_map] at q
    exact q
theorem ok_Machine_steps_of {g : Gb} {k : Nat} (Z : Fx g) (ig jg : Nat) (hig : exs[ig]? = some goT) (hjg : fa[jg]? = some (.glo "GO")) {j : Nat} (hj : j ≤ k) (Fl : FnG g j "looks" (spLooks g)) : MeG g (k + 1) (cl g "Machine") "steps_of" (spSteps g) :=
  Z.me 25 149 139 rfl rfl rfl rfl rfl rfl (fun _ _ _ _ _ _ us hl => match us, hl with | [_, _, _, _], _ => rfl) (wk_Machine_steps_of Z ig jg hig hjg hj Fl)
end
set_option maxHeartbeats 4000000
section
open PySem PySem.Spec L2
/-! ### what is laid where -/
def spl (E : List D) (i : Nat) (new : List D) : List D := E.take i ++ new ++ E.drop (i + new.length)
theorem spl_nil (E : List D) (i : Nat) : spl E i [] = E := by simp [spl]
theorem spl_len {E new : List D} {i : Nat} (h : i + new.length ≤ E.length) : (spl E i new).length = E.length := by
  simp only [spl, List.length_append, List.length_take, List.length_drop]; omega
theorem spl_spl {E a b : List D} {i : Nat} (h : i + a.length + b.length ≤ E.length) : spl (spl E i a) (i + a.length) b = spl E i (a ++ b) := by
  have h1 : (E.take i ++ a).length = i + a.length := by simp only [List.length_append, List.length_take]; omega
  show ((E.take i ++ a) ++ E.drop (i + a.length)).take (i + a.length) ++ b ++ ((E.take i ++ a) ++ E.drop (i + a.length)).drop (i + a.length + b.length) = E.take i ++ (a ++ b) ++ E.drop (i + (a ++ b).length)
  rw [List.take_left' h1, ← List.drop_drop, List.drop_left' h1, List.drop_drop]
  simp only [List.append_assoc, List.length_append, Nat.add_assoc]
theorem spl_set {E new : List D} {i : Nat} {x : D} (h : i < E.length) : (spl E (i + 1) new).set i x = spl E i (x :: new) := by
  unfold spl
  rw [List.append_assoc, List.set_append_left _ _ (by rw [List.length_take]; omega)]
  rw [List.take_succ, List.getElem?_eq_getElem h]
  simp only [Option.toList_some]
  rw [List.set_append_right _ _ (by rw [List.length_take]; omega), List.length_take]
  rw [show i - min i E.length = 0 by omega]
  simp only [List.set_cons_zero, List.append_assoc, List.cons_append, List.nil_append, List.length_cons]
  congr 3
  congr 1
  omega
def exsDs (es : List Exits) : List D := es.map exsD
/-- lay, lay_row -/
def spLay (g : Gb) (n : Nat) : ASp := fun ds μ P => ∃ a s at_ goal pl ms x y ex E, ds = [.ptr a, prS g s, .int (at_ : Nat), .int (goal : Nat)] ∧ μ a = some (machI g pl x y (.ptr ex)) ∧ μ ex = some (.lst E) ∧ PlanOk pl ∧ stOk pl ms s ∧ sz s ≤ n ∧ n ≤ 20 ∧ at_ + sz s ≤ E.length ∧ E.length ≤ 100 ∧ P .non (up μ ex (.lst (spl E at_ (exsDs (layS pl s at_ goal)))))
def spLayRow (g : Gb) (n : Nat) : ASp := fun ds μ P => ∃ a r at_ goal pl ms x y ex E, ds = [.ptr a, prog g r, .int (at_ : Nat), .int (goal : Nat)] ∧ μ a = some (machI g pl x y (.ptr ex)) ∧ μ ex = some (.lst E) ∧ PlanOk pl ∧ rowOk pl ms r ∧ szs r ≤ n ∧ n ≤ 20 ∧ at_ + szs r ≤ E.length ∧ E.length ≤ 100 ∧ P .non (up μ ex (.lst (spl E at_ (exsDs (layR pl r at_ goal)))))
theorem is_Loop : ∀ {s : St}, decide (("Loop" : Str) = nameOf s) = true → ∃ b, s = .loop b := fun {s} e => by
  have e := name_is e
  cases s <;> first | exact ⟨_, rfl⟩ | exact absurd e (by simp only [nameOf]; decide)
theorem begs_len : ∀ (ps : List (List St)) (i b : Nat), (begs ps i b).length = ps.length
  | [], _, _ => rfl
  | p :: ps, i, b => by simp [begs, begs_len ps]
abbrev N_Machine_lay : List Str := ["self", "statement", "at", "goal", "begins", "inner", "back", "part"]
abbrev V_Machine_lay : List Nat := [0, 1, 2, 3, 4, 5, 6, 7]
abbrev G_Machine_lay : List Str := ["isinstance", "While", "Loop"]
theorem wk_Machine_lay {g : Gb} {k : Nat} (Z : Fx g) (n : Nat) {j : Nat} (hj : j ≤ k) (Fp : ∀ s, MeG g j (cl g (nameOf s)) "parts" (spPartsN g (nameOf s))) (Fb : MeG g j (cl g "Machine") "begin_of" (spBeginOf g)) (Fr : MeG g j (cl g "Machine") "lay_row" (spLayRow g (n - 1))) (Fz : MeG g j (cl g "Program") "size" (spSizeP g 20)) (Fs : MeG g j (cl g "Machine") "steps_of" (spSteps g)) : Wlk g k d_Machine_lay N_Machine_lay ["self", "statement", "at", "goal"] V_Machine_lay V_Machine_lay G_Machine_lay (spLay g n) := by
  refine ⟨⟨rfl, rfl, rfl, by decide +kernel, rfl, by decide +kernel, by decide +kernel⟩, by decide +kernel, ?_, fun X S ds μ P h => ?_⟩
  · walk_at "sp_len"
  have nn0 : N_Machine_lay[0]? = some ("self" : Str) := rfl
  have nn1 : N_Machine_lay[1]? = some ("statement" : Str) := rfl
  have nn2 : N_Machine_lay[2]? = some ("at" : Str) := rfl
  have nn3 : N_Machine_lay[3]? = some ("goal" : Str) := rfl
  have nn4 : N_Machine_lay[4]? = some ("begins" : Str) := rfl
  have nn5 : N_Machine_lay[5]? = some ("inner" : Str) := rfl
  have nn6 : N_Machine_lay[6]? = some ("back" : Str) := rfl
  have nn7 : N_Machine_lay[7]? = some ("part" : Str) := rfl
  have gg0 : G_Machine_lay[0]? = some ("isinstance" : Str) := rfl
  have gg1 : G_Machine_lay[1]? = some ("While" : Str) := rfl
  have gg2 : G_Machine_lay[2]? = some ("Loop" : Str) := rfl
  have gm1 : g.mg "While" = some (.ref (cl g "While")) := Z.glo 12
  have gm2 : g.mg "Loop" = some (.ref (cl g "Loop")) := Z.glo 14
  refine wb_cons ?_
  obtain ⟨a, s, at_, goal, pl, ms, x, y, ex, E, rfl, ha, hex, ok, sok, hs, hn, hE, hE2, q⟩ := h
  have hne : a ≠ ex := fun e => by subst e; rw [ha] at hex; cases hex
  have spos := sz_pos s
  refine ws_setL (by assumption) 4 rfl rfl ?_
  walk_at "g"
  intro bp hbp
  have hab : a ≠ bp := mu_ne ha hbp
  have heb : ex ≠ bp := mu_ne hex hbp
  walk_at "g"
  refine ws_join (fun ρ' m' => ρ' = [some (.ptr a), some (prS g s), some (.int (at_ : Nat)), some (.int (goal : Nat)), some (.ptr bp), some (.int ((at_ + 1 : Nat) : Int)), some (.int (backOf s at_ goal : Nat)), none] ∧ m' = up μ bp (.lst [])) ?_ ?_
  · walk_at "i"
    refine ⟨["While", "Loop"], rfl, by simp [tested], by show 2 ≤ 100; decide, ?_⟩
    walk_at "g"
    split
    · rename_i h0
      rw [List.any_cons, List.any_cons, List.any_nil, Bool.or_false, Bool.or_eq_true] at h0
      have hb : backOf s at_ goal = at_ := by
        rcases h0 with e | e
        · obtain ⟨c, v, b, rfl⟩ := is_While e; rfl
        · obtain ⟨b, rfl⟩ := is_Loop e; rfl
      rw [hb]
      walk_at "g"
      exact ⟨rfl, rfl⟩
    · rename_i h0
      have hb : backOf s at_ goal = goal := by
        cases s <;> first | rfl | (exfalso; exact h0 (by rw [List.any_cons, List.any_cons]; first | rw [show decide (("While" : Str) = nameOf (.whl _ _ _)) = true from decide_eq_true rfl]; rfl | rw [show decide (("Loop" : Str) = nameOf (.loop _)) = true from decide_eq_true rfl, Bool.true_or, Bool.or_true]))
      rw [hb]
      walk_at "g"
      exact ⟨rfl, rfl⟩
  · rintro ρ' m' ⟨rfl, rfl⟩
    refine wb_cons (ws_for (by assumption) ?_)
    refine wi_lst (by assumption) ?_
    refine w_meth0 (by assumption) (Fp s) hj ?_
    walk_at "g"
    obtain ⟨ds, ed⟩ := prS_obj g s
    refine ⟨_, ds, ed, ix_parts s, ?_⟩
    refine ⟨s, rfl, rfl, _, rfl, ?_⟩
    refine ⟨fun jj ρ' m' => ∃ a7, ρ' = [some (.ptr a), some (prS g s), some (.int (at_ : Nat)), some (.int (goal : Nat)), some (.ptr bp), some (.int ((at_ + 1 + szp ((partsOf s).take jj) : Nat) : Int)), some (.int (backOf s at_ goal : Nat)), a7] ∧ m' = up (up μ ex (.lst (spl E (at_ + 1) (exsDs (layP pl ((partsOf s).take jj) (at_ + 1) (backOf s at_ goal)))))) bp (.lst ((begs ((partsOf s).take jj) (at_ + 1) (backOf s at_ goal)).map fun b : Nat => .int b)), ⟨_, rfl, ?_⟩, ?_, ?_⟩
    · rw [List.take_zero]
      show _ = up (up μ ex (.lst (spl E (at_ + 1) []))) bp (.lst [])
      rw [spl_nil, up_id hex]
    · rintro jj d ρ' m' hd ⟨a7, rfl, rfl⟩
      rw [List.getElem?_map] at hd
      cases htp : (partsOf s)[jj]? with
      | none => rw [htp] at hd; cases hd
      | some p =>
        rw [htp] at hd
        cases hd
        have hps := parts_sz s p (List.mem_of_getElem? htp)
        have hzt := szp_take htp
        have hpl := len_szs p
        have hbl : (begs ((partsOf s).take jj) (at_ + 1) (backOf s at_ goal)).length ≤ 2 := by
          rw [begs_len, List.length_take]; have := len_parts s; omega
        walk_at "g"
        refine ws_append (by assumption) rfl ?_
        walk_at "g"
        refine ⟨⟨_, up_same⟩, ?_⟩
        refine w_methP (by assumption) Fb hj ?_
        walk_at "g"
        refine ⟨a, _, _, rfl, by rw [up_ne hab, up_ne hne]; exact ha, rfl, ?_⟩
        walk_at "g"
        refine ⟨_, p, _, _, rfl, by omega, ?_⟩
        walk_at "g"
        refine ⟨_, up_same, by rw [List.length_map]; omega, ?_⟩
        rw [up_up]
        walk_at "g"
        refine ws_expr ?_
        refine w_methP (by assumption) Fr hj ?_
        walk_at "g"
        refine ⟨a, _, _, rfl, by rw [up_ne hab, up_ne hne]; exact ha, rfl, ?_⟩
        walk_at "g"
        have hLP : (exsDs (layP pl ((partsOf s).take jj) (at_ + 1) (backOf s at_ goal))).length = szp ((partsOf s).take jj) := by unfold exsDs; rw [List.length_map, layP_len]
        have hspl := spl_len (E := E) (i := at_ + 1) (new := exsDs (layP pl ((partsOf s).take jj) (at_ + 1) (backOf s at_ goal))) (by rw [hLP]; omega)
        refine ⟨a, p, _, _, pl, ms, x, y, ex, _, rfl, by rw [up_ne hab, up_ne hne]; exact ha, by rw [up_ne heb]; exact up_same, ok, parts_ok s p sok (List.mem_of_getElem? htp), by omega, by omega, by rw [hspl]; omega, by rw [hspl]; exact hE2, ?_⟩
        walk_at "g"
        refine w_meth0 (by assumption) Fz hj ?_
        walk_at "g"
        refine ⟨_, _, rfl, rfl, p, rfl, by omega, by omega, ?_⟩
        walk_at "g"
        have etk : (partsOf s).take (jj + 1) = (partsOf s).take jj ++ [p] := by rw [List.take_succ, htp]; rfl
        have eI : ((at_ + 1 + szp ((partsOf s).take jj) : Nat) : Int) + (szs p : Nat) = ((at_ + 1 + szp ((partsOf s).take (jj + 1)) : Nat) : Int) := by
          rw [etk]; simp [szp]; omega
        rw [eI]
        refine ⟨_, rfl, ?_⟩
        rw [up_comm heb, up_comm heb, up_up, etk, begs_app, layP_app, List.map_append]
        unfold exsDs
        rw [List.map_append]
        have hs2 := spl_spl (E := E) (i := at_ + 1) (a := exsDs (layP pl ((partsOf s).take jj) (at_ + 1) (backOf s at_ goal))) (b := exsDs (layR pl p (at_ + 1 + szp ((partsOf s).take jj)) (backOf s at_ goal))) (by rw [hLP]; unfold exsDs; rw [List.length_map, layR_len]; omega)
        rw [hLP] at hs2
        unfold exsDs at hs2
        rw [hs2]
        rfl
    · rintro ρ' m' ⟨a7, rfl, rfl⟩
      rw [List.length_map, List.take_length]
      have hbn : up μ ex (.lst (spl E (at_ + 1) (exsDs (layP pl (partsOf s) (at_ + 1) (backOf s at_ goal))))) bp = none := by rw [up_ne (Ne.symm heb)]; exact hbp
      refine wb_frz 4 rfl up_same rfl ?_
      rw [dl_up hbn]
      walk_at "g"
      refine ws_setIx ?_
      refine w_methP (by assumption) Fs hj ?_
      walk_at "g"
      refine ⟨a, _, _, rfl, by rw [up_ne hne]; exact ha, rfl, ?_⟩
      walk_at "g"
      refine ⟨a, s, _, goal, pl, ms, x, y, .ptr ex, rfl, by rw [up_ne hne]; exact ha, ok, sok, by rw [begs_len], ?_⟩
      refine w_fldP (by assumption) (Fx.cls (by assumption) 139 rfl) (Fx.na (by assumption) 144 rfl) (ns := ["plan", "text", "places", "exits"]) (i := 3) rfl ?_
      walk_at "g"
      refine ⟨a, _, .ptr ex, rfl, by rw [up_ne hne]; exact ha, rfl, ?_⟩
      walk_at "g"
      have hzp := szp_parts s
      have hLP : (exsDs (layP pl (partsOf s) (at_ + 1) (backOf s at_ goal))).length = szp (partsOf s) := by unfold exsDs; rw [List.length_map, layP_len]
      have hspl := spl_len (E := E) (i := at_ + 1) (new := exsDs (layP pl (partsOf s) (at_ + 1) (backOf s at_ goal))) (by rw [hLP]; omega)
      refine ⟨ex, _, _, at_, rfl, rfl, up_same, by rw [hspl]; exact ix3 (by omega) (by omega), ?_⟩
      rw [up_up, spl_set (by omega)]
      unfold exsDs at q ⊢
      rw [layS_eq] at q
      exact q
theorem ok_Machine_lay {g : Gb} {k : Nat} (Z : Fx g) (n : Nat) {j : Nat} (hj : j ≤ k) (Fp : ∀ s, MeG g j (cl g (nameOf s)) "parts" (spPartsN g (nameOf s))) (Fb : MeG g j (cl g "Machine") "begin_of" (spBeginOf g)) (Fr : MeG g j (cl g "Machine") "lay_row" (spLayRow g (n - 1))) (Fz : MeG g j (cl g "Program") "size" (spSizeP g 20)) (Fs : MeG g j (cl g "Machine") "steps_of" (spSteps g)) : MeG g (k + 1) (cl g "Machine") "lay" (spLay g n) :=
  Z.me 24 148 139 rfl rfl rfl rfl rfl rfl (fun _ _ _ _ _ _ us hl => match us, hl with | [_, _, _, _], _ => rfl) (wk_Machine_lay Z n hj Fp Fb Fr Fz Fs)
end
set_option maxHeartbeats 4000000
section
open PySem PySem.Spec L2
theorem layR_app (pl : Plan) : ∀ (p q : List St) (f b : Nat), layR pl (p ++ q) f b = layR pl p f (bg q (f + szs p) b) ++ layR pl q (f + szs p) b
  | [], q, f, b => by simp [layR, szs]
  | s :: p, q, f, b => by
    rw [List.cons_append]
    simp only [layR, szs, layR_app pl p q, List.append_assoc]
    rw [show f + sz s + szs p = f + (sz s + szs p) by omega]
    congr 1
    cases p with
    | nil => simp only [List.nil_append, bg, szs]; cases q <;> rfl
    | cons x p => rfl
theorem numD_at {ds : List D} {n i : Nat} {d : D} (h : (numD n ds)[i]? = some d) : ∃ d0, ds[i]? = some d0 ∧ d = .tup [.int ((n + i : Nat) : Int), d0] := by
  have hl := (List.getElem?_eq_some_iff.mp h).1
  rw [numD_len] at hl
  have e := numD_get (n := n) (List.getElem?_eq_getElem hl)
  rw [h] at e
  exact ⟨_, List.getElem?_eq_getElem hl, Option.some.inj e⟩
theorem lenD_tup {μ : Mu} {ds : List D} : lenD μ (.tup ds) = some ds.length := rfl
abbrev N_Machine_lay_row : List Str := ["self", "program", "first", "behind", "at", "k", "statement", "after", "goal"]
abbrev V_Machine_lay_row : List Nat := [0, 1, 2, 3, 4, 5, 6, 7, 8]
abbrev G_Machine_lay_row : List Str := ["enumerate", "len"]
theorem wk_Machine_lay_row {g : Gb} {k : Nat} (Z : Fx g) (n : Nat) {j : Nat} (hj : j ≤ k) (Fz : ∀ s, MeG g j (cl g (nameOf s)) "size" (spSizeN g 20 (nameOf s))) (Fy : MeG g j (cl g "Machine") "lay" (spLay g n)) : Wlk g k d_Machine_lay_row N_Machine_lay_row ["self", "program", "first", "behind"] V_Machine_lay_row V_Machine_lay_row G_Machine_lay_row (spLayRow g n) := by
  refine ⟨⟨rfl, rfl, rfl, by decide +kernel, rfl, by decide +kernel, by decide +kernel⟩, by decide +kernel, ?_, fun X S ds μ P h => ?_⟩
  · walk_at "sp_len"
  have nn0 : N_Machine_lay_row[0]? = some ("self" : Str) := rfl
  have nn1 : N_Machine_lay_row[1]? = some ("program" : Str) := rfl
  have nn2 : N_Machine_lay_row[2]? = some ("first" : Str) := rfl
  have nn3 : N_Machine_lay_row[3]? = some ("behind" : Str) := rfl
  have nn4 : N_Machine_lay_row[4]? = some ("at" : Str) := rfl
  have nn5 : N_Machine_lay_row[5]? = some ("k" : Str) := rfl
  have nn6 : N_Machine_lay_row[6]? = some ("statement" : Str) := rfl
  have nn7 : N_Machine_lay_row[7]? = some ("after" : Str) := rfl
  have nn8 : N_Machine_lay_row[8]? = some ("goal" : Str) := rfl
  have gg0 : G_Machine_lay_row[0]? = some ("enumerate" : Str) := rfl
  have gg1 : G_Machine_lay_row[1]? = some ("len" : Str) := rfl
  refine wb_cons ?_
  obtain ⟨a, r, at_, goal, pl, ms, x, y, ex, E, rfl, ha, hex, ok, rok, hs, hn, hE, hE2, q⟩ := h
  have hne : a ≠ ex := fun e => by subst e; rw [ha] at hex; cases hex
  have hrl : (prSs g r).length = r.length := by rw [prSs_map, List.length_map]
  have hlen := len_szs r
  walk_at "g"
  refine ws_for (by assumption) ?_
  refine wi_enumT (by assumption) (by with_reducible assumption) (Fx.free (by assumption) 66 rfl) ?_
  refine w_fld (by assumption) (Fx.cls (by assumption) 134 rfl) (Fx.na (by assumption) 136 rfl) (ns := ["row"]) (i := 0) rfl ?_
  walk_at "g"
  refine ⟨fun i ρ' m' => ∃ a5 a6 a7 a8, ρ' = [some (.ptr a), some (prog g r), some (.int (at_ : Nat)), some (.int (goal : Nat)), some (.int ((at_ + szs (r.take i) : Nat) : Int)), a5, a6, a7, a8] ∧ m' = up μ ex (.lst (spl E at_ (exsDs (layR pl (r.take i) at_ (bg (r.drop i) (at_ + szs (r.take i)) goal))))), ⟨_, _, _, _, rfl, ?_⟩, ?_, ?_⟩
  · rw [List.take_zero]
    show _ = up μ ex (.lst (spl E at_ []))
    rw [spl_nil, up_id hex]
  · rintro i d ρ' m' hd ⟨a5, a6, a7, a8, rfl, rfl⟩
    obtain ⟨d0, hd0, ed⟩ := numD_at hd
    subst ed
    rw [prSs_map, List.getElem?_map] at hd0
    cases ht : r[i]? with
    | none => rw [ht] at hd0; cases hd0
    | some s =>
      rw [ht] at hd0
      cases hd0
      have hi : i < r.length := (List.getElem?_eq_some_iff.mp ht).1
      have hst := szs_take_succ ht
      have etk : r.take (i + 1) = r.take i ++ [s] := by rw [List.take_succ, ht]; rfl
      have edr : r.drop i = s :: r.drop (i + 1) := by
        rw [List.drop_eq_getElem_cons hi, (List.getElem?_eq_some_iff.mp ht).2]
      walk_at "g"
      refine w_meth0 (by assumption) (Fz s) hj ?_
      walk_at "g"
      obtain ⟨ds, edo⟩ := prS_obj g s
      refine ⟨_, ds, edo, ix_size s, s, rfl, rfl, by omega, by omega, ?_⟩
      walk_at "g"
      have eA : ((at_ + szs (r.take i) : Nat) : Int) + (sz s : Nat) = ((at_ + szs (r.take (i + 1)) : Nat) : Int) := by
        rw [etk, szs_app]; simp only [szs]; omega
      rw [eA]
      walk_at "g"
      refine ws_join (fun ρ' m' => ρ' = [some (.ptr a), some (prog g r), some (.int (at_ : Nat)), some (.int (goal : Nat)), some (.int ((at_ + szs (r.take i) : Nat) : Int)), some (.int ((0 + i : Nat) : Int)), some (prS g s), some (.int ((at_ + szs (r.take (i + 1)) : Nat) : Int)), some (.int (bg (r.drop (i + 1)) (at_ + szs (r.take (i + 1))) goal : Nat))] ∧ m' = up μ ex (.lst (spl E at_ (exsDs (layR pl (r.take i) at_ (bg (r.drop i) (at_ + szs (r.take i)) goal)))))) ?_ ?_
      · walk_at "i"
        refine w_fld (by assumption) (Fx.cls (by assumption) 134 rfl) (Fx.na (by assumption) 136 rfl) (ns := ["row"]) (i := 0) rfl ?_
        walk_at "g"
        split
        · rename_i h0
          have h0 := of_decide_eq_true h0
          have : r.drop (i + 1) = [] := List.drop_eq_nil_of_le (by rw [hrl] at h0; omega)
          rw [this]
          walk_at "g"
          exact ⟨rfl, rfl⟩
        · rename_i h0
          have h0 : ¬ (((0 + i : Nat) : Int) + 1 = ((prSs g r).length : Nat)) := of_decide_eq_false (by simpa using h0)
          rw [hrl] at h0
          have hlt : i + 1 < r.length := by omega
          rw [List.drop_eq_getElem_cons hlt]
          walk_at "g"
          exact ⟨rfl, rfl⟩
      · rintro ρ' m' ⟨rfl, rfl⟩
        walk_at "g"
        refine ws_expr ?_
        refine w_methP (by assumption) Fy hj ?_
        walk_at "g"
        refine ⟨a, _, _, rfl, by rw [up_ne hne]; exact ha, rfl, ?_⟩
        walk_at "g"
        have hLP : (exsDs (layR pl (r.take i) at_ (bg (r.drop i) (at_ + szs (r.take i)) goal))).length = szs (r.take i) := by unfold exsDs; rw [List.length_map, layR_len]
        have hspl := spl_len (E := E) (i := at_) (new := exsDs (layR pl (r.take i) at_ (bg (r.drop i) (at_ + szs (r.take i)) goal))) (by rw [hLP]; omega)
        refine ⟨a, s, _, _, pl, ms, x, y, ex, _, rfl, by rw [up_ne hne]; exact ha, up_same, ok, row_mem rok (List.mem_of_getElem? ht), by omega, hn, by rw [hspl]; omega, by rw [hspl]; exact hE2, ?_⟩
        walk_at "g"
        refine ⟨_, _, _, _, rfl, ?_⟩
        rw [up_up]
        have hs2 := spl_spl (E := E) (i := at_) (a := exsDs (layR pl (r.take i) at_ (bg (r.drop i) (at_ + szs (r.take i)) goal))) (b := exsDs (layS pl s (at_ + szs (r.take i)) (bg (r.drop (i + 1)) (at_ + szs (r.take (i + 1))) goal))) (by rw [hLP]; unfold exsDs; rw [List.length_map, layS_len]; omega)
        rw [hLP] at hs2
        rw [hs2]
        have hfin : layR pl (r.take (i + 1)) at_ (bg (r.drop (i + 1)) (at_ + szs (r.take (i + 1))) goal) = layR pl (r.take i) at_ (bg (r.drop i) (at_ + szs (r.take i)) goal) ++ layS pl s (at_ + szs (r.take i)) (bg (r.drop (i + 1)) (at_ + szs (r.take (i + 1))) goal) := by
          rw [etk, layR_app, edr]
          congr 1
          simp only [layR, bg, List.append_nil]
        rw [hfin]
        unfold exsDs
        rw [List.map_append]
  · rintro ρ' m' ⟨a5, a6, a7, a8, rfl, rfl⟩
    rw [numD_len, hrl, List.take_length, List.drop_length]
    exact q
theorem ok_Machine_lay_row {g : Gb} {k : Nat} (Z : Fx g) (n : Nat) {j : Nat} (hj : j ≤ k) (Fz : ∀ s, MeG g j (cl g (nameOf s)) "size" (spSizeN g 20 (nameOf s))) (Fy : MeG g j (cl g "Machine") "lay" (spLay g n)) : MeG g (k + 1) (cl g "Machine") "lay_row" (spLayRow g n) :=
  Z.me 22 146 139 rfl rfl rfl rfl rfl rfl (fun _ _ _ _ _ _ us hl => match us, hl with | [_, _, _, _], _ => rfl) (wk_Machine_lay_row Z n hj Fz Fy)
theorem z_Machine_lay {g : Gb} {k : Nat} (Z : Fx g) : MeG g (k + 1) (cl g "Machine") "lay" (fun _ _ _ => False) :=
  Z.me 24 148 139 rfl rfl rfl rfl rfl rfl (fun _ _ _ _ _ _ us hl => match us, hl with | [_, _, _, _], _ => rfl) (ps := ["self", "statement", "at", "goal"]) (N := N_Machine_lay) (vis := V_Machine_lay) (loc := V_Machine_lay) (gl := G_Machine_lay) ⟨⟨rfl, rfl, rfl, by decide +kernel, rfl, by decide +kernel, by decide +kernel⟩, by decide +kernel, fun _ _ _ h => h.elim, fun _ _ _ _ _ h => h.elim⟩
theorem z_Machine_number_row {g : Gb} {k : Nat} (Z : Fx g) : MeG g (k + 1) (cl g "Machine") "number_row" (fun _ _ _ => False) :=
  Z.me 21 145 139 rfl rfl rfl rfl rfl rfl (fun _ _ _ _ _ _ us hl => match us, hl with | [_, _], _ => rfl) (ps := ["self", "program"]) (N := N_Machine_number_row) (vis := V_Machine_number_row) (loc := V_Machine_number_row) (gl := G_Machine_number_row) ⟨⟨rfl, rfl, rfl, by decide +kernel, rfl, by decide +kernel, by decide +kernel⟩, by decide +kernel, fun _ _ _ h => h.elim, fun _ _ _ _ _ h => h.elim⟩
end
set_option maxHeartbeats 4000000
section
open PySem PySem.Spec L2
mutual
theorem preS_ok {pl : Plan} {ms : List Str} : ∀ (s : St), stOk pl ms s → ∀ t, t ∈ preS s → stOk pl ms t
  | .write _ _, h, t, ht => by simp only [preS, List.mem_singleton] at ht; subst ht; exact h
  | .wait _ _, h, t, ht => by simp only [preS, List.mem_singleton] at ht; subst ht; exact h
  | .mark _, h, t, ht => by simp only [preS, List.mem_singleton] at ht; subst ht; exact h
  | .skip, h, t, ht => by simp only [preS, List.mem_singleton] at ht; subst ht; exact h
  | .stop, h, t, ht => by simp only [preS, List.mem_singleton] at ht; subst ht; exact h
  | .ife c v y n, h, t, ht => by
    simp only [preS, List.mem_cons, List.mem_append] at ht
    rcases ht with e | e | e
    · subst e; exact h
    · exact preR_ok y h.2.1 t e
    · exact preR_ok n h.2.2 t e
  | .whl c v b, h, t, ht => by
    simp only [preS, List.mem_cons] at ht
    rcases ht with e | e
    · subst e; exact h
    · exact preR_ok b h.2 t e
  | .loop b, h, t, ht => by
    simp only [preS, List.mem_cons] at ht
    rcases ht with e | e
    · subst e; exact h
    · exact preR_ok b h t e
  | .choose y n, h, t, ht => by
    simp only [preS, List.mem_cons, List.mem_append] at ht
    rcases ht with e | e | e
    · subst e; exact h
    · exact preR_ok y h.1 t e
    · exact preR_ok n h.2 t e
theorem preR_ok {pl : Plan} {ms : List Str} : ∀ (r : List St), rowOk pl ms r → ∀ t, t ∈ preR r → stOk pl ms t
  | [], _, t, ht => by cases ht
  | s :: r, h, t, ht => by
    simp only [preR, List.mem_append] at ht
    rcases ht with e | e
    · exact preS_ok s h.1 t e
    · exact preR_ok r h.2 t e
end
def roomsM (pl : Plan) (r : List St) : List Exits := layR pl r 0 (szs r) ++ [[]]
def machFs (g : Gb) (pl : Plan) (r : List St) : List D := [boardD g pl, prog g r, .lst ((preR r).map (prS g)), .lst (exsDs (roomsM pl r))]
def machD (g : Gb) (pl : Plan) (r : List St) : D := .obj (cl g "Machine") ["plan", "text", "places", "exits"] (machFs g pl r)
def spMachI (g : Gb) : ASp := fun ds μ P => ∃ a pl ms r, ds = [.ptr a, boardD g pl, prog g r] ∧ μ a = some (.ins (cl g "Machine") [] []) ∧ PlanOk pl ∧ rowOk pl ms r ∧ szs r ≤ 5 ∧ P .non (up μ a (.ins (cl g "Machine") ["plan", "text", "places", "exits"] (machFs g pl r)))
theorem four_cv {pl : Plan} {ms : List Str} {s : St} (h : ((["Write", "Wait", "If", "While"] : List Str).any fun n => decide (n = nameOf s)) = true) (ok : stOk pl ms s) : ∃ c v, cvOf s = some (c, v) ∧ CV pl c v := by
  simp only [List.any_cons, List.any_nil, Bool.or_false, Bool.or_eq_true] at h
  rcases h with e | e | e | e
  · obtain ⟨c, v, rfl⟩ := is_Write e; exact ⟨c, v, rfl, ok⟩
  · obtain ⟨c, v, rfl⟩ := is_Wait e; exact ⟨c, v, rfl, ok⟩
  · obtain ⟨c, v, y, n, rfl⟩ := is_If e; exact ⟨c, v, rfl, ok.1⟩
  · obtain ⟨c, v, b, rfl⟩ := is_While e; exact ⟨c, v, rfl, ok.1⟩
abbrev N_Machine_init : List Str := ["self", "board", "program", "statement"]
abbrev V_Machine_init : List Nat := [0, 1, 2, 3]
abbrev G_Machine_init : List Str := ["isinstance", "Write", "Wait", "If", "While", "len"]
abbrev V_Machine_init_0 : List Nat := [3]
abbrev L_Machine_init_0 : List Nat := [3]
abbrev G_Machine_init_0 : List Str := []
abbrev O_Machine_init_0 : List (Str × Nat) := [("statement", 3)]
theorem wk_Machine_init {g : Gb} {k : Nat} (Z : Fx g) {j : Nat} (hj : j ≤ k) (Fn : MeG g j (cl g "Machine") "number_row" (spNum g 6)) (Fl : MeG g j (cl g "Machine") "lay_row" (spLayRow g 5)) (Fa : MeG g j (cl g "Board") "asked" (spAsked g)) : Wlk g k d_Machine_init N_Machine_init ["self", "board", "program"] V_Machine_init V_Machine_init G_Machine_init (spMachI g) := by
  refine ⟨⟨rfl, rfl, rfl, by decide +kernel, rfl, by decide +kernel, by decide +kernel⟩, by decide +kernel, ?_, fun X S ds μ P h => ?_⟩
  · walk_at "sp_len"
  have nn0 : N_Machine_init[0]? = some ("self" : Str) := rfl
  have nn1 : N_Machine_init[1]? = some ("board" : Str) := rfl
  have nn2 : N_Machine_init[2]? = some ("program" : Str) := rfl
  have nn3 : N_Machine_init[3]? = some ("statement" : Str) := rfl
  have gg0 : G_Machine_init[0]? = some ("isinstance" : Str) := rfl
  have gg1 : G_Machine_init[1]? = some ("Write" : Str) := rfl
  have gg2 : G_Machine_init[2]? = some ("Wait" : Str) := rfl
  have gg3 : G_Machine_init[3]? = some ("If" : Str) := rfl
  have gg4 : G_Machine_init[4]? = some ("While" : Str) := rfl
  have gg5 : G_Machine_init[5]? = some ("len" : Str) := rfl
  have gm1 : g.mg "Write" = some (.ref (cl g "Write")) := Z.glo 6
  have gm2 : g.mg "Wait" = some (.ref (cl g "Wait")) := Z.glo 7
  have gm3 : g.mg "If" = some (.ref (cl g "If")) := Z.glo 11
  have gm4 : g.mg "While" = some (.ref (cl g "While")) := Z.glo 12
  refine wb_cons ?_
  obtain ⟨a, pl, ms, r, rfl, ha, ok, rok, hs, q⟩ := h
  refine ws_fld (by assumption) (Fx.cls (by assumption) 139 rfl) (Fx.na (by assumption) 141 rfl) (ns := []) (ds := []) rfl (by decide) ?_
  walk_at "g"
  refine ⟨a, _, rfl, ha, ?_⟩
  walk_at "g"
  refine ws_fld (by assumption) (Fx.cls (by assumption) 139 rfl) (Fx.na (by assumption) 142 rfl) (ns := ["plan"]) (ds := []) rfl (by decide) ?_
  walk_at "g"
  refine ⟨a, _, rfl, up_same, ?_⟩
  rw [up_up]
  walk_at "g"
  refine ws_fld (by assumption) (Fx.cls (by assumption) 139 rfl) (Fx.na (by assumption) 143 rfl) (ns := ["plan", "text"]) (ds := []) rfl (by decide) ?_
  refine w_newL (wa_nil ⟨by decide, fun pp hpp => ?_⟩)
  walk_at "g"
  have hap : a ≠ pp := mu_ne up_same hpp
  refine ⟨a, _, rfl, by rw [up_ne hap]; exact up_same, ?_⟩
  rw [up_comm (Ne.symm hap), up_up]
  walk_at "g"
  refine ws_expr ?_
  refine w_methP (by assumption) Fn hj ?_
  walk_at "g"
  refine ⟨a, _, _, rfl, by rw [up_ne hap]; exact up_same, rfl, ?_⟩
  walk_at "g"
  refine ⟨r, a, _, _, pp, [], rfl, by omega, by decide, by show 0 + _ ≤ _; omega, by rw [up_ne hap]; exact up_same, up_same, ?_⟩
  rw [up_up, List.nil_append]
  refine wb_frzF (p := a) (l := pp) (c := .lst _) (d := .lst _) 2 (by rw [up_ne hap]; exact up_same) rfl up_same rfl hap ?_
  have hpn : ∀ c, up μ a c pp = none := fun c => by rw [up_ne (Ne.symm hap)] at hpp ⊢; exact hpp
  rw [dl_up (hpn _), up_up]
  have hpl := preR_len r
  refine wb_cons (ws_for (by assumption) ?_)
  refine wi_lst (by assumption) ?_
  refine w_fldP (by assumption) (Fx.cls (by assumption) 139 rfl) (Fx.na (by assumption) 143 rfl) (ns := ["plan", "text", "places"]) (i := 2) rfl ?_
  walk_at "g"
  refine ⟨a, _, _, rfl, up_same, rfl, _, rfl, ?_⟩
  refine ⟨fun i ρ' m' => ∃ a3, ρ' = [some (.ptr a), some (boardD g pl), some (prog g r), a3] ∧ m' = up μ a (.ins (cl g "Machine") ["plan", "text", "places"] [boardD g pl, prog g r, .lst ((preR r).map (prS g))]), ⟨_, rfl, rfl⟩, ?_, ?_⟩
  · rintro i d ρ' m' hd ⟨a3, rfl, rfl⟩
    rw [List.nil_append, List.getElem?_map] at hd
    cases ht : (preR r)[i]? with
    | none => rw [ht] at hd; cases hd
    | some s =>
      rw [ht] at hd
      cases hd
      have sok := preR_ok r rok s (List.mem_of_getElem? ht)
      walk_at "g"
      walk_at "i"
      refine ⟨["Write", "Wait", "If", "While"], rfl, by simp [tested], by show 4 ≤ 100; decide, ?_⟩
      walk_at "g"
      split
      · rename_i h0
        obtain ⟨c, v, hcv, vs, h1, h2⟩ := four_cv h0 sok
        obtain ⟨ds, es, O⟩ := onC_of Z hcv
        walk_at "g"
        refine ws_expr ?_
        refine w_meth (by assumption) Fa hj ?_
        walk_at "g"
        refine ⟨_, _, rfl, rfl, ?_⟩
        walk_at "g"
        refine w_fld (by assumption) O.cl O.n1 O.i1 ?_
        walk_at "g"
        refine ⟨_, _, es, O.d1, ?_⟩
        walk_at "g"
        refine w_fld (by assumption) O.cl O.n2 O.i2 ?_
        walk_at "g"
        refine ⟨_, _, es, O.d2, ?_⟩
        walk_at "g"
        exact ⟨pl, c, vs, v, rfl, ok, h1, h2, _, rfl, rfl⟩
      · exact wb_nil ⟨_, rfl, rfl⟩
  · rintro ρ' m' ⟨a3, rfl, rfl⟩
    walk_at "g"
    refine ws_fld (by assumption) (Fx.cls (by assumption) 139 rfl) (Fx.na (by assumption) 144 rfl) (ns := ["plan", "text", "places"]) (ds := []) rfl (by decide) ?_
    refine w_lcMm (vis' := V_Machine_init_0) (loc' := L_Machine_init_0) (gl' := G_Machine_init_0) (by assumption) O_Machine_init_0 (by decide +kernel) (by decide +kernel) ?_
    refine wi_lst (by assumption) ?_
    refine w_fldP (by assumption) (Fx.cls (by assumption) 139 rfl) (Fx.na (by assumption) 143 rfl) (ns := ["plan", "text", "places"]) (i := 2) rfl ?_
    walk_at "g"
    refine ⟨a, _, _, rfl, up_same, rfl, _, rfl, ?_⟩
    refine ⟨St, preR r, prS g, fun _ => .lst [], rfl, by omega, fun p hp p2 acc hp2 => ⟨?_, fun X' S' => ?_, fun X' S' => ?_⟩, ?_⟩
    rotate_left
    · walk_at "g"
    · walk_at "g"
    rintro acc hacc ex hex
    cases hacc
    have hae : a ≠ ex := mu_ne up_same hex
    walk_at "g"
    refine ⟨a, _, rfl, by rw [up_ne hae]; exact up_same, ?_⟩
    rw [up_comm (Ne.symm hae), up_up]
    walk_at "g"
    refine ws_append (by assumption) rfl ?_
    refine w_fldP (by assumption) (Fx.cls (by assumption) 139 rfl) (Fx.na (by assumption) 144 rfl) (ns := ["plan", "text", "places", "exits"]) (i := 3) rfl ?_
    walk_at "g"
    refine ⟨a, _, .ptr ex, rfl, by rw [up_ne hae]; exact up_same, rfl, ?_⟩
    refine ⟨ex, rfl, ⟨_, up_same⟩, ?_⟩
    walk_at "g"
    refine ⟨_, up_same, by rw [List.length_map]; omega, ?_⟩
    rw [up_up]
    refine wb_cons (ws_expr ?_)
    refine w_methP (by assumption) Fl hj ?_
    walk_at "g"
    refine ⟨a, _, _, rfl, by rw [up_ne hae]; exact up_same, rfl, ?_⟩
    walk_at "g"
    refine w_fldP (by assumption) (Fx.cls (by assumption) 139 rfl) (Fx.na (by assumption) 143 rfl) (ns := ["plan", "text", "places", "exits"]) (i := 2) rfl ?_
    walk_at "g"
    refine ⟨a, _, _, rfl, by rw [up_ne hae]; exact up_same, rfl, _, rfl, ?_⟩
    walk_at "g"
    rw [List.length_map]
    refine ⟨a, r, 0, (preR r).length, pl, ms, _, _, ex, _, rfl, by rw [up_ne hae]; exact up_same, up_same, ok, rok, hs, by decide, ?_, ?_, ?_⟩
    · rw [List.length_append, List.length_map, hpl]; show 0 + _ ≤ _ + 1; omega
    · rw [List.length_append, List.length_map, hpl]; show _ + 1 ≤ _; omega
    rw [up_up]
    have hexn : ∀ c, up μ a c ex = none := fun c => by rw [up_ne (Ne.symm hae)] at hex ⊢; exact hex
    refine wb_frzF (p := a) (l := ex) (c := .lst _) (d := .lst _) 3 (by rw [up_ne hae]; exact up_same) rfl up_same rfl hae ?_
    rw [dl_up (hexn _), up_up]
    refine wb_nil ?_
    have hE : spl ((preR r).map (fun _ => D.lst []) ++ [D.lst []]) 0 (exsDs (layR pl r 0 (preR r).length)) = exsDs (roomsM pl r) := by
      unfold spl roomsM exsDs
      rw [hpl, List.map_append, List.take_zero, List.nil_append, List.length_map, layR_len, Nat.zero_add, List.drop_left' (by rw [List.length_map, hpl])]
      rfl
    rw [hE]
    exact q
theorem ok_Machine_mk {g : Gb} {k : Nat} (Z : Fx g) {j : Nat} (hj : j ≤ k) (Fn : MeG g j (cl g "Machine") "number_row" (spNum g 6)) (Fl : MeG g j (cl g "Machine") "lay_row" (spLayRow g 5)) (Fa : MeG g j (cl g "Board") "asked" (spAsked g)) : MkG g (k + 1) "Machine" (cl g "Machine") (spMachI g) :=
  Z.mkG 20 140 17 rfl rfl rfl rfl rfl rfl (fun _ _ _ _ _ _ us hl => match us, hl with | [_, _, _], _ => rfl) (wk_Machine_init Z hj Fn Fl Fa)
end
set_option maxHeartbeats 4000000
section
open PySem PySem.Spec L2
theorem roomsM_len (pl : Plan) (r : List St) : (roomsM pl r).length = szs r + 1 := by unfold roomsM; rw [List.length_append, layR_len]; rfl
def spMAsked (g : Gb) : ASp := fun ds μ P => ∃ pl r i, ds = [machD g pl r, .int (i : Nat)] ∧ i < szs r + 1 ∧ P .non μ
abbrev N_Machine_asked : List Str := ["self", "room"]
abbrev V_Machine_asked : List Nat := [0, 1]
abbrev G_Machine_asked : List Str := ["len", "NoRoom"]
theorem wk_Machine_asked {g : Gb} {k : Nat} (Z : Fx g)  : Wlk g k d_Machine_asked N_Machine_asked ["self", "room"] V_Machine_asked V_Machine_asked G_Machine_asked (spMAsked g) := by
  refine ⟨⟨rfl, rfl, rfl, by decide +kernel, rfl, by decide +kernel, by decide +kernel⟩, by decide +kernel, ?_, fun X S ds μ P h => ?_⟩
  · walk_at "sp_len"
  have nn0 : N_Machine_asked[0]? = some ("self" : Str) := rfl
  have nn1 : N_Machine_asked[1]? = some ("room" : Str) := rfl
  have gg0 : G_Machine_asked[0]? = some ("len" : Str) := rfl
  have gg1 : G_Machine_asked[1]? = some ("NoRoom" : Str) := rfl
  refine wb_cons ?_
  obtain ⟨pl, r, i, rfl, hi, q⟩ := h
  refine ws_ifc (fun t m => t = false ∧ m = μ) ?_ (fun _ h => by cases h.1) ?_
  · walk_at "g"
    have e1 : decide ((0 : Int) ≤ ((i : Nat) : Int)) = true := decide_eq_true (by omega)
    rw [if_pos e1]
    walk_at "g"
    refine w_fld (by assumption) (Fx.cls (by assumption) 139 rfl) (Fx.na (by assumption) 144 rfl) (ns := ["plan", "text", "places", "exits"]) (i := 3) rfl ?_
    walk_at "g"
    have e2 : decide (((i : Nat) : Int) < ((exsDs (roomsM pl r)).length : Nat)) = true := decide_eq_true (by unfold exsDs; rw [List.length_map, roomsM_len]; omega)
    show (!decide (((i : Nat) : Int) < ((exsDs (roomsM pl r)).length : Nat))) = false ∧ _
    rw [e2]
    exact ⟨rfl, rfl⟩
  · rintro m ⟨_, rfl⟩
    walk_at "g"
    exact q
theorem ok_Machine_asked {g : Gb} {k : Nat} (Z : Fx g)  : MeG g (k + 1) (cl g "Machine") "asked" (spMAsked g) :=
  Z.me 26 150 139 rfl rfl rfl rfl rfl rfl (fun _ _ _ _ _ _ us hl => match us, hl with | [_, _], _ => rfl) (wk_Machine_asked Z)
def spSteps1 (g : Gb) : ASp := fun ds μ P => ∃ pl r i es, ds = [machD g pl r, .int (i : Nat)] ∧ (roomsM pl r)[i]? = some es ∧ P (exsD es) μ
abbrev N_Machine_steps : List Str := ["self", "room"]
abbrev V_Machine_steps : List Nat := [0, 1]
abbrev G_Machine_steps : List Str := ["list"]
theorem wk_Machine_steps {g : Gb} {k : Nat} (Z : Fx g) {j : Nat} (hj : j ≤ k) (Fa : MeG g j (cl g "Machine") "asked" (spMAsked g)) : Wlk g k d_Machine_steps N_Machine_steps ["self", "room"] V_Machine_steps V_Machine_steps G_Machine_steps (spSteps1 g) := by
  refine ⟨⟨rfl, rfl, rfl, by decide +kernel, rfl, by decide +kernel, by decide +kernel⟩, by decide +kernel, ?_, fun X S ds μ P h => ?_⟩
  · walk_at "sp_len"
  have nn0 : N_Machine_steps[0]? = some ("self" : Str) := rfl
  have nn1 : N_Machine_steps[1]? = some ("room" : Str) := rfl
  have gg0 : G_Machine_steps[0]? = some ("list" : Str) := rfl
  refine wb_cons ?_
  obtain ⟨pl, r, i, es, rfl, hi, q⟩ := h
  have hlt := (List.getElem?_eq_some_iff.mp hi).1
  rw [roomsM_len] at hlt
  refine ws_expr ?_
  refine w_meth (by assumption) Fa hj ?_
  walk_at "g"
  refine ⟨_, _, rfl, rfl, ?_⟩
  walk_at "g"
  refine ⟨pl, r, i, rfl, hlt, ?_⟩
  walk_at "g"
  refine w_fld (by assumption) (Fx.cls (by assumption) 139 rfl) (Fx.na (by assumption) 144 rfl) (ns := ["plan", "text", "places", "exits"]) (i := 3) rfl ?_
  walk_at "g"
  refine ⟨_, .l (d := exsD es) ?_, _, .inl rfl, q⟩
  unfold atI
  have hl : (exsDs (roomsM pl r)).length = szs r + 1 := by unfold exsDs; rw [List.length_map, roomsM_len]
  rw [ix3 (by omega) (by rw [hl]; omega)]
  show (exsDs (roomsM pl r))[i]? = _
  unfold exsDs
  rw [List.getElem?_map, hi]; rfl
theorem ok_Machine_steps {g : Gb} {k : Nat} (Z : Fx g) {j : Nat} (hj : j ≤ k) (Fa : MeG g j (cl g "Machine") "asked" (spMAsked g)) : MeG g (k + 1) (cl g "Machine") "steps" (spSteps1 g) :=
  Z.me 27 151 139 rfl rfl rfl rfl rfl rfl (fun _ _ _ _ _ _ us hl => match us, hl with | [_, _], _ => rfl) (wk_Machine_steps Z hj Fa)
def markOf : Option St → Option Str
  | some (.mark n) => some n
  | _ => none
def optS : Option Str → D
  | none => .non
  | some s => .str s
def spMarkOf (g : Gb) : ASp := fun ds μ P => ∃ pl r i, ds = [machD g pl r, .int (i : Nat)] ∧ i < szs r + 1 ∧ P (optS (markOf (preR r)[i]?)) μ
abbrev N_Machine_mark_of : List Str := ["self", "room"]
abbrev V_Machine_mark_of : List Nat := [0, 1]
abbrev G_Machine_mark_of : List Str := ["len", "isinstance", "Mark"]
theorem wk_Machine_mark_of {g : Gb} {k : Nat} (Z : Fx g) {j : Nat} (hj : j ≤ k) (Fa : MeG g j (cl g "Machine") "asked" (spMAsked g)) : Wlk g k d_Machine_mark_of N_Machine_mark_of ["self", "room"] V_Machine_mark_of V_Machine_mark_of G_Machine_mark_of (spMarkOf g) := by
  refine ⟨⟨rfl, rfl, rfl, by decide +kernel, rfl, by decide +kernel, by decide +kernel⟩, by decide +kernel, ?_, fun X S ds μ P h => ?_⟩
  · walk_at "sp_len"
  have nn0 : N_Machine_mark_of[0]? = some ("self" : Str) := rfl
  have nn1 : N_Machine_mark_of[1]? = some ("room" : Str) := rfl
  have gg0 : G_Machine_mark_of[0]? = some ("len" : Str) := rfl
  have gg1 : G_Machine_mark_of[1]? = some ("isinstance" : Str) := rfl
  have gg2 : G_Machine_mark_of[2]? = some ("Mark" : Str) := rfl
  have gm2 : g.mg "Mark" = some (.ref (cl g "Mark")) := Z.glo 8
  refine wb_cons ?_
  obtain ⟨pl, r, i, rfl, hi, q⟩ := h
  have hpl := preR_len r
  refine ws_expr ?_
  refine w_meth (by assumption) Fa hj ?_
  walk_at "g"
  refine ⟨_, _, rfl, rfl, ?_⟩
  walk_at "g"
  refine ⟨pl, r, i, rfl, hi, ?_⟩
  walk_at "g"
  have hat : ∀ s, (preR r)[i]? = some s → atI ((preR r).map (prS g)) ((i : Nat) : Int) = some (prS g s) := fun s hs => by
    unfold atI
    have := (List.getElem?_eq_some_iff.mp hs).1
    rw [ix3 (by omega) (by rw [List.length_map]; omega)]
    show ((preR r).map (prS g))[i]? = _
    rw [List.getElem?_map, hs]; rfl
  refine ws_ifc (fun t m => t = (markOf (preR r)[i]?).isSome ∧ m = μ) ?_ ?_ ?_
  · walk_at "g"
    refine w_fld (by assumption) (Fx.cls (by assumption) 139 rfl) (Fx.na (by assumption) 143 rfl) (ns := ["plan", "text", "places", "exits"]) (i := 2) rfl ?_
    walk_at "g"
    rw [List.length_map]
    split
    · rename_i h0
      have h0 := of_decide_eq_true h0
      have hlt : i < (preR r).length := by omega
      have hs : (preR r)[i]? = some (preR r)[i] := List.getElem?_eq_getElem hlt
      walk_at "g"
      refine w_fld (by assumption) (Fx.cls (by assumption) 139 rfl) (Fx.na (by assumption) 143 rfl) (ns := ["plan", "text", "places", "exits"]) (i := 2) rfl ?_
      walk_at "g"
      refine ⟨_, .l (hat _ hs), ?_⟩
      walk_at "g"
      refine ⟨?_, rfl⟩
      rw [hs]
      cases (preR r)[i] <;> first | rfl | exact decide_eq_false (by simp only [nameOf]; decide) | exact decide_eq_true rfl
    · rename_i h0
      have h0 : ¬ ((i : Nat) : Int) < ((preR r).length : Nat) := of_decide_eq_false (by simpa using h0)
      rw [List.getElem?_eq_none (by omega)]
      exact ⟨rfl, rfl⟩
  · rintro m ⟨e, rfl⟩
    cases hs : (preR r)[i]? with
    | none => rw [hs] at e; cases e
    | some s =>
      rw [hs] at e
      cases s <;> first | cases e | skip
      rename_i nn
      walk_at "g"
      refine w_fld (by assumption) (Fx.cls (by assumption) 103 rfl) (Fx.na (by assumption) 105 rfl) (ns := ["name"]) (i := 0) rfl ?_
      walk_at "g"
      refine w_fld (by assumption) (Fx.cls (by assumption) 139 rfl) (Fx.na (by assumption) 143 rfl) (ns := ["plan", "text", "places", "exits"]) (i := 2) rfl ?_
      walk_at "g"
      refine ⟨_, .l (hat _ hs), ?_⟩
      walk_at "g"
      rw [hs] at q
      exact q
  · rintro m ⟨e, rfl⟩
    walk_at "g"
    cases hm : markOf (preR r)[i]? with
    | some z => rw [hm] at e; cases e
    | none => rw [hm] at q; exact q
theorem ok_Machine_mark_of {g : Gb} {k : Nat} (Z : Fx g) {j : Nat} (hj : j ≤ k) (Fa : MeG g j (cl g "Machine") "asked" (spMAsked g)) : MeG g (k + 1) (cl g "Machine") "mark_of" (spMarkOf g) :=
  Z.me 28 152 139 rfl rfl rfl rfl rfl rfl (fun _ _ _ _ _ _ us hl => match us, hl with | [_, _], _ => rfl) (wk_Machine_mark_of Z hj Fa)
end
set_option maxHeartbeats 4000000
section
open PySem PySem.Spec L2
def isMarkIn (r : List St) (n : Str) : Prop := ∃ s, s ∈ preR r ∧ s = .mark n
def spMarks (g : Gb) : ASp := fun ds μ P => ∃ pl r, ds = [machD g pl r] ∧ szs r ≤ 20 ∧ ∀ ns : List Str, ns.Nodup → ns.length ≤ szs r → (∀ n, n ∈ ns ↔ St.mark n ∈ preR r) → P (.lst (ns.map .str)) μ
theorem putD_same {ns : List Str} {n : Str} (h : n ∈ ns) : putD (ns.map Sum.inr) (ns.map fun _ => D.bl true) (.inr n) (.bl true) = (ns.map Sum.inr, ns.map fun _ => D.bl true) := by
  unfold putD
  cases e : (ns.map (Sum.inr : Str → Key)).findIdx? (fun z => decide (z = .inr n)) with
  | none =>
    have := List.findIdx?_eq_none_iff.mp e (.inr n) (List.mem_map.mpr ⟨n, h, rfl⟩)
    simp at this
  | some i =>
    show (_, (ns.map fun _ => D.bl true).set i (.bl true)) = _
    congr 1
    refine List.ext_getElem? fun j => ?_
    by_cases hj : i = j
    · subst hj
      by_cases hl : i < (ns.map fun _ => D.bl true).length
      · rw [List.getElem?_set_self hl, List.getElem?_eq_getElem hl, List.getElem_map]
      · rw [List.getElem?_eq_none (by rw [List.length_set]; omega), List.getElem?_eq_none (by omega)]
    · rw [List.getElem?_set_ne hj]
abbrev N_Machine_marks : List Str := ["self", "found", "statement"]
abbrev V_Machine_marks : List Nat := [0, 1, 2]
abbrev G_Machine_marks : List Str := ["isinstance", "Mark", "sorted", "list"]
theorem wk_Machine_marks {g : Gb} {k : Nat} (Z : Fx g)  : Wlk g k d_Machine_marks N_Machine_marks ["self"] V_Machine_marks V_Machine_marks G_Machine_marks (spMarks g) := by
  refine ⟨⟨rfl, rfl, rfl, by decide +kernel, rfl, by decide +kernel, by decide +kernel⟩, by decide +kernel, ?_, fun X S ds μ P h => ?_⟩
  · walk_at "sp_len"
  have nn0 : N_Machine_marks[0]? = some ("self" : Str) := rfl
  have nn1 : N_Machine_marks[1]? = some ("found" : Str) := rfl
  have nn2 : N_Machine_marks[2]? = some ("statement" : Str) := rfl
  have gg0 : G_Machine_marks[0]? = some ("isinstance" : Str) := rfl
  have gg1 : G_Machine_marks[1]? = some ("Mark" : Str) := rfl
  have gg2 : G_Machine_marks[2]? = some ("sorted" : Str) := rfl
  have gg3 : G_Machine_marks[3]? = some ("list" : Str) := rfl
  have gm1 : g.mg "Mark" = some (.ref (cl g "Mark")) := Z.glo 8
  refine wb_cons ?_
  obtain ⟨pl, r, rfl, hs, q⟩ := h
  have hpl := preR_len r
  refine ws_setD (by assumption) 1 rfl rfl fun f hf => ?_
  walk_at "g"
  refine ws_for (by assumption) ?_
  refine wi_lst (by assumption) ?_
  refine w_fld (by assumption) (Fx.cls (by assumption) 139 rfl) (Fx.na (by assumption) 143 rfl) (ns := ["plan", "text", "places", "exits"]) (i := 2) rfl ?_
  walk_at "g"
  refine ⟨fun i ρ' m' => ∃ (ns : List Str) (a2 : Option D), ρ' = [some (machD g pl r), some (.ptr f), a2] ∧ m' = up μ f (.dic (ns.map .inr) (ns.map fun _ => .bl true)) ∧ ns.Nodup ∧ ns.length ≤ i ∧ ∀ n, n ∈ ns ↔ St.mark n ∈ (preR r).take i, ⟨[], _, rfl, rfl, List.nodup_nil, Nat.le_refl _, fun n => by simp⟩, ?_, ?_⟩
  · rintro i d ρ' m' hd ⟨ns, a2, rfl, rfl, nd, hl, hm⟩
    rw [List.getElem?_map] at hd
    cases ht : (preR r)[i]? with
    | none => rw [ht] at hd; cases hd
    | some s =>
      rw [ht] at hd
      cases hd
      have hi : i < (preR r).length := (List.getElem?_eq_some_iff.mp ht).1
      walk_at "g"
      walk_at "i"
      split
      · rename_i h0
        obtain ⟨nn, rfl⟩ := is_Mark h0
        walk_at "g"
        refine ws_dput (by assumption) ?_
        walk_at "g"
        refine w_fld (by assumption) (Fx.cls (by assumption) 103 rfl) (Fx.na (by assumption) 105 rfl) (ns := ["name"]) (i := 0) rfl ?_
        walk_at "g"
        refine ⟨f, _, _, .inr nn, rfl, up_same, rfl, ?_, by rw [List.length_map]; omega, ?_⟩
        · exact List.nodup_iff_pairwise_ne.mpr (List.pairwise_map.mpr ((List.nodup_iff_pairwise_ne.mp nd).imp fun h e => h (Sum.inr.inj e)))
        · rw [up_up]
          by_cases hn : nn ∈ ns
          · rw [putD_same hn]
            refine ⟨ns, _, rfl, rfl, nd, by omega, fun n => ?_⟩
            rw [List.take_succ, ht]
            simp only [Option.toList_some, List.mem_append, List.mem_singleton, hm n]
            constructor
            · exact .inl
            · rintro (h | h)
              · exact h
              · cases h; exact (hm _).mp hn
          · rw [putD_none (fun z hz e => by
              obtain ⟨y, hy, ey⟩ := List.mem_map.mp hz
              rw [← ey] at e
              exact hn (Sum.inr.inj e ▸ hy))]
            refine ⟨ns ++ [nn], _, rfl, ?_, ?_, by simp; omega, fun n => ?_⟩
            · simp only [List.map_append, List.map_cons, List.map_nil]
            · rw [List.nodup_append]
              exact ⟨nd, by simp, fun a ha b hb e => by
                have : b = nn := by simpa using hb
                subst this e; exact hn ha⟩
            · rw [List.take_succ, ht]
              simp only [Option.toList_some, List.mem_append, List.mem_singleton, hm n]
              constructor
              · rintro (h | h)
                · exact .inl h
                · subst h; exact .inr rfl
              · rintro (h | h)
                · exact .inl h
                · cases h; exact .inr rfl
      · rename_i h0
        refine wb_nil ⟨ns, _, rfl, rfl, nd, by omega, fun n => ?_⟩
        rw [List.take_succ, ht]
        simp only [Option.toList_some, List.mem_append, List.mem_singleton, hm n]
        constructor
        · exact .inl
        · rintro (h | h)
          · exact h
          · subst h; exact absurd (decide_eq_true rfl) h0
  · rintro ρ' m' ⟨ns, a2, rfl, rfl, nd, hl, hm⟩
    rw [List.length_map] at hl hm
    rw [List.take_length] at hm
    refine wb_frz (c := .dic _ _) (d := .dic _ _) 1 rfl up_same rfl ?_
    rw [dl_up hf]
    walk_at "e"
    walk_at "e"
    refine w_sortedS (by assumption) (by with_reducible assumption) (Fx.free (by assumption) 74 rfl) ?_
    refine w_listKeys (by assumption) (by with_reducible assumption) (Fx.free (by assumption) 70 rfl) ?_
    walk_at "g"
    refine ⟨_, _, rfl, ns, ?_, by omega, fun ys hp => ?_⟩
    · rw [List.map_map]; rfl
    · exact q ys (hp.nodup_iff.mpr nd) (by rw [hp.length_eq]; omega) fun n => by rw [hp.mem_iff]; exact hm n
theorem ok_Machine_marks {g : Gb} {k : Nat} (Z : Fx g)  : MeG g (k + 1) (cl g "Machine") "marks" (spMarks g) :=
  Z.me 29 153 139 rfl rfl rfl rfl rfl rfl (fun _ _ _ _ _ _ us hl => match us, hl with | [_], _ => rfl) (wk_Machine_marks Z)
end
set_option maxHeartbeats 4000000
section
open PySem PySem.Spec L2
def spMany : ASp := fun ds μ P => ∃ a b : Int, ds = [.int a, .int b] ∧ 0 ≤ a ∧ a ≤ b ∧ P .non μ
abbrev N_asked_many : List Str := ["many", "most"]
abbrev V_asked_many : List Nat := [0, 1]
abbrev G_asked_many : List Str := ["BadCount"]
theorem wk_asked_many {g : Gb} {k : Nat} (Z : Fx g)  : Wlk g k d_asked_many N_asked_many ["many", "most"] V_asked_many V_asked_many G_asked_many spMany := by
  refine ⟨⟨rfl, rfl, rfl, by decide +kernel, rfl, by decide +kernel, by decide +kernel⟩, by decide +kernel, ?_, fun X S ds μ P h => ?_⟩
  · walk_at "sp_len"
  have nn0 : N_asked_many[0]? = some ("many" : Str) := rfl
  have nn1 : N_asked_many[1]? = some ("most" : Str) := rfl
  have gg0 : G_asked_many[0]? = some ("BadCount" : Str) := rfl
  refine wb_cons ?_
  obtain ⟨a, b, rfl, h0, h1, q⟩ := h
  refine ws_ifc (fun t m => t = false ∧ m = μ) ?_ (fun _ h => by cases h.1) ?_
  · walk_at "g"
    rw [if_pos (decide_eq_true h0)]
    walk_at "g"
    show (!decide (a ≤ b)) = false ∧ _
    rw [decide_eq_true h1]
    exact ⟨rfl, rfl⟩
  · rintro m ⟨_, rfl⟩
    walk_at "g"
    exact q
theorem ok_asked_many {g : Gb} {k : Nat} (Z : Fx g)  : FnG g (k + 1) "asked_many" spMany :=
  Z.fn 30 18 rfl rfl rfl rfl (fun _ _ _ _ _ _ us hl => match us, hl with | [_, _], _ => rfl) (wk_asked_many Z)
/-! ### the game -/
def gameFs (g : Gb) (pl : Plan) (r0 r1 : List St) : List D := [boardD g pl, .tup [machD g pl r0, machD g pl r1], .tup [prog g r0, prog g r1]]
def gameD (g : Gb) (pl : Plan) (r0 r1 : List St) : D := .obj (cl g "Game") ["plan", "hands", "texts"] (gameFs g pl r0 r1)
def spGameI (g : Gb) : ASp := fun ds μ P => ∃ a pl ms r0 r1, ds = [.ptr a, boardD g pl, prog g r0, prog g r1] ∧ μ a = some (.ins (cl g "Game") [] []) ∧ PlanOk pl ∧ rowOk pl ms r0 ∧ rowOk pl ms r1 ∧ szs r0 ≤ 5 ∧ szs r1 ≤ 5 ∧ P .non (up μ a (.ins (cl g "Game") ["plan", "hands", "texts"] (gameFs g pl r0 r1)))
abbrev N_Game_init : List Str := ["self", "board", "leader", "follower"]
abbrev V_Game_init : List Nat := [0, 1, 2, 3]
abbrev G_Game_init : List Str := ["Machine"]
theorem wk_Game_init {g : Gb} {k : Nat} (Z : Fx g) {j : Nat} (hj : j + 1 ≤ k) (Fm : MkG g j "Machine" (cl g "Machine") (spMachI g)) : Wlk g k d_Game_init N_Game_init ["self", "board", "leader", "follower"] V_Game_init V_Game_init G_Game_init (spGameI g) := by
  refine ⟨⟨rfl, rfl, rfl, by decide +kernel, rfl, by decide +kernel, by decide +kernel⟩, by decide +kernel, ?_, fun X S ds μ P h => ?_⟩
  · walk_at "sp_len"
  have nn0 : N_Game_init[0]? = some ("self" : Str) := rfl
  have nn1 : N_Game_init[1]? = some ("board" : Str) := rfl
  have nn2 : N_Game_init[2]? = some ("leader" : Str) := rfl
  have nn3 : N_Game_init[3]? = some ("follower" : Str) := rfl
  have gg0 : G_Game_init[0]? = some ("Machine" : Str) := rfl
  refine wb_cons ?_
  obtain ⟨a, pl, ms, r0, r1, rfl, ha, ok, k0, k1, s0, s1, q⟩ := h
  refine ws_fld (by assumption) (Fx.cls (by assumption) 154 rfl) (Fx.na (by assumption) 156 rfl) (ns := []) (ds := []) rfl (by decide) ?_
  walk_at "g"
  refine ⟨a, _, rfl, ha, ?_⟩
  walk_at "g"
  refine ws_fld (by assumption) (Fx.cls (by assumption) 154 rfl) (Fx.na (by assumption) 157 rfl) (ns := ["plan"]) (ds := []) rfl (by decide) ?_
  walk_at "e"
  walk_at "e"
  refine w_make (by assumption) Fm hj _ (by with_reducible assumption) ?_
  walk_at "g"
  intro a1 h1
  refine ⟨a1, pl, ms, r0, rfl, up_same, ok, k0, s0, rfl, _, _, by rw [up_up]; exact up_same, ?_⟩
  rw [up_up, dl_up h1]
  walk_at "e"
  refine w_make (by assumption) Fm hj _ (by with_reducible assumption) ?_
  walk_at "g"
  intro a2 h2
  refine ⟨a2, pl, ms, r1, rfl, up_same, ok, k1, s1, rfl, _, _, by rw [up_up]; exact up_same, ?_⟩
  rw [up_up, dl_up h2]
  walk_at "g"
  refine ⟨a, _, rfl, up_same, ?_⟩
  rw [up_up]
  walk_at "g"
  refine ws_fld (by assumption) (Fx.cls (by assumption) 154 rfl) (Fx.na (by assumption) 158 rfl) (ns := ["plan", "hands"]) (ds := []) rfl (by decide) ?_
  walk_at "g"
  refine ⟨a, _, rfl, up_same, ?_⟩
  rw [up_up]
  exact q
theorem ok_Game_mk {g : Gb} {k : Nat} (Z : Fx g) {j : Nat} (hj : j + 1 ≤ k) (Fm : MkG g j "Machine" (cl g "Machine") (spMachI g)) : MkG g (k + 1) "Game" (cl g "Game") (spGameI g) :=
  Z.mkG 33 155 21 rfl rfl rfl rfl rfl rfl (fun _ _ _ _ _ _ us hl => match us, hl with | [_, _, _, _], _ => rfl) (wk_Game_init Z hj Fm)
def pick (w : Nat) (r0 r1 : List St) : List St := match w with
  | 0 => r0
  | _ => r1
def spGMach (g : Gb) : ASp := fun ds μ P => ∃ pl r0 r1 w, ds = [gameD g pl r0 r1, .int (w : Nat)] ∧ w ≤ 1 ∧ P (machD g pl (pick w r0 r1)) μ
abbrev N_Game_machine : List Str := ["self", "which"]
abbrev V_Game_machine : List Nat := [0, 1]
abbrev G_Game_machine : List Str := []
theorem wk_Game_machine {g : Gb} {k : Nat} (Z : Fx g)  : Wlk g k d_Game_machine N_Game_machine ["self", "which"] V_Game_machine V_Game_machine G_Game_machine (spGMach g) := by
  refine ⟨⟨rfl, rfl, rfl, by decide +kernel, rfl, by decide +kernel, by decide +kernel⟩, by decide +kernel, ?_, fun X S ds μ P h => ?_⟩
  · walk_at "sp_len"
  have nn0 : N_Game_machine[0]? = some ("self" : Str) := rfl
  have nn1 : N_Game_machine[1]? = some ("which" : Str) := rfl
  refine wb_cons ?_
  obtain ⟨pl, r0, r1, w, rfl, hw, q⟩ := h
  have hw : w = 0 ∨ w = 1 := by omega
  rcases hw with e | e <;> subst e
  · walk_at "g"
    refine w_fld (by assumption) (Fx.cls (by assumption) 154 rfl) (Fx.na (by assumption) 157 rfl) (ns := ["plan", "hands", "texts"]) (i := 1) rfl ?_
    walk_at "g"
    exact q
  · walk_at "g"
    refine w_fld (by assumption) (Fx.cls (by assumption) 154 rfl) (Fx.na (by assumption) 157 rfl) (ns := ["plan", "hands", "texts"]) (i := 1) rfl ?_
    walk_at "g"
    exact q
theorem ok_Game_machine {g : Gb} {k : Nat} (Z : Fx g)  : MeG g (k + 1) (cl g "Game") "machine" (spGMach g) :=
  Z.me 34 159 154 rfl rfl rfl rfl rfl rfl (fun _ _ _ _ _ _ us hl => match us, hl with | [_, _], _ => rfl) (wk_Game_machine Z)
def spGBoard (g : Gb) : ASp := fun ds μ P => ∃ pl r0 r1, ds = [gameD g pl r0 r1] ∧ P (boardD g pl) μ
abbrev N_Game_board : List Str := ["self"]
abbrev V_Game_board : List Nat := [0]
abbrev G_Game_board : List Str := []
theorem wk_Game_board {g : Gb} {k : Nat} (Z : Fx g)  : Wlk g k d_Game_board N_Game_board ["self"] V_Game_board V_Game_board G_Game_board (spGBoard g) := by
  refine ⟨⟨rfl, rfl, rfl, by decide +kernel, rfl, by decide +kernel, by decide +kernel⟩, by decide +kernel, ?_, fun X S ds μ P h => ?_⟩
  · walk_at "sp_len"
  have nn0 : N_Game_board[0]? = some ("self" : Str) := rfl
  refine wb_cons ?_
  obtain ⟨pl, r0, r1, rfl, q⟩ := h
  walk_at "g"
  refine w_fld (by assumption) (Fx.cls (by assumption) 154 rfl) (Fx.na (by assumption) 156 rfl) (ns := ["plan", "hands", "texts"]) (i := 0) rfl ?_
  walk_at "g"
  exact q
theorem ok_Game_board {g : Gb} {k : Nat} (Z : Fx g)  : MeG g (k + 1) (cl g "Game") "board" (spGBoard g) :=
  Z.me 35 160 154 rfl rfl rfl rfl rfl rfl (fun _ _ _ _ _ _ us hl => match us, hl with | [_], _ => rfl) (wk_Game_board Z)
/-- a standing -/
structure Spot where
  room : Nat
  st : List Str
  rooms : List Nat
def roomsD (rs : List Nat) : D := .tup (rs.map fun r : Nat => .int r)
def spotD (s : Spot) : D := .tup [.int (s.room : Nat), stD s.st, roomsD s.rooms]
def beginM (pl : Plan) (n : Nat) : Spot := ⟨0, firstOf pl, List.replicate n 0⟩
def spBegin (g : Gb) : ASp := fun ds μ P => ∃ pl r0 r1 n, ds = [gameD g pl r0 r1, .int (n : Nat)] ∧ n ≤ 100 ∧ PlanOk pl ∧ P (spotD (beginM pl n)) μ
abbrev N_Game_begin : List Str := ["self", "many"]
abbrev V_Game_begin : List Nat := [0, 1]
abbrev G_Game_begin : List Str := ["asked_many", "MOST_FOLLOWERS"]
theorem wk_Game_begin {g : Gb} {k : Nat} (Z : Fx g) {j : Nat} (hj : j ≤ k) (Fa : FnG g j "asked_many" spMany) (Ff : MeG g j (cl g "Board") "first" (spFirst g)) : Wlk g k d_Game_begin N_Game_begin ["self", "many"] V_Game_begin V_Game_begin G_Game_begin (spBegin g) := by
  refine ⟨⟨rfl, rfl, rfl, by decide +kernel, rfl, by decide +kernel, by decide +kernel⟩, by decide +kernel, ?_, fun X S ds μ P h => ?_⟩
  · walk_at "sp_len"
  have nn0 : N_Game_begin[0]? = some ("self" : Str) := rfl
  have nn1 : N_Game_begin[1]? = some ("many" : Str) := rfl
  have gg0 : G_Game_begin[0]? = some ("asked_many" : Str) := rfl
  have gg1 : G_Game_begin[1]? = some ("MOST_FOLLOWERS" : Str) := rfl
  have gm1 : ∃ t, g.mg "MOST_FOLLOWERS" = some (.int 400 t) := Z.int 84
  refine wb_cons ?_
  obtain ⟨pl, r0, r1, n, rfl, hn, ok, q⟩ := h
  walk_at "g"
  refine ⟨_, _, rfl, by omega, by omega, ?_⟩
  walk_at "g"
  refine w_meth0 (by assumption) Ff hj ?_
  refine w_fld (by assumption) (Fx.cls (by assumption) 154 rfl) (Fx.na (by assumption) 156 rfl) (ns := ["plan", "hands", "texts"]) (i := 0) rfl ?_
  walk_at "g"
  refine ⟨_, _, rfl, rfl, pl, rfl, ok, ?_⟩
  walk_at "e"
  refine w_mulT (by assumption) ?_
  walk_at "g"
  refine ⟨[.int 0], n, rfl, rfl, by simp, by decide, by omega, by omega, ?_⟩
  walk_at "g"
  have e : (List.replicate (n : Int).toNat [D.int 0]).flatten = (List.replicate n 0).map fun r : Nat => D.int r := by
    rw [Int.toNat_natCast, List.map_replicate]
    clear q
    induction n with
    | zero => rfl
    | succ n ih => rw [List.replicate_succ, List.replicate_succ, List.flatten_cons, ih (by omega)]; rfl
  rw [e]
  exact q
theorem ok_Game_begin {g : Gb} {k : Nat} (Z : Fx g) {j : Nat} (hj : j ≤ k) (Fa : FnG g j "asked_many" spMany) (Ff : MeG g j (cl g "Board") "first" (spFirst g)) : MeG g (k + 1) (cl g "Game") "begin" (spBegin g) :=
  Z.me 36 161 154 rfl rfl rfl rfl rfl rfl (fun _ _ _ _ _ _ us hl => match us, hl with | [_, _], _ => rfl) (wk_Game_begin Z hj Fa Ff)
end
set_option maxHeartbeats 4000000
section
open PySem PySem.Spec L2
def exOk (pl : Plan) (L : Nat) (es : Exits) : Prop := ∀ e, e ∈ es → actOk pl e.1 ∧ e.2 ≤ L
theorem looks_ok {pl : Plan} (ok : PlanOk pl) {c v : Str} (h : CV pl c v) {t o L : Nat} (ht : t ≤ L) (ho : o ≤ L) : exOk pl L (looksM pl c v t o) := by
  obtain ⟨vs, h1, h2⟩ := h
  intro e he
  unfold looksM at he
  rw [vals_mem ok.nd h1] at he
  rcases List.mem_cons.mp he with q | q
  · subst q; exact ⟨⟨vs, h1, h2⟩, ht⟩
  · obtain ⟨w, hw, ew⟩ := List.mem_map.mp q
    subst ew
    exact ⟨⟨vs, h1, (List.mem_filter.mp hw).1⟩, ho⟩
theorem bg_le {r : List St} {i b L : Nat} (h1 : i + szs r ≤ L) (h2 : b ≤ L) : bg r i b ≤ L := by
  cases r with
  | nil => exact h2
  | cons s r => show i ≤ L; omega
mutual
theorem layS_ok {pl : Plan} {ms : List Str} (ok : PlanOk pl) : ∀ (s : St) (a b L : Nat), stOk pl ms s → a + sz s ≤ L → b ≤ L → ∀ es, es ∈ layS pl s a b → exOk pl L es
  | .write c v, a, b, L, h, h1, h2, es, he => by simp only [layS, List.mem_singleton] at he; subst he; intro e hh; simp only [List.mem_singleton] at hh; subst hh; exact ⟨h, h2⟩
  | .wait c v, a, b, L, h, h1, h2, es, he => by simp only [layS, List.mem_singleton] at he; subst he; intro e hh; simp only [List.mem_singleton] at hh; subst hh; exact ⟨h, h2⟩
  | .mark _, a, b, L, h, h1, h2, es, he => by simp only [layS, List.mem_singleton] at he; subst he; intro e hh; simp only [List.mem_singleton] at hh; subst hh; exact ⟨True.intro, h2⟩
  | .skip, a, b, L, h, h1, h2, es, he => by simp only [layS, List.mem_singleton] at he; subst he; intro e hh; simp only [List.mem_singleton] at hh; subst hh; exact ⟨True.intro, h2⟩
  | .stop, a, b, L, h, h1, h2, es, he => by simp only [layS, List.mem_singleton] at he; subst he; intro e hh; cases hh
  | .ife c v y n, a, b, L, h, h1, h2, es, he => by
    simp only [sz] at h1
    simp only [layS, List.mem_cons, List.mem_append] at he
    rcases he with q | q | q
    · subst q; exact looks_ok ok h.1 (bg_le (by omega) h2) (bg_le (by omega) h2)
    · exact layR_ok ok y _ _ L h.2.1 (by omega) h2 es q
    · exact layR_ok ok n _ _ L h.2.2 (by omega) h2 es q
  | .whl c v x, a, b, L, h, h1, h2, es, he => by
    simp only [sz] at h1
    simp only [layS, List.mem_cons] at he
    rcases he with q | q
    · subst q; exact looks_ok ok h.1 (bg_le (by omega) (by omega)) h2
    · exact layR_ok ok x _ _ L h.2 (by omega) (by omega) es q
  | .loop x, a, b, L, h, h1, h2, es, he => by
    simp only [sz] at h1
    simp only [layS, List.mem_cons] at he
    rcases he with q | q
    · subst q; intro e hh; simp only [List.mem_singleton] at hh; subst hh; exact ⟨True.intro, bg_le (by omega) (by omega)⟩
    · exact layR_ok ok x _ _ L h (by omega) (by omega) es q
  | .choose y n, a, b, L, h, h1, h2, es, he => by
    simp only [sz] at h1
    simp only [layS, List.mem_cons, List.mem_append] at he
    rcases he with q | q | q
    · subst q; intro e hh; simp only [List.mem_cons, List.not_mem_nil, or_false] at hh
      rcases hh with hh | hh <;> subst hh
      · exact ⟨True.intro, bg_le (by omega) h2⟩
      · exact ⟨True.intro, bg_le (by omega) h2⟩
    · exact layR_ok ok y _ _ L h.1 (by omega) h2 es q
    · exact layR_ok ok n _ _ L h.2 (by omega) h2 es q
theorem layR_ok {pl : Plan} {ms : List Str} (ok : PlanOk pl) : ∀ (r : List St) (a b L : Nat), rowOk pl ms r → a + szs r ≤ L → b ≤ L → ∀ es, es ∈ layR pl r a b → exOk pl L es
  | [], _, _, _, _, _, _, es, he => by cases he
  | s :: r, a, b, L, h, h1, h2, es, he => by
    simp only [szs] at h1
    simp only [layR, List.mem_append] at he
    rcases he with q | q
    · exact layS_ok ok s _ _ L h.1 (by omega) (bg_le (by omega) h2) es q
    · exact layR_ok ok r _ _ L h.2 (by omega) h2 es q
end
theorem rooms_ok {pl : Plan} {ms : List Str} (ok : PlanOk pl) {r : List St} (h : rowOk pl ms r) {es : Exits} (he : es ∈ roomsM pl r) : exOk pl (szs r) es := by
  unfold roomsM at he
  rcases List.mem_append.mp he with q | q
  · exact layR_ok ok r 0 (szs r) (szs r) h (by omega) (Nat.le_refl _) es q
  · have : es = [] := by simpa using q
    subst this; intro e hh; cases hh
abbrev Trip := Nat × Nat × List Str
def openM (pl : Plan) (st : List Str) : Nat → Exits → List Trip
  | _, [] => []
  | n, e :: es => (match behindM pl st e.1 with
    | none => []
    | some st' => [(n, e.2, st')]) ++ openM pl st (n + 1) es
theorem openM_app {pl : Plan} {st : List Str} : ∀ (a b : Exits) (n : Nat), openM pl st n (a ++ b) = openM pl st n a ++ openM pl st (n + a.length) b
  | [], b, n => by simp [openM]
  | e :: a, b, n => by
    rw [List.cons_append]
    simp only [openM, openM_app a b, List.append_assoc, List.length_cons]
    rw [show n + 1 + a.length = n + (a.length + 1) by omega]
theorem openM_len {pl : Plan} {st : List Str} : ∀ (a : Exits) (n : Nat), (openM pl st n a).length ≤ a.length
  | [], _ => Nat.le_refl _
  | e :: a, n => by
    have := openM_len (pl := pl) (st := st) a (n + 1)
    simp only [openM, List.length_append, List.length_cons]
    cases behindM pl st e.1 <;> simp <;> omega
def tripD (t : Trip) : D := .tup [.int (t.1 : Nat), .int (t.2.1 : Nat), stD t.2.2]
def spOpen (g : Gb) : ASp := fun ds μ P => ∃ pl ms r0 r1 w i st es, ds = [gameD g pl r0 r1, .int (w : Nat), .int (i : Nat), stD st] ∧ w ≤ 1 ∧ PlanOk pl ∧ rowOk pl ms (pick w r0 r1) ∧ szs (pick w r0 r1) ≤ 5 ∧ st.length = pl.length ∧ (roomsM pl (pick w r0 r1))[i]? = some es ∧ es.length ≤ 1000 ∧ P (.lst ((openM pl st 0 es).map tripD)) μ
abbrev N_Game_open_steps : List Str := ["self", "which", "room", "state", "found", "number", "act", "goal", "behind"]
abbrev V_Game_open_steps : List Nat := [0, 1, 2, 3, 4, 5, 6, 7, 8]
abbrev G_Game_open_steps : List Str := ["enumerate"]
theorem wk_Game_open_steps {g : Gb} {k : Nat} (Z : Fx g) {j : Nat} (hj : j ≤ k) (Fs : MeG g j (cl g "Machine") "steps" (spSteps1 g)) (Fb : MeG g j (cl g "Board") "behind" (spBehind g)) : Wlk g k d_Game_open_steps N_Game_open_steps ["self", "which", "room", "state"] V_Game_open_steps V_Game_open_steps G_Game_open_steps (spOpen g) := by
  refine ⟨⟨rfl, rfl, rfl, by decide +kernel, rfl, by decide +kernel, by decide +kernel⟩, by decide +kernel, ?_, fun X S ds μ P h => ?_⟩
  · walk_at "sp_len"
  have nn0 : N_Game_open_steps[0]? = some ("self" : Str) := rfl
  have nn1 : N_Game_open_steps[1]? = some ("which" : Str) := rfl
  have nn2 : N_Game_open_steps[2]? = some ("room" : Str) := rfl
  have nn3 : N_Game_open_steps[3]? = some ("state" : Str) := rfl
  have nn4 : N_Game_open_steps[4]? = some ("found" : Str) := rfl
  have nn5 : N_Game_open_steps[5]? = some ("number" : Str) := rfl
  have nn6 : N_Game_open_steps[6]? = some ("act" : Str) := rfl
  have nn7 : N_Game_open_steps[7]? = some ("goal" : Str) := rfl
  have nn8 : N_Game_open_steps[8]? = some ("behind" : Str) := rfl
  have gg0 : G_Game_open_steps[0]? = some ("enumerate" : Str) := rfl
  refine wb_cons ?_
  obtain ⟨pl, ms, r0, r1, w, i, st, es, rfl, hw, ok, rok, hs, hst, hi, hes, q⟩ := h
  have eok := rooms_ok ok rok (List.mem_of_getElem? hi)
  refine ws_setL (by assumption) 4 rfl rfl (wa_nil ⟨by decide, fun f hf => ?_⟩)
  walk_at "g"
  refine ws_for (by assumption) ?_
  refine wi_enumL (by assumption) (by with_reducible assumption) (Fx.free (by assumption) 66 rfl) ?_
  refine w_meth (by assumption) Fs hj ?_
  walk_at "e"
  refine w_fld (by assumption) (Fx.cls (by assumption) 154 rfl) (Fx.na (by assumption) 157 rfl) (ns := ["plan", "hands", "texts"]) (i := 1) rfl ?_
  walk_at "g"
  refine ⟨machD g pl (pick w r0 r1), .t ?_, ?_⟩
  · have hw : w = 0 ∨ w = 1 := by omega
    rcases hw with e | e <;> subst e <;> rfl
  refine ⟨_, _, rfl, rfl, ?_⟩
  walk_at "g"
  refine ⟨pl, pick w r0 r1, i, es, rfl, hi, _, rfl, ?_⟩
  refine ⟨fun jj ρ' m' => ∃ a5 a6 a7 a8, ρ' = [some (gameD g pl r0 r1), some (.int (w : Nat)), some (.int (i : Nat)), some (stD st), some (.ptr f), a5, a6, a7, a8] ∧ m' = up μ f (.lst ((openM pl st 0 (es.take jj)).map tripD)), ⟨_, _, _, _, rfl, rfl⟩, ?_, ?_⟩
  · rintro jj d ρ' m' hd ⟨a5, a6, a7, a8, rfl, rfl⟩
    obtain ⟨d0, hd0, ed⟩ := numD_at hd
    subst ed
    rw [List.getElem?_map] at hd0
    cases ht : es[jj]? with
    | none => rw [ht] at hd0; cases hd0
    | some e =>
      rw [ht] at hd0
      cases hd0
      obtain ⟨aok, gle⟩ := eok e (List.mem_of_getElem? ht)
      have hjl : jj < es.length := (List.getElem?_eq_some_iff.mp ht).1
      have htk : openM pl st 0 (es.take (jj + 1)) = openM pl st 0 (es.take jj) ++ (match behindM pl st e.1 with | none => [] | some st' => [(jj, e.2, st')]) := by
        rw [List.take_succ, ht, openM_app]
        simp only [Option.toList_some, openM, List.append_nil, List.length_take]
        rw [show 0 + min jj es.length = jj by omega]
      obtain ⟨act, goal⟩ := e
      walk_at "g"
      refine w_meth (by assumption) Fb hj ?_
      refine w_fld (by assumption) (Fx.cls (by assumption) 154 rfl) (Fx.na (by assumption) 156 rfl) (ns := ["plan", "hands", "texts"]) (i := 0) rfl ?_
      walk_at "g"
      refine ⟨_, _, rfl, rfl, ?_⟩
      walk_at "g"
      refine ⟨pl, st, act, rfl, ok, hst, aok, ?_⟩
      walk_at "g"
      walk_at "i"
      have htk' := htk
      cases hb : behindM pl st act with
      | none =>
        have hb' : behindM pl st (act, goal).1 = none := hb
        rw [hb'] at htk
        rw [if_neg (by exact Bool.false_ne_true)]
        refine wb_nil ⟨_, _, _, _, rfl, ?_⟩
        rw [htk, List.append_nil]
      | some st' =>
        have hb' : behindM pl st (act, goal).1 = some st' := hb
        rw [hb'] at htk
        rw [if_pos (by exact rfl)]
        walk_at "g"
        refine ws_append (by assumption) rfl ?_
        walk_at "g"
        refine ⟨⟨_, up_same⟩, ?_⟩
        walk_at "g"
        have hol := openM_len (pl := pl) (st := st) (es.take jj) 0
        rw [List.length_take] at hol
        refine ⟨_, up_same, by rw [List.length_map]; omega, _, _, _, _, rfl, ?_⟩
        rw [up_up, htk, List.map_append]
        have e0 : ((0 + jj : Nat) : Int) = (jj : Nat) := by omega
        rw [e0]
        rfl
  · rintro ρ' m' ⟨a5, a6, a7, a8, rfl, rfl⟩
    rw [numD_len, List.length_map, List.take_length]
    refine wb_frz 4 rfl up_same rfl ?_
    rw [dl_up hf]
    walk_at "g"
    exact q
theorem ok_Game_open_steps {g : Gb} {k : Nat} (Z : Fx g) {j : Nat} (hj : j ≤ k) (Fs : MeG g j (cl g "Machine") "steps" (spSteps1 g)) (Fb : MeG g j (cl g "Board") "behind" (spBehind g)) : MeG g (k + 1) (cl g "Game") "open_steps" (spOpen g) :=
  Z.me 37 162 154 rfl rfl rfl rfl rfl rfl (fun _ _ _ _ _ _ us hl => match us, hl with | [_, _, _, _], _ => rfl) (wk_Game_open_steps Z hj Fs Fb)
/-! ### step_of, state_behind, moved -/
end
set_option maxHeartbeats 4000000
section
open PySem PySem.Spec L2
def stepOf (pl : Plan) (r : List St) (i n : Nat) : Option (Act × Nat) := ((roomsM pl r)[i]?).bind fun es => es[n]?
def spStepOf (g : Gb) : ASp := fun ds μ P => ∃ pl r i n e, ds = [machD g pl r, .int (i : Nat), .int (n : Nat)] ∧ stepOf pl r i n = some e ∧ P (exD e) μ
theorem exs_at {es : Exits} {n : Nat} {e : Act × Nat} (h : es[n]? = some e) : atI (es.map exD) ((n : Nat) : Int) = some (exD e) := by
  have hlt := (List.getElem?_eq_some_iff.mp h).1
  unfold atI
  rw [ix3 (by omega) (by rw [List.length_map]; omega)]
  show (es.map exD)[n]? = _
  rw [List.getElem?_map, h]; rfl
abbrev N_step_of : List Str := ["machine", "room", "step", "some"]
abbrev V_step_of : List Nat := [0, 1, 2, 3]
abbrev G_step_of : List Str := ["len", "NoStep"]
theorem wk_step_of {g : Gb} {k : Nat} (Z : Fx g) {j : Nat} (hj : j ≤ k) (Fs : MeG g j (cl g "Machine") "steps" (spSteps1 g)) : Wlk g k d_step_of N_step_of ["machine", "room", "step"] V_step_of V_step_of G_step_of (spStepOf g) := by
  refine ⟨⟨rfl, rfl, rfl, by decide +kernel, rfl, by decide +kernel, by decide +kernel⟩, by decide +kernel, ?_, fun X S ds μ P h => ?_⟩
  · walk_at "sp_len"
  have nn0 : N_step_of[0]? = some ("machine" : Str) := rfl
  have nn1 : N_step_of[1]? = some ("room" : Str) := rfl
  have nn2 : N_step_of[2]? = some ("step" : Str) := rfl
  have nn3 : N_step_of[3]? = some ("some" : Str) := rfl
  have gg0 : G_step_of[0]? = some ("len" : Str) := rfl
  have gg1 : G_step_of[1]? = some ("NoStep" : Str) := rfl
  refine wb_cons ?_
  obtain ⟨pl, r, i, n, e, rfl, hst, q⟩ := h
  obtain ⟨es, hi, hn⟩ := Option.bind_eq_some_iff.mp hst
  have hlt := (List.getElem?_eq_some_iff.mp hn).1
  refine ws_v (by assumption) (by with_reducible assumption) rfl ?_
  refine w_meth (by assumption) Fs hj ?_
  walk_at "g"
  refine ⟨_, _, rfl, rfl, ?_⟩
  walk_at "g"
  refine ⟨pl, r, i, es, rfl, hi, ?_⟩
  walk_at "g"
  refine ws_ifc (fun t m => t = false ∧ m = μ) ?_ (fun _ h => by cases h.1) ?_
  · walk_at "g"
    rw [if_pos (decide_eq_true (by omega))]
    walk_at "g"
    have e2 : decide (((n : Nat) : Int) < (((es.map exD).length : Nat) : Int)) = true := decide_eq_true (by rw [List.length_map]; omega)
    rw [e2]
    exact ⟨rfl, rfl⟩
  · rintro m ⟨_, rfl⟩
    walk_at "g"
    exact ⟨_, .l (exs_at hn), q⟩
theorem ok_step_of {g : Gb} {k : Nat} (Z : Fx g) {j : Nat} (hj : j ≤ k) (Fs : MeG g j (cl g "Machine") "steps" (spSteps1 g)) : FnG g (k + 1) "step_of" (spStepOf g) :=
  Z.fn 31 19 rfl rfl rfl rfl (fun _ _ _ _ _ _ us hl => match us, hl with | [_, _, _], _ => rfl) (wk_step_of Z hj Fs)
def spStBehind (g : Gb) : ASp := fun ds μ P => ∃ pl st a st', ds = [boardD g pl, stD st, actD a] ∧ PlanOk pl ∧ st.length = pl.length ∧ actOk pl a ∧ behindM pl st a = some st' ∧ P (stD st') μ
abbrev N_state_behind : List Str := ["board", "state", "act", "behind"]
abbrev V_state_behind : List Nat := [0, 1, 2, 3]
abbrev G_state_behind : List Str := ["Shut"]
theorem wk_state_behind {g : Gb} {k : Nat} (Z : Fx g) {j : Nat} (hj : j ≤ k) (Fb : MeG g j (cl g "Board") "behind" (spBehind g)) : Wlk g k d_state_behind N_state_behind ["board", "state", "act"] V_state_behind V_state_behind G_state_behind (spStBehind g) := by
  refine ⟨⟨rfl, rfl, rfl, by decide +kernel, rfl, by decide +kernel, by decide +kernel⟩, by decide +kernel, ?_, fun X S ds μ P h => ?_⟩
  · walk_at "sp_len"
  have nn0 : N_state_behind[0]? = some ("board" : Str) := rfl
  have nn1 : N_state_behind[1]? = some ("state" : Str) := rfl
  have nn2 : N_state_behind[2]? = some ("act" : Str) := rfl
  have nn3 : N_state_behind[3]? = some ("behind" : Str) := rfl
  have gg0 : G_state_behind[0]? = some ("Shut" : Str) := rfl
  refine wb_cons ?_
  obtain ⟨pl, st, a, st', rfl, ok, hst, aok, hb, q⟩ := h
  refine ws_v (by assumption) (by with_reducible assumption) rfl ?_
  refine w_meth (by assumption) Fb hj ?_
  walk_at "g"
  refine ⟨_, _, rfl, rfl, ?_⟩
  walk_at "g"
  refine ⟨pl, st, a, rfl, ok, hst, aok, ?_⟩
  rw [hb]
  walk_at "g"
  walk_at "i"
  rw [if_neg (by exact Bool.false_ne_true)]
  walk_at "g"
  exact q
theorem ok_state_behind {g : Gb} {k : Nat} (Z : Fx g) {j : Nat} (hj : j ≤ k) (Fb : MeG g j (cl g "Board") "behind" (spBehind g)) : FnG g (k + 1) "state_behind" (spStBehind g) :=
  Z.fn 32 20 rfl rfl rfl rfl (fun _ _ _ _ _ _ us hl => match us, hl with | [_, _, _], _ => rfl) (wk_state_behind Z hj Fb)
def movedM (pl : Plan) (r0 r1 : List St) (s : Spot) (h n : Nat) : Option Spot := match h with
  | 0 => (stepOf pl r0 s.room n).bind fun e => (behindM pl s.st e.1).map fun st => ⟨e.2, st, s.rooms⟩
  | h + 1 => (s.rooms[h]?).bind fun r => (stepOf pl r1 r n).bind fun e => (behindM pl s.st e.1).map fun st => ⟨s.room, st, s.rooms.set h e.2⟩
def moveD (m : Nat × Nat) : D := .tup [.int (m.1 : Nat), .int (m.2 : Nat)]
def spMoved (g : Gb) : ASp := fun ds μ P => ∃ pl ms r0 r1 s m s', ds = [gameD g pl r0 r1, spotD s, moveD m] ∧ PlanOk pl ∧ rowOk pl ms r0 ∧ rowOk pl ms r1 ∧ s.st.length = pl.length ∧ s.rooms.length ≤ 10 ∧ movedM pl r0 r1 s m.1 m.2 = some s' ∧ P (spotD s') μ
theorem step_ok {pl : Plan} {ms : List Str} (ok : PlanOk pl) {r : List St} (rok : rowOk pl ms r) {i n : Nat} {e : Act × Nat} (h : stepOf pl r i n = some e) : actOk pl e.1 ∧ e.2 ≤ szs r := by
  obtain ⟨es, hi, hn⟩ := Option.bind_eq_some_iff.mp h
  exact rooms_ok ok rok (List.mem_of_getElem? hi) e (List.mem_of_getElem? hn)
abbrev N_Game_moved : List Str := ["self", "standing", "move", "room", "state", "rooms", "hand", "step", "act", "goal"]
abbrev V_Game_moved : List Nat := [0, 1, 2, 3, 4, 5, 6, 7, 8, 9]
abbrev G_Game_moved : List Str := ["len", "NoHand", "step_of", "state_behind"]
theorem wk_Game_moved {g : Gb} {k : Nat} (Z : Fx g) {j : Nat} (hj : j ≤ k) (Fs : FnG g j "step_of" (spStepOf g)) (Fb : FnG g j "state_behind" (spStBehind g)) : Wlk g k d_Game_moved N_Game_moved ["self", "standing", "move"] V_Game_moved V_Game_moved G_Game_moved (spMoved g) := by
  refine ⟨⟨rfl, rfl, rfl, by decide +kernel, rfl, by decide +kernel, by decide +kernel⟩, by decide +kernel, ?_, fun X S ds μ P h => ?_⟩
  · walk_at "sp_len"
  have nn0 : N_Game_moved[0]? = some ("self" : Str) := rfl
  have nn1 : N_Game_moved[1]? = some ("standing" : Str) := rfl
  have nn2 : N_Game_moved[2]? = some ("move" : Str) := rfl
  have nn3 : N_Game_moved[3]? = some ("room" : Str) := rfl
  have nn4 : N_Game_moved[4]? = some ("state" : Str) := rfl
  have nn5 : N_Game_moved[5]? = some ("rooms" : Str) := rfl
  have nn6 : N_Game_moved[6]? = some ("hand" : Str) := rfl
  have nn7 : N_Game_moved[7]? = some ("step" : Str) := rfl
  have nn8 : N_Game_moved[8]? = some ("act" : Str) := rfl
  have nn9 : N_Game_moved[9]? = some ("goal" : Str) := rfl
  have gg0 : G_Game_moved[0]? = some ("len" : Str) := rfl
  have gg1 : G_Game_moved[1]? = some ("NoHand" : Str) := rfl
  have gg2 : G_Game_moved[2]? = some ("step_of" : Str) := rfl
  have gg3 : G_Game_moved[3]? = some ("state_behind" : Str) := rfl
  refine wb_cons ?_
  obtain ⟨pl, ms, r0, r1, ⟨room, st, rooms⟩, ⟨hh, nn⟩, s', rfl, ok, k0, k1, hst, hrl, hm, q⟩ := h
  walk_at "g"
  refine ws_ifc (fun t m => t = false ∧ m = μ) ?_ (fun _ h => by cases h.1) ?_
  · walk_at "g"
    have hh1 : hh ≤ rooms.length := by
      cases hh with
      | zero => exact Nat.zero_le _
      | succ h =>
        obtain ⟨r, hr, _⟩ := Option.bind_eq_some_iff.mp hm
        exact (List.getElem?_eq_some_iff.mp hr).1
    rw [if_pos (decide_eq_true (by show (0 : Int) ≤ (hh : Nat); omega))]
    walk_at "g"
    have e2 : decide (((hh : Nat) : Int) ≤ (((rooms.map fun r : Nat => D.int r).length : Nat) : Int)) = true := decide_eq_true (by rw [List.length_map]; omega)
    show (!decide (((hh : Nat) : Int) ≤ (((rooms.map fun r : Nat => D.int r).length : Nat) : Int))) = false ∧ _
    rw [e2]
    exact ⟨rfl, rfl⟩
  rintro m ⟨_, rfl⟩
  walk_at "g"
  cases hh with
  | zero =>
    obtain ⟨⟨act, goal⟩, he, hm⟩ := Option.bind_eq_some_iff.mp hm
    obtain ⟨st', hb, es'⟩ := Option.map_eq_some_iff.mp hm
    subst es'
    obtain ⟨aok, gle⟩ := step_ok ok k0 he
    walk_at "i"
    rw [if_pos (by rfl)]
    walk_at "g"
    refine w_fld (by assumption) (Fx.cls (by assumption) 154 rfl) (Fx.na (by assumption) 157 rfl) (ns := ["plan", "hands", "texts"]) (i := 1) rfl ?_
    walk_at "g"
    refine ⟨pl, r0, room, nn, (act, goal), rfl, he, ?_⟩
    walk_at "g"
    refine w_fld (by assumption) (Fx.cls (by assumption) 154 rfl) (Fx.na (by assumption) 156 rfl) (ns := ["plan", "hands", "texts"]) (i := 0) rfl ?_
    walk_at "g"
    refine ⟨pl, st, act, st', rfl, ok, hst, aok, hb, ?_⟩
    walk_at "g"
    exact q
  | succ h =>
    obtain ⟨rr, hr, hm⟩ := Option.bind_eq_some_iff.mp hm
    obtain ⟨⟨act, goal⟩, he, hm⟩ := Option.bind_eq_some_iff.mp hm
    obtain ⟨st', hb, es'⟩ := Option.map_eq_some_iff.mp hm
    subst es'
    obtain ⟨aok, gle⟩ := step_ok ok k1 he
    have hlt : h < rooms.length := (List.getElem?_eq_some_iff.mp hr).1
    walk_at "i"
    rw [if_neg (by
      intro z
      have := of_decide_eq_true z
      have : ((h + 1 : Nat) : Int) = 0 := this
      omega)]
    walk_at "g"
    refine w_fld (by assumption) (Fx.cls (by assumption) 154 rfl) (Fx.na (by assumption) 157 rfl) (ns := ["plan", "hands", "texts"]) (i := 1) rfl ?_
    walk_at "g"
    have eh : (((h + 1, nn) : Nat × Nat).1 : Int) - 1 = (h : Nat) := by show ((h + 1 : Nat) : Int) - 1 = _; omega
    rw [eh]
    refine ⟨.int (rr : Nat), .t ?_, ?_⟩
    · unfold atI
      rw [ix3 (by omega) (by rw [List.length_map]; show (h : Int) < (rooms.length : Nat); omega)]
      show (rooms.map fun r : Nat => D.int r)[h]? = _
      rw [List.getElem?_map, show rooms[h]? = some rr from hr]; rfl
    walk_at "g"
    refine ⟨pl, r1, rr, nn, (act, goal), rfl, he, ?_⟩
    walk_at "g"
    refine w_fld (by assumption) (Fx.cls (by assumption) 154 rfl) (Fx.na (by assumption) 156 rfl) (ns := ["plan", "hands", "texts"]) (i := 0) rfl ?_
    walk_at "g"
    refine ⟨pl, st, act, st', rfl, ok, hst, aok, hb, ?_⟩
    have e1 : cutD (rooms.map fun r : Nat => D.int r) none (some (h : Nat)) = (rooms.map fun r : Nat => D.int r).take h := cut_take (by rw [List.length_map]; omega)
    have e2 : cutD (rooms.map fun r : Nat => D.int r) (some ((h + 1 : Nat) : Int)) none = (rooms.map fun r : Nat => D.int r).drop (h + 1) := cut_drop (n := h + 1) (by rw [List.length_map]; omega)
    have e2' : cutD (rooms.map fun r : Nat => D.int r) (some (((h + 1, nn) : Nat × Nat).1 : Int)) none = (rooms.map fun r : Nat => D.int r).drop (h + 1) := e2
    walk_at "g"
    · show (cutD (rooms.map fun r : Nat => D.int r) none (some ((((h + 1, nn) : Nat × Nat).1 : Int) - 1)) ++ [_]).length + (cutD (rooms.map fun r : Nat => D.int r) (some (((h + 1, nn) : Nat × Nat).1 : Int)) none).length ≤ _
      rw [eh, e1, e2', List.length_append, List.length_take, List.length_drop, List.length_map]
      show _ + 1 + _ ≤ _
      have : rooms.length ≤ 10 := hrl
      omega
    · walk_at "g"
      show P (.tup [.int (room : Nat), stD st', .tup (cutD (rooms.map fun r : Nat => D.int r) none (some ((((h + 1, nn) : Nat × Nat).1 : Int) - 1)) ++ [.int (goal : Nat)] ++ cutD (rooms.map fun r : Nat => D.int r) (some (((h + 1, nn) : Nat × Nat).1 : Int)) none)]) m
      rw [eh, e1, e2', set_cut (by rw [List.length_map]; omega)]
      have e3 : (rooms.map fun r : Nat => D.int r).set h (.int (goal : Nat)) = (rooms.set h goal).map fun r : Nat => D.int r := by rw [List.map_set]
      rw [e3]
      exact q
    · show (cutD (rooms.map fun r : Nat => D.int r) none (some ((((h + 1, nn) : Nat × Nat).1 : Int) - 1))).length + 1 ≤ _
      rw [eh, e1, List.length_take, List.length_map]
      have : rooms.length ≤ 10 := hrl
      omega
theorem ok_Game_moved {g : Gb} {k : Nat} (Z : Fx g) {j : Nat} (hj : j ≤ k) (Fs : FnG g j "step_of" (spStepOf g)) (Fb : FnG g j "state_behind" (spStBehind g)) : MeG g (k + 1) (cl g "Game") "moved" (spMoved g) :=
  Z.me 39 164 154 rfl rfl rfl rfl rfl rfl (fun _ _ _ _ _ _ us hl => match us, hl with | [_, _, _], _ => rfl) (wk_Game_moved Z hj Fs Fb)
end
set_option maxHeartbeats 4000000
section
open PySem PySem.Spec L2
theorem movedM_len {pl : Plan} {r0 r1 : List St} {s s' : Spot} {h n : Nat} (hm : movedM pl r0 r1 s h n = some s') : s'.rooms.length = s.rooms.length := by
  cases h with
  | zero =>
    obtain ⟨e, he, hm⟩ := Option.bind_eq_some_iff.mp hm
    obtain ⟨st', hb, es'⟩ := Option.map_eq_some_iff.mp hm
    subst es'; rfl
  | succ h =>
    obtain ⟨rr, hr, hm⟩ := Option.bind_eq_some_iff.mp hm
    obtain ⟨e, he, hm⟩ := Option.bind_eq_some_iff.mp hm
    obtain ⟨st', hb, es'⟩ := Option.map_eq_some_iff.mp hm
    subst es'; simp
theorem behindM_len {pl : Plan} {st st' : List Str} {a : Act} (h : behindM pl st a = some st') : st'.length = st.length := by
  cases a with
  | go => cases h; rfl
  | put c v => cases h; simp
  | look c v =>
    have h : (if st[cix pl c]? = some v then some st else none) = some st' := h
    by_cases hc : st[cix pl c]? = some v
    · rw [if_pos hc] at h; cases h; rfl
    · rw [if_neg hc] at h; cases h
theorem movedM_st {pl : Plan} {r0 r1 : List St} {s s' : Spot} {h n : Nat} (hm : movedM pl r0 r1 s h n = some s') : s'.st.length = s.st.length := by
  cases h with
  | zero =>
    obtain ⟨e, he, hm⟩ := Option.bind_eq_some_iff.mp hm
    obtain ⟨st', hb, es'⟩ := Option.map_eq_some_iff.mp hm
    subst es'; exact behindM_len hb
  | succ h =>
    obtain ⟨rr, hr, hm⟩ := Option.bind_eq_some_iff.mp hm
    obtain ⟨e, he, hm⟩ := Option.bind_eq_some_iff.mp hm
    obtain ⟨st', hb, es'⟩ := Option.map_eq_some_iff.mp hm
    subst es'; exact behindM_len hb
def playM (pl : Plan) (r0 r1 : List St) : Spot → List (Nat × Nat) → Option Spot
  | s, [] => some s
  | s, m :: ms => (movedM pl r0 r1 s m.1 m.2).bind fun s' => playM pl r0 r1 s' ms
theorem playM_take {pl : Plan} {r0 r1 : List St} : ∀ {ms : List (Nat × Nat)} {s s' : Spot} (i : Nat), playM pl r0 r1 s ms = some s' → ∃ t, playM pl r0 r1 s (ms.take i) = some t ∧ playM pl r0 r1 t (ms.drop i) = some s'
  | ms, s, s', 0, h => ⟨s, rfl, h⟩
  | [], s, s', i + 1, h => ⟨s, rfl, h⟩
  | m :: ms, s, s', i + 1, h => by
    obtain ⟨t, h1, h2⟩ := Option.bind_eq_some_iff.mp h
    obtain ⟨u, h3, h4⟩ := playM_take i h2
    exact ⟨u, by rw [List.take_succ_cons]; show (movedM pl r0 r1 s m.1 m.2).bind _ = _; rw [h1]; exact h3, h4⟩
theorem playM_len {pl : Plan} {r0 r1 : List St} : ∀ {ms : List (Nat × Nat)} {s s' : Spot}, playM pl r0 r1 s ms = some s' → s'.rooms.length = s.rooms.length ∧ s'.st.length = s.st.length
  | [], s, s', h => by cases h; exact ⟨rfl, rfl⟩
  | m :: ms, s, s', h => by
    obtain ⟨t, h1, h2⟩ := Option.bind_eq_some_iff.mp h
    obtain ⟨a, b⟩ := playM_len h2
    exact ⟨a.trans (movedM_len h1), b.trans (movedM_st h1)⟩
def spPlayed (g : Gb) : ASp := fun ds μ P => ∃ pl ms r0 r1 n mv s', ds = [gameD g pl r0 r1, .int (n : Nat), .lst (mv.map moveD)] ∧ PlanOk pl ∧ rowOk pl ms r0 ∧ rowOk pl ms r1 ∧ n ≤ 10 ∧ playM pl r0 r1 (beginM pl n) mv = some s' ∧ P (spotD s') μ
abbrev N_Game_played : List Str := ["self", "many", "moves", "standing", "move"]
abbrev V_Game_played : List Nat := [0, 1, 2, 3, 4]
abbrev G_Game_played : List Str := []
theorem wk_Game_played {g : Gb} {k : Nat} (Z : Fx g) {j : Nat} (hj : j ≤ k) (Fb : MeG g j (cl g "Game") "begin" (spBegin g)) (Fm : MeG g j (cl g "Game") "moved" (spMoved g)) : Wlk g k d_Game_played N_Game_played ["self", "many", "moves"] V_Game_played V_Game_played G_Game_played (spPlayed g) := by
  refine ⟨⟨rfl, rfl, rfl, by decide +kernel, rfl, by decide +kernel, by decide +kernel⟩, by decide +kernel, ?_, fun X S ds μ P h => ?_⟩
  · walk_at "sp_len"
  have nn0 : N_Game_played[0]? = some ("self" : Str) := rfl
  have nn1 : N_Game_played[1]? = some ("many" : Str) := rfl
  have nn2 : N_Game_played[2]? = some ("moves" : Str) := rfl
  have nn3 : N_Game_played[3]? = some ("standing" : Str) := rfl
  have nn4 : N_Game_played[4]? = some ("move" : Str) := rfl
  refine wb_cons ?_
  obtain ⟨pl, ms, r0, r1, n, mv, s', rfl, ok, k0, k1, hn, hp, q⟩ := h
  refine ws_v (by assumption) (by with_reducible assumption) rfl ?_
  refine w_meth (by assumption) Fb hj ?_
  walk_at "g"
  refine ⟨_, _, rfl, rfl, ?_⟩
  walk_at "g"
  refine ⟨pl, r0, r1, n, rfl, by omega, ok, ?_⟩
  walk_at "g"
  refine ws_for (by assumption) ?_
  refine wi_lst (by assumption) ?_
  walk_at "g"
  refine ⟨fun i ρ' m' => ∃ t a4, ρ' = [some (gameD g pl r0 r1), some (.int (n : Nat)), some (.lst (mv.map moveD)), some (spotD t), a4] ∧ m' = μ ∧ playM pl r0 r1 (beginM pl n) (mv.take i) = some t, ⟨_, _, rfl, rfl, rfl⟩, ?_, ?_⟩
  · rintro i d ρ' m' hd ⟨t, a4, rfl, rfl, ht⟩
    rw [List.getElem?_map] at hd
    cases hm : mv[i]? with
    | none => rw [hm] at hd; cases hd
    | some m =>
      rw [hm] at hd
      cases hd
      have hi : i < mv.length := (List.getElem?_eq_some_iff.mp hm).1
      obtain ⟨t', h1, h2⟩ := playM_take i hp
      rw [ht] at h1; cases h1
      rw [List.drop_eq_getElem_cons hi, (List.getElem?_eq_some_iff.mp hm).2] at h2
      obtain ⟨u, h3, h4⟩ := Option.bind_eq_some_iff.mp h2
      obtain ⟨l1, l2⟩ := playM_len ht
      walk_at "g"
      refine w_meth (by assumption) Fm hj ?_
      walk_at "g"
      refine ⟨_, _, rfl, rfl, ?_⟩
      walk_at "g"
      refine ⟨pl, ms, r0, r1, t, m, u, rfl, ok, k0, k1, by rw [l2]; show (firstOf pl).length = _; unfold firstOf; rw [List.length_map], by rw [l1]; show (List.replicate n 0).length ≤ _; rw [List.length_replicate]; exact hn, h3, ?_⟩
      refine ⟨u, _, rfl, rfl, ?_⟩
      obtain ⟨v, h5, h6⟩ := playM_take (i + 1) hp
      rw [h5]
      have hs : mv.take (i + 1) = mv.take i ++ [m] := by rw [List.take_succ, hm]; rfl
      have happ : ∀ (a : List (Nat × Nat)) (s t u : Spot), playM pl r0 r1 s a = some t → movedM pl r0 r1 t m.1 m.2 = some u → playM pl r0 r1 s (a ++ [m]) = some u := by
        intro a
        induction a with
        | nil => intro s t u h h'; cases h; show (movedM pl r0 r1 s m.1 m.2).bind _ = _; rw [h']; rfl
        | cons x a ih =>
          intro s t u h h'
          obtain ⟨w, k1, k2⟩ := Option.bind_eq_some_iff.mp h
          show (movedM pl r0 r1 s x.1 x.2).bind _ = _
          rw [k1]
          exact ih w t u k2 h'
      rw [hs, happ _ _ _ _ ht h3] at h5
      cases h5; rfl
  · rintro ρ' m' ⟨t, a4, rfl, rfl, ht⟩
    rw [List.length_map, List.take_length, hp] at ht
    cases ht
    walk_at "g"
    exact q
theorem ok_Game_played {g : Gb} {k : Nat} (Z : Fx g) {j : Nat} (hj : j ≤ k) (Fb : MeG g j (cl g "Game") "begin" (spBegin g)) (Fm : MeG g j (cl g "Game") "moved" (spMoved g)) : MeG g (k + 1) (cl g "Game") "played" (spPlayed g) :=
  Z.me 40 165 154 rfl rfl rfl rfl rfl rfl (fun _ _ _ _ _ _ us hl => match us, hl with | [_, _, _], _ => rfl) (wk_Game_played Z hj Fb Fm)
end
set_option maxHeartbeats 4000000
section
open PySem PySem.Spec L2
theorem vals_len {pl : Plan} (ok : PlanOk pl) (c : Str) : (valsOf pl c).length ≤ 3 := by
  unfold valsOf
  cases e : pl.find? (fun x => decide (x.1 = c)) with
  | none => exact Nat.zero_le _
  | some x => exact (ok.ok x (List.mem_of_find?_eq_some e)).l3
theorem looks_len {pl : Plan} (ok : PlanOk pl) (c v : Str) (t o : Nat) : (looksM pl c v t o).length ≤ 5 := by
  unfold looksM
  rw [List.length_cons, List.length_map]
  have := List.length_filter_le (fun w => !decide (w = v)) (valsOf pl c)
  have := vals_len ok c
  unfold othersOf
  omega
mutual
theorem layS_sz {pl : Plan} (ok : PlanOk pl) : ∀ (s : St) (a b : Nat), ∀ es, es ∈ layS pl s a b → es.length ≤ 5
  | .write c v, a, b, es, he => by simp only [layS, List.mem_singleton] at he; subst he; show 1 ≤ 5; decide
  | .wait c v, a, b, es, he => by simp only [layS, List.mem_singleton] at he; subst he; show 1 ≤ 5; decide
  | .mark _, a, b, es, he => by simp only [layS, List.mem_singleton] at he; subst he; show 1 ≤ 5; decide
  | .skip, a, b, es, he => by simp only [layS, List.mem_singleton] at he; subst he; show 1 ≤ 5; decide
  | .stop, a, b, es, he => by simp only [layS, List.mem_singleton] at he; subst he; show 0 ≤ 5; decide
  | .ife c v y n, a, b, es, he => by
    simp only [layS, List.mem_cons, List.mem_append] at he
    rcases he with q | q | q
    · subst q; exact looks_len ok _ _ _ _
    · exact layR_sz ok y _ _ es q
    · exact layR_sz ok n _ _ es q
  | .whl c v x, a, b, es, he => by
    simp only [layS, List.mem_cons] at he
    rcases he with q | q
    · subst q; exact looks_len ok _ _ _ _
    · exact layR_sz ok x _ _ es q
  | .loop x, a, b, es, he => by
    simp only [layS, List.mem_cons] at he
    rcases he with q | q
    · subst q; show 1 ≤ 5; decide
    · exact layR_sz ok x _ _ es q
  | .choose y n, a, b, es, he => by
    simp only [layS, List.mem_cons, List.mem_append] at he
    rcases he with q | q | q
    · subst q; show 2 ≤ 5; decide
    · exact layR_sz ok y _ _ es q
    · exact layR_sz ok n _ _ es q
theorem layR_sz {pl : Plan} (ok : PlanOk pl) : ∀ (r : List St) (a b : Nat), ∀ es, es ∈ layR pl r a b → es.length ≤ 5
  | [], _, _, es, he => by cases he
  | s :: r, a, b, es, he => by
    simp only [layR, List.mem_append] at he
    rcases he with q | q
    · exact layS_sz ok s _ _ es q
    · exact layR_sz ok r _ _ es q
end
theorem rooms_sz {pl : Plan} (ok : PlanOk pl) {r : List St} {es : Exits} (he : es ∈ roomsM pl r) : es.length ≤ 5 := by
  unfold roomsM at he
  rcases List.mem_append.mp he with q | q
  · exact layR_sz ok r _ _ es q
  · have : es = [] := by simpa using q
    subst this; exact Nat.zero_le _
def esAt (pl : Plan) (r : List St) (i : Nat) : Exits := ((roomsM pl r)[i]?).getD []
theorem esAt_some {pl : Plan} {r : List St} {i : Nat} (h : i ≤ szs r) : (roomsM pl r)[i]? = some (esAt pl r i) := by
  unfold esAt
  have : i < (roomsM pl r).length := by rw [roomsM_len]; omega
  rw [List.getElem?_eq_getElem this]; rfl
/-- the moves of one follower after another, the first numbered n -/
def folM (pl : Plan) (r1 : List St) (st : List Str) : Nat → List Nat → List (Nat × Nat)
  | _, [] => []
  | n, r :: rs => ((openM pl st 0 (esAt pl r1 r)).map fun t => (n + 1, t.1)) ++ folM pl r1 st (n + 1) rs
theorem folM_app {pl : Plan} {r1 : List St} {st : List Str} : ∀ (a : List Nat) (r n : Nat), folM pl r1 st n (a ++ [r]) = folM pl r1 st n a ++ ((openM pl st 0 (esAt pl r1 r)).map fun t => (n + a.length + 1, t.1))
  | [], r, n => by simp [folM]
  | x :: a, r, n => by
    rw [List.cons_append]
    simp only [folM, folM_app a r, List.append_assoc, List.length_cons]
    rw [show n + 1 + a.length + 1 = n + (a.length + 1) + 1 by omega]
theorem folM_len {pl : Plan} (ok : PlanOk pl) {r1 : List St} {st : List Str} : ∀ (rs : List Nat) (n : Nat), (∀ r, r ∈ rs → r ≤ szs r1) → (folM pl r1 st n rs).length ≤ 5 * rs.length
  | [], _, _ => Nat.le_refl _
  | r :: rs, n, h => by
    have h1 := folM_len ok (r1 := r1) (st := st) rs (n + 1) fun x hx => h x (List.mem_cons_of_mem _ hx)
    have h2 := openM_len (pl := pl) (st := st) (esAt pl r1 r) 0
    have h3 := rooms_sz ok (List.mem_of_getElem? (esAt_some (pl := pl) (h r List.mem_cons_self)))
    simp only [folM, List.length_append, List.length_map, List.length_cons]
    omega
def movesM (pl : Plan) (r0 r1 : List St) (s : Spot) : List (Nat × Nat) := ((openM pl s.st 0 (esAt pl r0 s.room)).map fun t => (0, t.1)) ++ folM pl r1 s.st 0 s.rooms
structure SpotOk (pl : Plan) (r0 r1 : List St) (s : Spot) : Prop where
  room : s.room ≤ szs r0
  st : s.st.length = pl.length
  rooms : ∀ r, r ∈ s.rooms → r ≤ szs r1
  l : s.rooms.length ≤ 10
def spMoves (g : Gb) : ASp := fun ds μ P => ∃ pl ms r0 r1 s, ds = [gameD g pl r0 r1, spotD s] ∧ PlanOk pl ∧ rowOk pl ms r0 ∧ rowOk pl ms r1 ∧ szs r0 ≤ 5 ∧ szs r1 ≤ 5 ∧ SpotOk pl r0 r1 s ∧ P (.lst ((movesM pl r0 r1 s).map moveD)) μ
abbrev N_Game_moves : List Str := ["self", "standing", "room", "state", "rooms", "found", "at", "here", "number", "goal", "behind"]
abbrev V_Game_moves : List Nat := [0, 1, 2, 3, 4, 5, 6, 7]
abbrev G_Game_moves : List Str := ["enumerate"]
abbrev V_Game_moves_0 : List Nat := [8, 9, 10]
abbrev L_Game_moves_0 : List Nat := [8, 9, 10]
abbrev G_Game_moves_0 : List Str := []
abbrev O_Game_moves_0 : List (Str × Nat) := [("number", 8), ("goal", 9), ("behind", 10)]
abbrev V_Game_moves_1 : List Nat := [6, 8, 9, 10]
abbrev L_Game_moves_1 : List Nat := [8, 9, 10]
abbrev G_Game_moves_1 : List Str := []
abbrev O_Game_moves_1 : List (Str × Nat) := [("number", 8), ("goal", 9), ("behind", 10)]
theorem wk_Game_moves {g : Gb} {k : Nat} (Z : Fx g) {j : Nat} (hj : j ≤ k) (Fo : MeG g j (cl g "Game") "open_steps" (spOpen g)) : Wlk g k d_Game_moves N_Game_moves ["self", "standing"] V_Game_moves V_Game_moves G_Game_moves (spMoves g) := by
  refine ⟨⟨rfl, rfl, rfl, by decide +kernel, rfl, by decide +kernel, by decide +kernel⟩, by decide +kernel, ?_, fun X S ds μ P h => ?_⟩
  · walk_at "sp_len"
  have nn0 : N_Game_moves[0]? = some ("self" : Str) := rfl
  have nn1 : N_Game_moves[1]? = some ("standing" : Str) := rfl
  have nn2 : N_Game_moves[2]? = some ("room" : Str) := rfl
  have nn3 : N_Game_moves[3]? = some ("state" : Str) := rfl
  have nn4 : N_Game_moves[4]? = some ("rooms" : Str) := rfl
  have nn5 : N_Game_moves[5]? = some ("found" : Str) := rfl
  have nn6 : N_Game_moves[6]? = some ("at" : Str) := rfl
  have nn7 : N_Game_moves[7]? = some ("here" : Str) := rfl
  have nn8 : N_Game_moves[8]? = some ("number" : Str) := rfl
  have nn9 : N_Game_moves[9]? = some ("goal" : Str) := rfl
  have nn10 : N_Game_moves[10]? = some ("behind" : Str) := rfl
  have gg0 : G_Game_moves[0]? = some ("enumerate" : Str) := rfl
  refine wb_cons ?_
  obtain ⟨pl, ms, r0, r1, s, rfl, ok, k0, k1, z0, z1, sok, q⟩ := h
  have hes := esAt_some (pl := pl) sok.room
  have hel := rooms_sz ok (List.mem_of_getElem? hes)
  have hol := openM_len (pl := pl) (st := s.st) (esAt pl r0 s.room) 0
  walk_at "g"
  refine ws_setLcMm (vis' := V_Game_moves_0) (loc' := L_Game_moves_0) (gl' := G_Game_moves_0) (by assumption) (by with_reducible assumption) (by rfl) (by rfl) (by rfl) (by rfl) O_Game_moves_0 (by decide +kernel) (by decide +kernel) ?_
  refine wi_lst (by assumption) ?_
  refine w_meth (by assumption) Fo hj ?_
  walk_at "g"
  refine ⟨_, _, rfl, rfl, ?_⟩
  walk_at "g"
  refine ⟨pl, ms, r0, r1, 0, s.room, s.st, _, rfl, by decide, ok, k0, z0, sok.st, hes, by omega, _, rfl, ?_⟩
  refine ⟨Trip, openM pl s.st 0 (esAt pl r0 s.room), tripD, fun t => moveD (0, t.1), rfl, by omega, fun t ht p2 acc hp2 => ⟨?_, fun X' S' => ?_, fun X' S' => ?_⟩, ?_⟩
  rotate_left
  · walk_at "g"
  · walk_at "g"
    exact ⟨rfl, rfl⟩
  rintro acc hacc f hf
  cases hacc
  walk_at "g"
  refine ws_for (by assumption) ?_
  refine wi_enumT (by assumption) (by with_reducible assumption) (Fx.free (by assumption) 66 rfl) ?_
  walk_at "g"
  refine ⟨fun i ρ' m' => ∃ a6 a7 a8 a9 a10, ρ' = [some (gameD g pl r0 r1), some (spotD s), some (.int (s.room : Nat)), some (stD s.st), some (roomsD s.rooms), some (.ptr f), a6, a7, a8, a9, a10] ∧ m' = up μ f (.lst ((((openM pl s.st 0 (esAt pl r0 s.room)).map fun t : Trip => ((0, t.1) : Nat × Nat)) ++ folM pl r1 s.st 0 (s.rooms.take i)).map moveD)), ⟨_, _, _, _, _, rfl, ?_⟩, ?_, ?_⟩
  · rw [List.take_zero]
    show _ = up μ f (.lst ((((openM pl s.st 0 (esAt pl r0 s.room)).map fun t : Trip => ((0, t.1) : Nat × Nat)) ++ []).map moveD))
    rw [List.append_nil, List.map_map]; rfl
  · rintro i d ρ' m' hd ⟨a6, a7, a8, a9, a10, rfl, rfl⟩
    obtain ⟨d0, hd0, ed⟩ := numD_at hd
    subst ed
    rw [List.getElem?_map] at hd0
    cases ht : s.rooms[i]? with
    | none => rw [ht] at hd0; cases hd0
    | some r =>
      rw [ht] at hd0
      cases hd0
      have hi : i < s.rooms.length := (List.getElem?_eq_some_iff.mp ht).1
      have hes1 := esAt_some (pl := pl) (sok.rooms r (List.mem_of_getElem? ht))
      have hel1 := rooms_sz ok (List.mem_of_getElem? hes1)
      have hol1 := openM_len (pl := pl) (st := s.st) (esAt pl r1 r) 0
      have hfl := folM_len ok (r1 := r1) (st := s.st) (s.rooms.take i) 0 fun x hx => sok.rooms x (List.mem_of_mem_take hx)
      have hrl := sok.l
      rw [List.length_take] at hfl
      walk_at "g"
      refine ws_extend (by assumption) rfl ?_
      walk_at "g"
      refine ⟨⟨_, up_same⟩, ?_⟩
      refine w_lcM (vis' := V_Game_moves_1) (loc' := L_Game_moves_1) (gl' := G_Game_moves_1) (by assumption) O_Game_moves_1 (by decide +kernel) (by decide +kernel) ?_
      refine wi_lst (by assumption) ?_
      refine w_meth (by assumption) Fo hj ?_
      walk_at "g"
      refine ⟨_, _, rfl, rfl, ?_⟩
      walk_at "g"
      refine ⟨pl, ms, r0, r1, 1, r, s.st, _, rfl, by decide, ok, k1, z1, sok.st, hes1, by omega, _, rfl, ?_⟩
      refine ⟨Trip, openM pl s.st 0 (esAt pl r1 r), tripD, fun t => moveD (i + 1, t.1), rfl, by omega, fun t ht p2 acc hp2 => ⟨?_, fun X' S' => ?_, fun X' S' => ?_⟩, ?_⟩
      rotate_left
      · walk_at "g"
      · walk_at "g"
        have e0 : ((0 + i : Nat) : Int) + 1 = ((i + 1 : Nat) : Int) := by omega
        rw [e0]
        exact ⟨rfl, rfl⟩
      refine ⟨_, _, rfl, up_same, ?_, _, _, _, _, _, rfl, ?_⟩
      · rw [List.length_map, List.length_append, List.length_map, List.length_map]
        omega
      · rw [up_up, List.take_succ, ht]
        simp only [Option.toList_some]
        rw [folM_app, ← List.append_assoc, List.map_append (l₂ := List.map _ _), List.length_take, List.map_map (l := openM pl s.st 0 (esAt pl r1 r))]
        rw [show 0 + min i s.rooms.length + 1 = i + 1 by omega]
        rfl
  · rintro ρ' m' ⟨a6, a7, a8, a9, a10, rfl, rfl⟩
    rw [numD_len, List.length_map, List.take_length]
    refine wb_frz 5 rfl up_same rfl ?_
    rw [dl_up hf]
    walk_at "g"
    exact q
theorem ok_Game_moves {g : Gb} {k : Nat} (Z : Fx g) {j : Nat} (hj : j ≤ k) (Fo : MeG g j (cl g "Game") "open_steps" (spOpen g)) : MeG g (k + 1) (cl g "Game") "moves" (spMoves g) :=
  Z.me 38 163 154 rfl rfl rfl rfl rfl rfl (fun _ _ _ _ _ _ us hl => match us, hl with | [_, _], _ => rfl) (wk_Game_moves Z hj Fo)
end
set_option maxHeartbeats 4000000
section
open PySem PySem.Spec L2
/-! ### questions -/
structure Ask where
  lead : Option Str
  follows : List Str
  holds : List (Str × Str)
def askFs (q : Ask) : List D := [optS q.lead, .tupx (q.follows.map .str), .tup (q.holds.map fun h => .tup [.str h.1, .str h.2])]
def askD (g : Gb) (q : Ask) : D := .obj (cl g "Question") ["lead", "follows", "holds"] (askFs q)
def ledM (q : Ask) (r0 : List St) (room : Nat) : Bool := match q.lead with
  | none => true
  | some z => decide (markOf (preR r0)[room]? = some z)
def spIsLed (g : Gb) : ASp := fun ds μ P => ∃ pl r0 r1 q room, ds = [gameD g pl r0 r1, askD g q, .int (room : Nat)] ∧ room < szs r0 + 1 ∧ P (.bl (ledM q r0 room)) μ
abbrev N_is_led : List Str := ["game", "question", "room"]
abbrev V_is_led : List Nat := [0, 1, 2]
abbrev G_is_led : List Str := []
theorem wk_is_led {g : Gb} {k : Nat} (Z : Fx g) {j : Nat} (hj : j ≤ k) (Fm : MeG g j (cl g "Game") "machine" (spGMach g)) (Fk : MeG g j (cl g "Machine") "mark_of" (spMarkOf g)) : Wlk g k d_is_led N_is_led ["game", "question", "room"] V_is_led V_is_led G_is_led (spIsLed g) := by
  refine ⟨⟨rfl, rfl, rfl, by decide +kernel, rfl, by decide +kernel, by decide +kernel⟩, by decide +kernel, ?_, fun X S ds μ P h => ?_⟩
  · walk_at "sp_len"
  have nn0 : N_is_led[0]? = some ("game" : Str) := rfl
  have nn1 : N_is_led[1]? = some ("question" : Str) := rfl
  have nn2 : N_is_led[2]? = some ("room" : Str) := rfl
  refine wb_cons ?_
  obtain ⟨pl, r0, r1, ⟨lead, fol, hol⟩, room, rfl, hr, q⟩ := h
  walk_at "g"
  refine w_fld (by assumption) (Fx.cls (by assumption) 166 rfl) (Fx.na (by assumption) 168 rfl) (ns := ["lead", "follows", "holds"]) (i := 0) rfl ?_
  walk_at "g"
  cases lead with
  | none => exact q
  | some z =>
    rw [if_neg (by exact Bool.false_ne_true)]
    walk_at "g"
    refine w_meth (by assumption) Fk hj ?_
    refine w_meth (by assumption) Fm hj ?_
    walk_at "g"
    refine ⟨_, _, rfl, rfl, ?_⟩
    walk_at "g"
    refine ⟨pl, r0, r1, 0, rfl, by decide, _, _, rfl, rfl, ?_⟩
    walk_at "g"
    refine ⟨pl, r0, room, rfl, hr, ?_⟩
    refine w_fld (by assumption) (Fx.cls (by assumption) 166 rfl) (Fx.na (by assumption) 168 rfl) (ns := ["lead", "follows", "holds"]) (i := 0) rfl ?_
    walk_at "g"
    have e : ledM ⟨some z, fol, hol⟩ r0 room = decide (markOf (preR r0)[room]? = some z) := rfl
    rw [e] at q
    cases hm : markOf (preR r0)[room]? with
    | none =>
      rw [hm] at q
      refine ⟨_, .ns, ?_⟩
      exact q
    | some y =>
      rw [hm] at q
      refine ⟨_, .ss, ?_⟩
      have : decide (y = z) = decide (some y = some z) := decide_eq_decide.mpr ⟨fun e => by rw [e], fun e => Option.some.inj e⟩
      rw [this]
      exact q
theorem ok_is_led {g : Gb} {k : Nat} (Z : Fx g) {j : Nat} (hj : j ≤ k) (Fm : MeG g j (cl g "Game") "machine" (spGMach g)) (Fk : MeG g j (cl g "Machine") "mark_of" (spMarkOf g)) : FnG g (k + 1) "is_led" (spIsLed g) :=
  Z.fn 43 24 rfl rfl rfl rfl (fun _ _ _ _ _ _ us hl => match us, hl with | [_, _, _], _ => rfl) (wk_is_led Z hj Fm Fk)
def spMarksAt (g : Gb) : ASp := fun ds μ P => ∃ pl r0 r1 rooms, ds = [gameD g pl r0 r1, roomsD rooms] ∧ (∀ r, r ∈ rooms → r < szs r1 + 1) ∧ rooms.length ≤ 10 ∧ P (.lst (rooms.map fun r => optS (markOf (preR r1)[r]?))) μ
abbrev N_marks_at : List Str := ["game", "rooms", "room"]
abbrev V_marks_at : List Nat := [0, 1]
abbrev G_marks_at : List Str := []
abbrev V_marks_at_0 : List Nat := [0, 2]
abbrev L_marks_at_0 : List Nat := [2]
abbrev G_marks_at_0 : List Str := []
abbrev O_marks_at_0 : List (Str × Nat) := [("room", 2)]
theorem wk_marks_at {g : Gb} {k : Nat} (Z : Fx g) {j : Nat} (hj : j ≤ k) (Fm : MeG g j (cl g "Game") "machine" (spGMach g)) (Fk : MeG g j (cl g "Machine") "mark_of" (spMarkOf g)) : Wlk g k d_marks_at N_marks_at ["game", "rooms"] V_marks_at V_marks_at G_marks_at (spMarksAt g) := by
  refine ⟨⟨rfl, rfl, rfl, by decide +kernel, rfl, by decide +kernel, by decide +kernel⟩, by decide +kernel, ?_, fun X S ds μ P h => ?_⟩
  · walk_at "sp_len"
  have nn0 : N_marks_at[0]? = some ("game" : Str) := rfl
  have nn1 : N_marks_at[1]? = some ("rooms" : Str) := rfl
  have nn2 : N_marks_at[2]? = some ("room" : Str) := rfl
  refine wb_cons ?_
  obtain ⟨pl, r0, r1, rooms, rfl, hr, hl, q⟩ := h
  walk_at "g"
  refine w_lcM (vis' := V_marks_at_0) (loc' := L_marks_at_0) (gl' := G_marks_at_0) (by assumption) O_marks_at_0 (by decide +kernel) (by decide +kernel) ?_
  refine wi_tup (by assumption) ?_
  walk_at "g"
  refine ⟨Nat, rooms, fun r : Nat => .int r, fun r => optS (markOf (preR r1)[r]?), rfl, by omega, fun r hrr p2 acc hp2 => ⟨?_, fun X' S' => ?_, fun X' S' => ?_⟩, q⟩
  rotate_left
  · walk_at "g"
  · refine w_meth (by assumption) Fk hj ?_
    refine w_meth (by assumption) Fm hj ?_
    walk_at "g"
    refine ⟨_, _, rfl, rfl, ?_⟩
    walk_at "g"
    refine ⟨pl, r0, r1, 1, rfl, by decide, _, _, rfl, rfl, ?_⟩
    walk_at "g"
    exact ⟨pl, r1, r, rfl, hr r hrr, rfl, rfl⟩
theorem ok_marks_at {g : Gb} {k : Nat} (Z : Fx g) {j : Nat} (hj : j ≤ k) (Fm : MeG g j (cl g "Game") "machine" (spGMach g)) (Fk : MeG g j (cl g "Machine") "mark_of" (spMarkOf g)) : FnG g (k + 1) "marks_at" (spMarksAt g) :=
  Z.fn 45 26 rfl rfl rfl rfl (fun _ _ _ _ _ _ us hl => match us, hl with | [_, _], _ => rfl) (wk_marks_at Z hj Fm Fk)
end
set_option maxHeartbeats 4000000
section
open PySem PySem.Spec L2
def heldM (q : Ask) (pl : Plan) (st : List Str) : Bool := q.holds.all fun h => decide (st[cix pl h.1]? = some h.2)
def spIsHeld (g : Gb) : ASp := fun ds μ P => ∃ pl r0 r1 q st, ds = [gameD g pl r0 r1, askD g q, stD st] ∧ (∀ h, h ∈ q.holds → h.1 ∈ pl.map (·.1)) ∧ q.holds.length ≤ 10 ∧ st.length = pl.length ∧ P (.bl (heldM q pl st)) μ
abbrev N_is_held : List Str := ["game", "question", "state", "cell", "value"]
abbrev V_is_held : List Nat := [0, 1, 2]
abbrev G_is_held : List Str := ["all"]
abbrev V_is_held_0 : List Nat := [0, 2, 3, 4]
abbrev L_is_held_0 : List Nat := [3, 4]
abbrev G_is_held_0 : List Str := []
abbrev O_is_held_0 : List (Str × Nat) := [("cell", 3), ("value", 4)]
theorem wk_is_held {g : Gb} {k : Nat} (Z : Fx g) {j : Nat} (hj : j ≤ k) (Fb : MeG g j (cl g "Game") "board" (spGBoard g)) (Fv : MeG g j (cl g "Board") "value_at" (spValueAt g)) : Wlk g k d_is_held N_is_held ["game", "question", "state"] V_is_held V_is_held G_is_held (spIsHeld g) := by
  refine ⟨⟨rfl, rfl, rfl, by decide +kernel, rfl, by decide +kernel, by decide +kernel⟩, by decide +kernel, ?_, fun X S ds μ P h => ?_⟩
  · walk_at "sp_len"
  have nn0 : N_is_held[0]? = some ("game" : Str) := rfl
  have nn1 : N_is_held[1]? = some ("question" : Str) := rfl
  have nn2 : N_is_held[2]? = some ("state" : Str) := rfl
  have nn3 : N_is_held[3]? = some ("cell" : Str) := rfl
  have nn4 : N_is_held[4]? = some ("value" : Str) := rfl
  have gg0 : G_is_held[0]? = some ("all" : Str) := rfl
  refine wb_cons ?_
  obtain ⟨pl, r0, r1, ⟨lead, fol, hol⟩, st, rfl, hh, hl, hst, q⟩ := h
  walk_at "g"
  refine w_lcM (vis' := V_is_held_0) (loc' := L_is_held_0) (gl' := G_is_held_0) (by assumption) O_is_held_0 (by decide +kernel) (by decide +kernel) ?_
  refine wi_tup (by assumption) ?_
  refine w_fld (by assumption) (Fx.cls (by assumption) 166 rfl) (Fx.na (by assumption) 170 rfl) (ns := ["lead", "follows", "holds"]) (i := 2) rfl ?_
  walk_at "g"
  refine ⟨Str × Str, hol, fun h => .tup [.str h.1, .str h.2], fun h => .bl (decide (st[cix pl h.1]? = some h.2)), rfl, Nat.le_trans hl (by decide), fun h hm p2 acc hp2 => ⟨?_, fun X' S' => ?_, fun X' S' => ?_⟩, ?_⟩
  rotate_left
  · walk_at "g"
  · have hn := hh h hm
    obtain ⟨i1, i2, i3⟩ := ix_spec hn
    have i3' : cix pl h.1 < st.length := by rw [List.length_map] at i3; unfold cix; omega
    walk_at "e"
    refine w_meth (by assumption) Fv hj ?_
    refine w_meth0 (by assumption) Fb hj ?_
    walk_at "g"
    refine ⟨_, _, rfl, rfl, pl, r0, r1, rfl, _, _, rfl, rfl, ?_⟩
    walk_at "g"
    refine ⟨pl, st, h.1, st[cix pl h.1], rfl, hst, hn, List.getElem?_eq_getElem i3', ?_⟩
    walk_at "g"
    refine ⟨?_, rfl⟩
    show D.bl (decide (st[cix pl h.1] = h.2)) = D.bl (decide (st[cix pl h.1]? = some h.2))
    rw [List.getElem?_eq_getElem i3']
    exact congrArg D.bl (decide_eq_decide.mpr ⟨fun e => by rw [e], fun e => Option.some.inj e⟩)
  · refine ⟨hol.map fun h => decide (st[cix pl h.1]? = some h.2), by rw [List.map_map]; rfl, ?_⟩
    walk_at "g"
    rw [List.all_map]
    exact q
theorem ok_is_held {g : Gb} {k : Nat} (Z : Fx g) {j : Nat} (hj : j ≤ k) (Fb : MeG g j (cl g "Game") "board" (spGBoard g)) (Fv : MeG g j (cl g "Board") "value_at" (spValueAt g)) : FnG g (k + 1) "is_held" (spIsHeld g) :=
  Z.fn 44 25 rfl rfl rfl rfl (fun _ _ _ _ _ _ us hl => match us, hl with | [_, _, _], _ => rfl) (wk_is_held Z hj Fb Fv)
end
set_option maxHeartbeats 4000000
section
open PySem PySem.Spec L2
structure AskOk (pl : Plan) (r0 r1 : List St) (q : Ask) : Prop where
  lead : ∀ z, q.lead = some z → St.mark z ∈ preR r0
  fol : ∀ z, z ∈ q.follows → St.mark z ∈ preR r1
  fl : q.follows.length ≤ 6
  hol : ∀ h, h ∈ q.holds → CV pl h.1 h.2
  hl : q.holds.length ≤ 10
def spAskedOf (g : Gb) : ASp := fun ds μ P => ∃ pl r0 r1 q, ds = [gameD g pl r0 r1, askD g q] ∧ PlanOk pl ∧ szs r0 ≤ 20 ∧ szs r1 ≤ 20 ∧ AskOk pl r0 r1 q ∧ P .non μ
abbrev N_asked_of : List Str := ["game", "question", "known", "name", "cell", "value"]
abbrev V_asked_of : List Nat := [0, 1, 2, 3, 4, 5]
abbrev G_asked_of : List Str := ["NoMark"]
theorem wk_asked_of {g : Gb} {k : Nat} (Z : Fx g) {j : Nat} (hj : j ≤ k) (Fm : MeG g j (cl g "Game") "machine" (spGMach g)) (Fk : MeG g j (cl g "Machine") "marks" (spMarks g)) (Fb : MeG g j (cl g "Game") "board" (spGBoard g)) (Fa : MeG g j (cl g "Board") "asked" (spAsked g)) : Wlk g k d_asked_of N_asked_of ["game", "question"] V_asked_of V_asked_of G_asked_of (spAskedOf g) := by
  refine ⟨⟨rfl, rfl, rfl, by decide +kernel, rfl, by decide +kernel, by decide +kernel⟩, by decide +kernel, ?_, fun X S ds μ P h => ?_⟩
  · walk_at "sp_len"
  have nn0 : N_asked_of[0]? = some ("game" : Str) := rfl
  have nn1 : N_asked_of[1]? = some ("question" : Str) := rfl
  have nn2 : N_asked_of[2]? = some ("known" : Str) := rfl
  have nn3 : N_asked_of[3]? = some ("name" : Str) := rfl
  have nn4 : N_asked_of[4]? = some ("cell" : Str) := rfl
  have nn5 : N_asked_of[5]? = some ("value" : Str) := rfl
  have gg0 : G_asked_of[0]? = some ("NoMark" : Str) := rfl
  refine wb_cons ?_
  obtain ⟨pl, r0, r1, ⟨lead, fol, hol⟩, rfl, ok, z0, z1, aok, q⟩ := h
  refine ws_ifc (fun t m => t = false ∧ m = μ) ?_ (fun _ h => by cases h.1) ?_
  · walk_at "g"
    refine w_fld (by assumption) (Fx.cls (by assumption) 166 rfl) (Fx.na (by assumption) 168 rfl) (ns := ["lead", "follows", "holds"]) (i := 0) rfl ?_
    walk_at "g"
    cases lead with
    | none => exact ⟨rfl, rfl⟩
    | some z =>
      rw [if_pos (by exact rfl)]
      walk_at "g"
      refine w_fld (by assumption) (Fx.cls (by assumption) 166 rfl) (Fx.na (by assumption) 168 rfl) (ns := ["lead", "follows", "holds"]) (i := 0) rfl ?_
      walk_at "g"
      refine w_meth0 (by assumption) Fk hj ?_
      refine w_meth (by assumption) Fm hj ?_
      walk_at "g"
      refine ⟨_, _, rfl, rfl, ?_⟩
      walk_at "g"
      refine ⟨pl, r0, r1, 0, rfl, by decide, _, _, rfl, rfl, pl, r0, rfl, z0, fun ns nd nl hm => ?_⟩
      refine ⟨_, .l rfl fl_strs, ?_⟩
      show (!inV (scD (.str z)) ((ns.map D.str).map scD)) = false ∧ _
      rw [inV_map, decide_eq_true ((hm z).mpr (aok.lead z rfl))]
      exact ⟨rfl, rfl⟩
  rintro m ⟨_, rfl⟩
  refine wb_nil (wb_cons ?_)
  refine ws_v (by assumption) nn2 rfl ?_
  refine w_meth0 (by assumption) Fk hj ?_
  refine w_meth (by assumption) Fm hj ?_
  walk_at "g"
  refine ⟨_, _, rfl, rfl, ?_⟩
  walk_at "g"
  refine ⟨pl, r0, r1, 1, rfl, by decide, _, _, rfl, rfl, pl, r1, rfl, z1, fun ns nd nl hm => ?_⟩
  walk_at "g"
  refine ws_for (by assumption) ?_
  refine wi_tupx (by assumption) ?_
  refine w_fld (by assumption) (Fx.cls (by assumption) 166 rfl) (Fx.na (by assumption) 169 rfl) (ns := ["lead", "follows", "holds"]) (i := 1) rfl ?_
  walk_at "g"
  refine ⟨fun i ρ' m' => ∃ a3 a4 a5, ρ' = [some (gameD g pl r0 r1), some (askD g ⟨lead, fol, hol⟩), some (.lst (ns.map .str)), a3, a4, a5] ∧ m' = m, ⟨_, _, _, rfl, rfl⟩, ?_, ?_⟩
  · rintro i d ρ' m' hd ⟨a3, a4, a5, rfl, rfl⟩
    rw [List.getElem?_map] at hd
    cases ht : fol[i]? with
    | none => rw [show ({ lead := lead, follows := fol, holds := hol } : Ask).follows = fol from rfl, ht] at hd; cases hd
    | some z =>
      rw [show ({ lead := lead, follows := fol, holds := hol } : Ask).follows = fol from rfl, ht] at hd
      cases hd
      walk_at "g"
      walk_at "i"
      · exact fl_strs
      rw [inV_map, decide_eq_true ((hm z).mpr (aok.fol z (List.mem_of_getElem? ht)))]
      rw [if_neg (by exact Bool.false_ne_true)]
      exact wb_nil ⟨_, _, _, rfl, rfl⟩
  · rintro ρ' m' ⟨a3, a4, a5, rfl, rfl⟩
    walk_at "g"
    refine ws_for (by assumption) ?_
    refine wi_tup (by assumption) ?_
    refine w_fld (by assumption) (Fx.cls (by assumption) 166 rfl) (Fx.na (by assumption) 170 rfl) (ns := ["lead", "follows", "holds"]) (i := 2) rfl ?_
    walk_at "g"
    refine ⟨fun i ρ' m2 => ∃ a3 a4 a5, ρ' = [some (gameD g pl r0 r1), some (askD g ⟨lead, fol, hol⟩), some (.lst (ns.map .str)), a3, a4, a5] ∧ m2 = m', ⟨_, _, _, rfl, rfl⟩, ?_, ?_⟩
    · rintro i d ρ' m' hd ⟨a3, a4, a5, rfl, rfl⟩
      rw [List.getElem?_map] at hd
      cases ht : hol[i]? with
      | none => rw [show ({ lead := lead, follows := fol, holds := hol } : Ask).holds = hol from rfl, ht] at hd; cases hd
      | some z =>
        rw [show ({ lead := lead, follows := fol, holds := hol } : Ask).holds = hol from rfl, ht] at hd
        cases hd
        obtain ⟨vs, h1, h2⟩ := aok.hol z (List.mem_of_getElem? ht)
        walk_at "g"
        refine ws_expr ?_
        refine w_meth (by assumption) Fa hj ?_
        refine w_meth0 (by assumption) Fb hj ?_
        walk_at "g"
        refine ⟨_, _, rfl, rfl, pl, r0, r1, rfl, _, _, rfl, rfl, ?_⟩
        walk_at "g"
        exact ⟨pl, z.1, vs, z.2, rfl, ok, h1, h2, _, _, _, rfl, rfl⟩
    · rintro ρ' m' ⟨a3, a4, a5, rfl, rfl⟩
      walk_at "g"
      exact q
theorem ok_asked_of {g : Gb} {k : Nat} (Z : Fx g) {j : Nat} (hj : j ≤ k) (Fm : MeG g j (cl g "Game") "machine" (spGMach g)) (Fk : MeG g j (cl g "Machine") "marks" (spMarks g)) (Fb : MeG g j (cl g "Game") "board" (spGBoard g)) (Fa : MeG g j (cl g "Board") "asked" (spAsked g)) : FnG g (k + 1) "asked_of" (spAskedOf g) :=
  Z.fn 42 23 rfl rfl rfl rfl (fun _ _ _ _ _ _ us hl => match us, hl with | [_, _], _ => rfl) (wk_asked_of Z hj Fm Fk Fb Fa)
end
set_option maxHeartbeats 4000000
section
open PySem PySem.Spec L2
def marksD' (r1 : List St) (rooms : List Nat) : List D := rooms.map fun r => optS (markOf (preR r1)[r]?)
def folOk (q : Ask) (r1 : List St) (rooms : List Nat) : Bool := q.follows.all fun n => decide ((cntD (.str n) (q.follows.map .str) : Int) ≤ (cntD (.str n) (marksD' r1 rooms) : Nat))
def metM (q : Ask) (pl : Plan) (r0 r1 : List St) (s : Spot) : Bool := ledM q r0 s.room && (heldM q pl s.st && folOk q r1 s.rooms)
theorem fl_marks (r1 : List St) (rooms : List Nat) : (marksD' r1 rooms).all flD = true := by
  rw [List.all_eq_true]; intro d hd
  obtain ⟨t, _, e⟩ := List.mem_map.mp hd
  subst e
  cases markOf (preR r1)[t]? <;> rfl
def spMet (g : Gb) : ASp := fun ds μ P => ∃ pl r0 r1 q s, ds = [gameD g pl r0 r1, askD g q, spotD s] ∧ PlanOk pl ∧ szs r0 ≤ 20 ∧ szs r1 ≤ 20 ∧ AskOk pl r0 r1 q ∧ SpotOk pl r0 r1 s ∧ P (.bl (metM q pl r0 r1 s)) μ
abbrev N_met : List Str := ["game", "question", "standing", "room", "state", "rooms", "marks", "name"]
abbrev V_met : List Nat := [0, 1, 2, 3, 4, 5, 6]
abbrev G_met : List Str := ["asked_of", "is_led", "is_held", "marks_at", "all"]
abbrev V_met_0 : List Nat := [1, 6, 7]
abbrev L_met_0 : List Nat := [7]
abbrev G_met_0 : List Str := []
abbrev O_met_0 : List (Str × Nat) := [("name", 7)]
theorem wk_met {g : Gb} {k : Nat} (Z : Fx g) {j : Nat} (hj : j ≤ k) (Fa : FnG g j "asked_of" (spAskedOf g)) (Fl : FnG g j "is_led" (spIsLed g)) (Fh : FnG g j "is_held" (spIsHeld g)) (Fm : FnG g j "marks_at" (spMarksAt g)) : Wlk g k d_met N_met ["game", "question", "standing"] V_met V_met G_met (spMet g) := by
  refine ⟨⟨rfl, rfl, rfl, by decide +kernel, rfl, by decide +kernel, by decide +kernel⟩, by decide +kernel, ?_, fun X S ds μ P h => ?_⟩
  · walk_at "sp_len"
  have nn0 : N_met[0]? = some ("game" : Str) := rfl
  have nn1 : N_met[1]? = some ("question" : Str) := rfl
  have nn2 : N_met[2]? = some ("standing" : Str) := rfl
  have nn3 : N_met[3]? = some ("room" : Str) := rfl
  have nn4 : N_met[4]? = some ("state" : Str) := rfl
  have nn5 : N_met[5]? = some ("rooms" : Str) := rfl
  have nn6 : N_met[6]? = some ("marks" : Str) := rfl
  have nn7 : N_met[7]? = some ("name" : Str) := rfl
  have gg0 : G_met[0]? = some ("asked_of" : Str) := rfl
  have gg1 : G_met[1]? = some ("is_led" : Str) := rfl
  have gg2 : G_met[2]? = some ("is_held" : Str) := rfl
  have gg3 : G_met[3]? = some ("marks_at" : Str) := rfl
  have gg4 : G_met[4]? = some ("all" : Str) := rfl
  refine wb_cons ?_
  obtain ⟨pl, r0, r1, q, s, rfl, ok, z0, z1, aok, sok, post⟩ := h
  walk_at "g"
  refine ⟨pl, r0, r1, q, rfl, ok, z0, z1, aok, ?_⟩
  walk_at "g"
  refine ws_ifc (fun t m => t = (!(ledM q r0 s.room && heldM q pl s.st)) ∧ m = μ) ?_ ?_ ?_
  · walk_at "g"
    refine ⟨pl, r0, r1, q, s.room, rfl, by have := sok.room; omega, _, rfl, ?_⟩
    cases hl : ledM q r0 s.room with
    | false => exact ⟨rfl, rfl⟩
    | true =>
      rw [if_neg (by exact Bool.false_ne_true)]
      walk_at "g"
      refine ⟨pl, r0, r1, q, s.st, rfl, fun h hh => cv_name (aok.hol h hh), aok.hl, sok.st, _, rfl, ?_⟩
      exact ⟨by rw [Bool.true_and], rfl⟩
  · rintro m ⟨e, rfl⟩
    walk_at "g"
    have e1 : (ledM q r0 s.room && heldM q pl s.st) = false := by
      cases h : (ledM q r0 s.room && heldM q pl s.st) with
      | false => rfl
      | true => rw [h] at e; cases e
    have e2 : metM q pl r0 r1 s = false := by unfold metM; rw [← Bool.and_assoc, e1, Bool.false_and]
    rw [e2] at post
    exact post
  · rintro m ⟨e, rfl⟩
    have e1 : (ledM q r0 s.room && heldM q pl s.st) = true := by
      cases h : (ledM q r0 s.room && heldM q pl s.st) with
      | true => rfl
      | false => rw [h] at e; cases e
    have e2 : metM q pl r0 r1 s = folOk q r1 s.rooms := by unfold metM; rw [← Bool.and_assoc, e1, Bool.true_and]
    rw [e2] at post
    walk_at "g"
    refine ⟨pl, r0, r1, s.rooms, rfl, fun r hr => by have := sok.rooms r hr; omega, sok.l, ?_⟩
    walk_at "g"
    refine w_lcM (vis' := V_met_0) (loc' := L_met_0) (gl' := G_met_0) (by assumption) O_met_0 (by decide +kernel) (by decide +kernel) ?_
    refine wi_tupx (by assumption) ?_
    refine w_fld (by assumption) (Fx.cls (by assumption) 166 rfl) (Fx.na (by assumption) 169 rfl) (ns := ["lead", "follows", "holds"]) (i := 1) rfl ?_
    walk_at "g"
    refine ⟨Str, q.follows, D.str, fun n => .bl (decide ((cntD (.str n) (q.follows.map .str) : Int) ≤ (cntD (.str n) (marksD' r1 s.rooms) : Nat))), rfl, Nat.le_trans aok.fl (by decide), fun n hn p2 acc hp2 => ⟨?_, fun X' S' => ?_, fun X' S' => ?_⟩, ?_⟩
    rotate_left
    · walk_at "g"
    · refine w_cmpI op_ge ?_
      refine w_lcount (name := "count") (by assumption) rfl ?_
      walk_at "g"
      refine ⟨fl_marks r1 s.rooms, ?_⟩
      walk_at "g"
      refine ⟨rfl, ?_⟩
      refine w_tcount (name := "count") (by assumption) rfl ?_
      refine w_fld (by assumption) (Fx.cls (by assumption) 166 rfl) (Fx.na (by assumption) 169 rfl) (ns := ["lead", "follows", "holds"]) (i := 1) rfl ?_
      walk_at "g"
      refine ⟨fl_strs, ?_⟩
      walk_at "g"
      refine ⟨rfl, ?_⟩
      walk_at "g"
      exact ⟨rfl, rfl⟩
    · refine ⟨q.follows.map fun n => decide ((cntD (.str n) (q.follows.map .str) : Int) ≤ (cntD (.str n) (marksD' r1 s.rooms) : Nat)), by rw [List.map_map]; rfl, ?_⟩
      walk_at "g"
      rw [List.all_map]
      exact post
theorem ok_met {g : Gb} {k : Nat} (Z : Fx g) {j : Nat} (hj : j ≤ k) (Fa : FnG g j "asked_of" (spAskedOf g)) (Fl : FnG g j "is_led" (spIsLed g)) (Fh : FnG g j "is_held" (spIsHeld g)) (Fm : FnG g j "marks_at" (spMarksAt g)) : FnG g (k + 1) "met" (spMet g) :=
  Z.fn 46 27 rfl rfl rfl rfl (fun _ _ _ _ _ _ us hl => match us, hl with | [_, _, _], _ => rfl) (wk_met Z hj Fa Fl Fh Fm)
end
set_option maxHeartbeats 4000000
section
open PySem PySem.Spec L2
/-! ### moves, plainly -/
theorem openM_mem {pl : Plan} {st : List Str} {t : Trip} : ∀ {es : Exits} {n : Nat}, t ∈ openM pl st n es ↔ ∃ i e, es[i]? = some e ∧ behindM pl st e.1 = some t.2.2 ∧ t.1 = n + i ∧ t.2.1 = e.2
  | [], n => by simp [openM]
  | e :: es, n => by
    simp only [openM, List.mem_append, openM_mem (es := es)]
    constructor
    · rintro (h | ⟨i, e', h1, h2, h3, h4⟩)
      · cases hb : behindM pl st e.1 with
        | none => rw [hb] at h; cases h
        | some st' =>
          rw [hb] at h
          have : t = (n, e.2, st') := by simpa using h
          subst this
          exact ⟨0, e, rfl, hb, rfl, rfl⟩
      · exact ⟨i + 1, e', by simpa using h1, h2, by omega, h4⟩
    · rintro ⟨i, e', h1, h2, h3, h4⟩
      cases i with
      | zero =>
        have : e = e' := by simpa using h1
        subst this
        left
        rw [h2]
        obtain ⟨a, b, c⟩ := t
        simp at h3 h4 ⊢
        exact ⟨h3, h4⟩
      | succ i => exact .inr ⟨i, e', by simpa using h1, h2, by omega, h4⟩
theorem folM_mem {pl : Plan} {r1 : List St} {st : List Str} {m : Nat × Nat} : ∀ {rs : List Nat} {n : Nat}, m ∈ folM pl r1 st n rs ↔ ∃ h r t, rs[h]? = some r ∧ t ∈ openM pl st 0 (esAt pl r1 r) ∧ m = (n + h + 1, t.1)
  | [], n => by simp [folM]
  | r :: rs, n => by
    simp only [folM, List.mem_append, folM_mem (rs := rs), List.mem_map]
    constructor
    · rintro (⟨t, h1, h2⟩ | ⟨h, r', t, h1, h2, h3⟩)
      · exact ⟨0, r, t, rfl, h1, h2.symm⟩
      · exact ⟨h + 1, r', t, by simpa using h1, h2, by rw [h3]; congr 1; omega⟩
    · rintro ⟨h, r', t, h1, h2, h3⟩
      cases h with
      | zero =>
        have : r = r' := by simpa using h1
        subst this
        exact .inl ⟨t, h2, h3.symm⟩
      | succ h => exact .inr ⟨h, r', t, by simpa using h1, h2, by rw [h3]; congr 1; omega⟩
theorem step_es {pl : Plan} {r : List St} {i n : Nat} (h : i ≤ szs r) : stepOf pl r i n = (esAt pl r i)[n]? := by
  unfold stepOf
  rw [esAt_some h]; rfl
theorem moved_iff {pl : Plan} {r0 r1 : List St} {s : Spot} (ok : SpotOk pl r0 r1 s) {m : Nat × Nat} : m ∈ movesM pl r0 r1 s ↔ ∃ s', movedM pl r0 r1 s m.1 m.2 = some s' := by
  unfold movesM
  rw [List.mem_append, folM_mem]
  constructor
  · rintro (h | ⟨h, r, t, h1, h2, h3⟩)
    · obtain ⟨t, h1, h2⟩ := List.mem_map.mp h
      subst h2
      obtain ⟨i, e, a1, a2, a3, a4⟩ := openM_mem.mp h1
      refine ⟨⟨e.2, t.2.2, s.rooms⟩, ?_⟩
      have : t.1 = i := by omega
      simp only [movedM, step_es ok.room, this, a1, a2, Option.bind_some, Option.map_some]
    · subst h3
      obtain ⟨i, e, a1, a2, a3, a4⟩ := openM_mem.mp h2
      have : t.1 = i := by omega
      refine ⟨⟨s.room, t.2.2, s.rooms.set h e.2⟩, ?_⟩
      have hr := ok.rooms r (List.mem_of_getElem? h1)
      simp only [movedM, Nat.zero_add, h1, step_es hr, this, a1, a2, Option.bind_some, Option.map_some]
  · rintro ⟨s', h⟩
    obtain ⟨hh, n⟩ := m
    cases hh with
    | zero =>
      obtain ⟨e, h1, h2⟩ := Option.bind_eq_some_iff.mp h
      obtain ⟨st, h3, h4⟩ := Option.map_eq_some_iff.mp h2
      rw [step_es ok.room] at h1
      exact .inl (List.mem_map.mpr ⟨(n, e.2, st), openM_mem.mpr ⟨n, e, h1, h3, (Nat.zero_add n).symm, rfl⟩, rfl⟩)
    | succ hh =>
      obtain ⟨r, h0, h⟩ := Option.bind_eq_some_iff.mp h
      obtain ⟨e, h1, h2⟩ := Option.bind_eq_some_iff.mp h
      obtain ⟨st, h3, h4⟩ := Option.map_eq_some_iff.mp h2
      rw [step_es (ok.rooms r (List.mem_of_getElem? h0))] at h1
      exact .inr ⟨hh, r, (n, e.2, st), h0, openM_mem.mpr ⟨n, e, h1, h3, (Nat.zero_add n).symm, rfl⟩, by congr 1; omega⟩
/-! ### sorted rooms -/
def srt (l : List Nat) : List Nat := l.mergeSort fun a b => decide (a ≤ b)
theorem srt_perm (l : List Nat) : (srt l).Perm l := List.mergeSort_perm ..
theorem srt_pw (l : List Nat) : (srt l).Pairwise (· ≤ ·) := by
  have := List.pairwise_mergeSort (le := fun a b : Nat => decide (a ≤ b)) (fun a b c h1 h2 => by simp at *; omega) (fun a b => by simp; omega) l
  exact this.imp fun h => of_decide_eq_true h
theorem pw_eq : ∀ {a b : List Nat}, a.Perm b → a.Pairwise (· ≤ ·) → b.Pairwise (· ≤ ·) → a = b := fun h h1 h2 => List.Perm.eq_of_pairwise (fun a b _ _ x y => Nat.le_antisymm x y) h1 h2 h
theorem srt_eq {a b : List Nat} (h : a.Perm b) : srt a = srt b := pw_eq ((srt_perm a).trans (h.trans (srt_perm b).symm)) (srt_pw a) (srt_pw b)
theorem srt_len (l : List Nat) : (srt l).length = l.length := (srt_perm l).length_eq
theorem srt_mem {l : List Nat} {x : Nat} : x ∈ srt l ↔ x ∈ l := (srt_perm l).mem_iff
def ordM (s : Spot) : Spot := ⟨s.room, s.st, srt s.rooms⟩
/-- one follower more, in the first room, sorted -/
def insM (s : Spot) : Spot := ⟨s.room, s.st, srt (s.rooms ++ [0])⟩
theorem set_perm : ∀ {l : List Nat} {h r g : Nat}, l[h]? = some r → (r :: l.set h g).Perm (g :: l)
  | x :: l, 0, r, g, e => by
    have : x = r := by simpa using e
    subst this
    exact List.Perm.swap ..
  | x :: l, h + 1, r, g, e => by
    have ih := set_perm (l := l) (h := h) (g := g) (by simpa using e)
    show (r :: x :: l.set h g).Perm (g :: x :: l)
    exact (List.Perm.swap ..).trans ((List.Perm.cons x ih).trans (List.Perm.swap ..))
/-! ### what can be come to -/
inductive Reach (pl : Plan) (r0 r1 : List St) (n : Nat) : Spot → Prop
  | begin : Reach pl r0 r1 n (beginM pl n)
  | step {s s' : Spot} {h k : Nat} : Reach pl r0 r1 n s → movedM pl r0 r1 s h k = some s' → Reach pl r0 r1 n (ordM s')
/-- the standings: what the tally has found -/
structure Found (pl : Plan) (r0 r1 : List St) (n : Nat) (R : List Spot) : Prop where
  beg : beginM pl n ∈ R
  shut : ∀ s, s ∈ R → ∀ h k s', movedM pl r0 r1 s h k = some s' → ordM s' ∈ R
  come : ∀ s, s ∈ R → Reach pl r0 r1 n s
theorem ins_begin (pl : Plan) (n : Nat) : insM (beginM pl n) = beginM pl (n + 1) := by
  unfold insM beginM
  congr 1
  have e : List.replicate n 0 ++ [0] = List.replicate (n + 1) 0 := by rw [List.replicate_succ']
  simp only [e]
  refine pw_eq (srt_perm _) (srt_pw _) ?_
  exact List.pairwise_replicate.mpr (.inr (Nat.le_refl 0))
theorem ins_step {pl : Plan} {r0 r1 : List St} {s s' : Spot} {h k : Nat} (hm : movedM pl r0 r1 s h k = some s') : ∃ h' t, movedM pl r0 r1 (insM s) h' k = some t ∧ ordM t = insM (ordM s') := by
  cases h with
  | zero =>
    obtain ⟨e, h1, h2⟩ := Option.bind_eq_some_iff.mp hm
    obtain ⟨st, h3, h4⟩ := Option.map_eq_some_iff.mp h2
    subst h4
    refine ⟨0, ⟨e.2, st, srt (s.rooms ++ [0])⟩, ?_, ?_⟩
    · simp only [movedM, insM, h1, h3, Option.bind_some, Option.map_some]
    · unfold ordM insM
      congr 1
      exact srt_eq ((srt_perm _).trans ((srt_perm s.rooms).symm.append_right [0]))
  | succ h =>
    obtain ⟨r, h0, hm⟩ := Option.bind_eq_some_iff.mp hm
    obtain ⟨e, h1, h2⟩ := Option.bind_eq_some_iff.mp hm
    obtain ⟨st, h3, h4⟩ := Option.map_eq_some_iff.mp h2
    subst h4
    have hr : r ∈ srt (s.rooms ++ [0]) := srt_mem.mpr (List.mem_append_left _ (List.mem_of_getElem? h0))
    obtain ⟨h', hh'⟩ := List.mem_iff_getElem?.mp hr
    refine ⟨h' + 1, ⟨s.room, st, (srt (s.rooms ++ [0])).set h' e.2⟩, ?_, ?_⟩
    · simp only [movedM, insM, hh', h1, h3, Option.bind_some, Option.map_some]
    · unfold ordM insM
      congr 1
      refine srt_eq (List.Perm.trans ?_ ((srt_perm _).symm.append_right [0]))
      have p1 := set_perm (g := e.2) hh'
      have p2 : (r :: (s.rooms.set h e.2 ++ [0])).Perm (e.2 :: (s.rooms ++ [0])) := (set_perm (g := e.2) h0).append_right [0]
      exact List.Perm.cons_inv (p1.trans ((List.Perm.cons _ (srt_perm _)).trans p2.symm))
theorem ins_found {pl : Plan} {r0 r1 : List St} {n : Nat} {R : List Spot} (F : Found pl r0 r1 (n + 1) R) {s : Spot} (h : Reach pl r0 r1 n s) : insM s ∈ R := by
  induction h with
  | begin => rw [ins_begin]; exact F.beg
  | step _ hm ih =>
    obtain ⟨h', t, h1, h2⟩ := ins_step hm
    rw [← h2]
    exact F.shut _ ih _ _ _ h1
/-! ### played -/
def more (s : Spot) : Spot := ⟨s.room, s.st, s.rooms ++ [0]⟩
theorem moved_more {pl : Plan} {r0 r1 : List St} {s s' : Spot} {h k : Nat} (hm : movedM pl r0 r1 s h k = some s') : movedM pl r0 r1 (more s) h k = some (more s') := by
  cases h with
  | zero =>
    obtain ⟨e, h1, h2⟩ := Option.bind_eq_some_iff.mp hm
    obtain ⟨st, h3, h4⟩ := Option.map_eq_some_iff.mp h2
    subst h4
    simp only [movedM, more, h1, h3, Option.bind_some, Option.map_some]
  | succ h =>
    obtain ⟨r, h0, hm⟩ := Option.bind_eq_some_iff.mp hm
    obtain ⟨e, h1, h2⟩ := Option.bind_eq_some_iff.mp hm
    obtain ⟨st, h3, h4⟩ := Option.map_eq_some_iff.mp h2
    subst h4
    have hl := (List.getElem?_eq_some_iff.mp h0).1
    have e0 : (s.rooms ++ [0])[h]? = some r := by rw [List.getElem?_append_left hl]; exact h0
    have e1 : (s.rooms ++ [0]).set h e.2 = s.rooms.set h e.2 ++ [0] := List.set_append_left _ _ hl
    simp only [movedM, more, e0, h1, h3, Option.bind_some, Option.map_some, e1]
theorem play_more {pl : Plan} {r0 r1 : List St} : ∀ {ms : List (Nat × Nat)} {s s' : Spot}, playM pl r0 r1 s ms = some s' → playM pl r0 r1 (more s) ms = some (more s')
  | [], s, s', h => by cases h; rfl
  | m :: ms, s, s', h => by
    obtain ⟨t, h1, h2⟩ := Option.bind_eq_some_iff.mp h
    simp only [playM, moved_more h1, Option.bind_some]
    exact play_more h2
theorem more_begin (pl : Plan) (n : Nat) : more (beginM pl n) = beginM pl (n + 1) := by
  unfold more beginM
  rw [← List.replicate_succ']
theorem play_begin {pl : Plan} {r0 r1 : List St} {n : Nat} {ms : List (Nat × Nat)} {s : Spot} (h : playM pl r0 r1 (beginM pl n) ms = some s) : playM pl r0 r1 (beginM pl (n + 1)) ms = some (more s) := by
  rw [← more_begin]; exact play_more h
theorem play_app {pl : Plan} {r0 r1 : List St} : ∀ {ms : List (Nat × Nat)} {s t : Spot} {m : Nat × Nat} {s' : Spot}, playM pl r0 r1 s ms = some t → movedM pl r0 r1 t m.1 m.2 = some s' → playM pl r0 r1 s (ms ++ [m]) = some s'
  | [], s, t, m, s', h, hm => by cases h; simp only [List.nil_append, playM, hm, Option.bind_some]
  | x :: ms, s, t, m, s', h, hm => by
    obtain ⟨u, h1, h2⟩ := Option.bind_eq_some_iff.mp h
    simp only [List.cons_append, playM, h1, Option.bind_some]
    exact play_app h2 hm
/-! ### met -/
theorem cnt_le {x : D} {a b : List D} (h : ∀ z, (a.map scD).countP z ≤ (b.map scD).countP z) : cntD x a ≤ cntD x b := h _
theorem met_ins {q : Ask} {pl : Plan} {r0 r1 : List St} {s : Spot} (h : metM q pl r0 r1 s = true) : metM q pl r0 r1 (insM s) = true := by
  unfold metM at h ⊢
  rw [Bool.and_eq_true, Bool.and_eq_true] at h ⊢
  refine ⟨h.1, h.2.1, ?_⟩
  have h3 := h.2.2
  unfold folOk at h3 ⊢
  rw [List.all_eq_true] at h3 ⊢
  intro n hn
  have h4 := of_decide_eq_true (h3 n hn)
  refine decide_eq_true ?_
  have h5 : cntD (.str n) (marksD' r1 s.rooms) ≤ cntD (.str n) (marksD' r1 (insM s).rooms) := by
    unfold cntD marksD'
    have pm : ((((insM s).rooms.map fun r => optS (markOf (preR r1)[r]?))).map scD).Perm (((s.rooms ++ [0]).map fun r => optS (markOf (preR r1)[r]?)).map scD) := ((srt_perm (s.rooms ++ [0])).map _).map _
    rw [pm.countP_eq, List.map_append, List.map_append, List.countP_append]
    exact Nat.le_add_right ..
  omega
end
set_option maxHeartbeats 4000000
section
open PySem PySem.Spec L2
instance spotDec : DecidableEq Spot := fun x y => if h : x.room = y.room ∧ x.st = y.st ∧ x.rooms = y.rooms then .isTrue (by cases x; cases y; obtain ⟨h1, h2, h3⟩ := h; cases h1; cases h2; cases h3; rfl) else .isFalse (fun e => h (by subst e; exact ⟨rfl, rfl, rfl⟩))
theorem nodup_le {α : Type} [DecidableEq α] : ∀ (l L : List α), l.Nodup → (∀ x, x ∈ l → x ∈ L) → l.length ≤ L.length
  | [], _, _, _ => Nat.zero_le _
  | x :: l, L, hn, hs => by
    obtain ⟨h1, h2⟩ := List.nodup_cons.mp hn
    have hx := hs x (List.mem_cons_self ..)
    have ih := nodup_le l (L.erase x) h2 fun y hy => by
      have hne : y ≠ x := fun e => h1 (e ▸ hy)
      exact (List.mem_erase_of_ne hne).2 (hs y (List.mem_cons_of_mem _ hy))
    have e := List.length_erase_of_mem hx
    have hp : 0 < L.length := List.length_pos_of_mem hx
    rw [List.length_cons]
    omega
def prods : List (List Str) → List (List Str)
  | [] => [[]]
  | vs :: r => vs.flatMap fun v => (prods r).map (v :: ·)
theorem prods_mem : ∀ {ls : List (List Str)} {st : List Str}, st ∈ prods ls ↔ st.length = ls.length ∧ ∀ (i : Nat) v vs, st[i]? = some v → ls[i]? = some vs → v ∈ vs
  | [], st => by
    simp only [prods, List.mem_singleton, List.length_nil]
    constructor
    · rintro rfl; exact ⟨rfl, fun i v vs h => by cases h⟩
    · rintro ⟨h, _⟩; exact List.length_eq_zero_iff.mp h
  | ws :: r, st => by
    simp only [prods, List.mem_flatMap, List.mem_map]
    constructor
    · rintro ⟨v, hv, t, ht, rfl⟩
      obtain ⟨h1, h2⟩ := prods_mem.mp ht
      refine ⟨by simp [h1], fun i u vs a b => ?_⟩
      cases i with
      | zero =>
        have e1 : v = u := by simpa using a
        have e2 : ws = vs := by simpa using b
        subst e1; subst e2; exact hv
      | succ i => exact h2 i u vs (by simpa using a) (by simpa using b)
    · rintro ⟨h1, h2⟩
      cases st with
      | nil => simp at h1
      | cons v t => exact ⟨v, h2 0 v ws rfl rfl, t, prods_mem.mpr ⟨by simpa using h1, fun i u vs a b => h2 (i + 1) u vs (by simpa using a) (by simpa using b)⟩, rfl⟩
theorem flat_len {α β : Type} {f : α → List β} {b : Nat} : ∀ {l : List α}, (∀ x, x ∈ l → (f x).length ≤ b) → (l.flatMap f).length ≤ l.length * b
  | [], _ => by simp
  | x :: l, h => by
    have h1 := h x (List.mem_cons_self ..)
    have h2 := flat_len (l := l) fun y hy => h y (List.mem_cons_of_mem _ hy)
    rw [List.flatMap_cons, List.length_append, List.length_cons, Nat.succ_mul]
    omega
theorem prods_le : ∀ {ls : List (List Str)}, (∀ vs, vs ∈ ls → vs.length ≤ 3) → (prods ls).length ≤ 3 ^ ls.length
  | [], _ => Nat.le_refl _
  | vs :: r, h => by
    have ih := prods_le (ls := r) fun x hx => h x (List.mem_cons_of_mem _ hx)
    have h1 := h vs (List.mem_cons_self ..)
    have h2 := flat_len (f := fun v => (prods r).map (v :: ·)) (b := 3 ^ r.length) (l := vs) fun x _ => by rw [List.length_map]; exact ih
    simp only [prods, List.length_cons]
    rw [Nat.pow_succ, Nat.mul_comm (3 ^ r.length) 3]
    exact Nat.le_trans h2 (Nat.mul_le_mul_right _ h1)
def sl (n : Nat) : List (List Nat) := (List.range (n + 1)).flatMap fun a => (List.range (n + 1)).map fun b => List.replicate a 0 ++ (List.replicate b 1 ++ List.replicate (n - a - b) 2)
def slT (n : Nat) : List (List Nat) := (List.range (n + 1)).flatMap fun a => (List.range (n + 1 - a)).map fun b => List.replicate a 0 ++ (List.replicate b 1 ++ List.replicate (n - a - b) 2)
theorem sl_shape : ∀ {l : List Nat}, l.Pairwise (· ≤ ·) → (∀ x, x ∈ l → x ≤ 2) → ∃ a b c, l = List.replicate a 0 ++ (List.replicate b 1 ++ List.replicate c 2)
  | [], _, _ => ⟨0, 0, 0, rfl⟩
  | x :: l, h, h2 => by
    obtain ⟨p1, p2⟩ := List.pairwise_cons.mp h
    obtain ⟨a, b, c, e⟩ := sl_shape p2 fun y hy => h2 y (List.mem_cons_of_mem _ hy)
    have hx := h2 x (List.mem_cons_self ..)
    have hx3 : x = 0 ∨ x = 1 ∨ x = 2 := by omega
    rcases hx3 with q | q | q
    · subst q; exact ⟨a + 1, b, c, by rw [e]; rfl⟩
    · subst q
      have ha : a = 0 := by
        cases a with
        | zero => rfl
        | succ a => have := p1 0 (by rw [e]; simp [List.replicate_succ]); omega
      subst ha
      exact ⟨0, b + 1, c, by rw [e]; rfl⟩
    · subst q
      have ha : a = 0 := by
        cases a with
        | zero => rfl
        | succ a => have := p1 0 (by rw [e]; simp [List.replicate_succ]); omega
      have hb : b = 0 := by
        cases b with
        | zero => rfl
        | succ b => have := p1 1 (by rw [e]; simp [List.replicate_succ]); omega
      subst ha; subst hb
      exact ⟨0, 0, c + 1, by rw [e]; rfl⟩
theorem slT_mem {l : List Nat} {n : Nat} (h : l.Pairwise (· ≤ ·)) (h2 : ∀ x, x ∈ l → x ≤ 2) (hl : l.length = n) : l ∈ slT n := by
  obtain ⟨a, b, c, e⟩ := sl_shape h h2
  have hn : a + (b + c) = n := by rw [← hl, e]; simp
  refine List.mem_flatMap.mpr ⟨a, List.mem_range.mpr (by omega), List.mem_map.mpr ⟨b, List.mem_range.mpr (by omega), ?_⟩⟩
  rw [e, show n - a - b = c by omega]
theorem slT_len {n : Nat} (h : n ≤ 4) : (slT n).length ≤ 15 := by
  have : n = 0 ∨ n = 1 ∨ n = 2 ∨ n = 3 ∨ n = 4 := by omega
  rcases this with e | e | e | e | e <;> subst e <;> decide
def allSp (pl : Plan) (n : Nat) : List Spot := (List.range 4).flatMap fun room => (prods (pl.map (·.2))).flatMap fun st => (slT n).map fun rs => ⟨room, st, rs⟩
theorem allSp_len {pl : Plan} (ok : PlanOk pl) {n : Nat} (h : n ≤ 4) : (allSp pl n).length ≤ 540 := by
  have h1 : (prods (pl.map (·.2))).length ≤ 9 := by
    have := prods_le (ls := pl.map (·.2)) fun vs hvs => by
      obtain ⟨c, hc, e⟩ := List.mem_map.mp hvs
      subst e; exact (ok.ok c hc).l3
    rw [List.length_map] at this
    have l2 := ok.l2
    have : 3 ^ pl.length ≤ 3 ^ 2 := Nat.pow_le_pow_right (by decide) l2
    omega
  have h2 := slT_len h
  have h3 : ∀ room : Nat, ((prods (pl.map (·.2))).flatMap fun st => (slT n).map fun rs => (⟨room, st, rs⟩ : Spot)).length ≤ 135 := fun room => by
    have := flat_len (f := fun st => (slT n).map fun rs => (⟨room, st, rs⟩ : Spot)) (b := 15) (l := prods (pl.map (·.2))) fun x _ => by rw [List.length_map]; exact h2
    have : (prods (pl.map (·.2))).length * 15 ≤ 9 * 15 := Nat.mul_le_mul_right _ h1
    omega
  have := flat_len (f := fun room => (prods (pl.map (·.2))).flatMap fun st => (slT n).map fun rs => (⟨room, st, rs⟩ : Spot)) (b := 135) (l := List.range 4) fun x _ => h3 x
  rw [List.length_range] at this
  exact this
structure RchOk (pl : Plan) (r0 r1 : List St) (n : Nat) (s : Spot) : Prop where
  room : s.room ≤ szs r0
  st : s.st ∈ prods (pl.map (·.2))
  l : s.rooms.length = n
  rooms : ∀ r, r ∈ s.rooms → r ≤ szs r1
  pw : s.rooms.Pairwise (· ≤ ·)
theorem RchOk.stl {pl : Plan} {r0 r1 : List St} {n : Nat} {s : Spot} (h : RchOk pl r0 r1 n s) : s.st.length = pl.length := by
  have := (prods_mem.mp h.st).1; rwa [List.length_map] at this
theorem RchOk.spot {pl : Plan} {r0 r1 : List St} {n : Nat} {s : Spot} (h : RchOk pl r0 r1 n s) (hn : n ≤ 10) : SpotOk pl r0 r1 s := ⟨h.room, h.stl, h.rooms, by rw [h.l]; exact hn⟩
theorem cix_at {pl : Plan} (nd : (pl.map (·.1)).Nodup) {c : Str} {vs : List Str} (h : (c, vs) ∈ pl) : (pl.map (·.2))[cix pl c]? = some vs := by
  obtain ⟨i, hi⟩ := List.mem_iff_getElem?.mp h
  have h1 : (pl.map (·.1))[i]? = some c := by rw [List.getElem?_map, hi]; rfl
  have hc : c ∈ pl.map (·.1) := List.mem_of_getElem? h1
  have h2 : (pl.map (·.1))[cix pl c]? = some c := by
    unfold cix
    rw [List.getElem?_eq_getElem (List.idxOf_lt_length_iff.mpr hc)]
    exact congrArg some (List.getElem_idxOf _)
  have e : cix pl c = i := (List.getElem?_inj (List.getElem?_eq_some_iff.mp h2).1 nd).mp (h2.trans h1.symm)
  rw [e, List.getElem?_map, hi]; rfl
theorem behind_in {pl : Plan} (ok : PlanOk pl) {st st' : List Str} {a : Act} (h : st ∈ prods (pl.map (·.2))) (aok : actOk pl a) (hb : behindM pl st a = some st') : st' ∈ prods (pl.map (·.2)) := by
  cases a with
  | go => cases hb; exact h
  | look c v =>
    simp only [behindM] at hb
    split at hb
    · cases hb; exact h
    · cases hb
  | put c v =>
    have e : st' = st.set (cix pl c) v := (Option.some.inj hb).symm
    subst e
    obtain ⟨vs, h1, h2⟩ := aok
    obtain ⟨h3, h4⟩ := prods_mem.mp h
    refine prods_mem.mpr ⟨by rw [List.length_set]; exact h3, fun i u ws a b => ?_⟩
    by_cases hi : cix pl c = i
    · subst hi
      have hlt : cix pl c < st.length := by have := (List.getElem?_eq_some_iff.mp a).1; rwa [List.length_set] at this
      rw [List.getElem?_set_self hlt] at a
      rw [cix_at ok.nd h1] at b
      have e1 : v = u := Option.some.inj a
      have e2 : vs = ws := Option.some.inj b
      subst e1; subst e2; exact h2
    · rw [List.getElem?_set_ne hi] at a
      exact h4 i u ws a b
theorem moved_ok {pl : Plan} {ms : List Str} {r0 r1 : List St} (ok : PlanOk pl) (k0 : rowOk pl ms r0) (k1 : rowOk pl ms r1) {s s' : Spot} {h k : Nat} (hm : movedM pl r0 r1 s h k = some s') (h1 : s.room ≤ szs r0) (h2 : s.st ∈ prods (pl.map (·.2))) (h3 : ∀ r, r ∈ s.rooms → r ≤ szs r1) :
    s'.room ≤ szs r0 ∧ s'.st ∈ prods (pl.map (·.2)) ∧ s'.rooms.length = s.rooms.length ∧ ∀ r, r ∈ s'.rooms → r ≤ szs r1 := by
  cases h with
  | zero =>
    obtain ⟨e, a1, a2⟩ := Option.bind_eq_some_iff.mp hm
    obtain ⟨st, a3, a4⟩ := Option.map_eq_some_iff.mp a2
    subst a4
    obtain ⟨b1, b2⟩ := step_ok ok k0 a1
    exact ⟨b2, behind_in ok h2 b1 a3, rfl, h3⟩
  | succ h =>
    obtain ⟨r, a0, hm⟩ := Option.bind_eq_some_iff.mp hm
    obtain ⟨e, a1, a2⟩ := Option.bind_eq_some_iff.mp hm
    obtain ⟨st, a3, a4⟩ := Option.map_eq_some_iff.mp a2
    subst a4
    obtain ⟨b1, b2⟩ := step_ok ok k1 a1
    refine ⟨h1, behind_in ok h2 b1 a3, List.length_set .., fun x hx => ?_⟩
    rcases List.mem_or_eq_of_mem_set hx with z | z
    · exact h3 x z
    · rw [z]; exact b2
theorem first_in {pl : Plan} (ok : PlanOk pl) : firstOf pl ∈ prods (pl.map (·.2)) := by
  refine prods_mem.mpr ⟨by unfold firstOf; rw [List.length_map, List.length_map], fun i v vs a b => ?_⟩
  unfold firstOf at a
  rw [List.getElem?_map] at a b
  cases hp : pl[i]? with
  | none => rw [hp] at a; cases a
  | some c =>
    rw [hp] at a b
    have e1 : c.2.headD (Str.ofString "") = v := Option.some.inj a
    have e2 : c.2 = vs := Option.some.inj b
    subst e1; subst e2
    have := (ok.ok c (List.mem_of_getElem? hp)).l2
    cases hc : c.2 with
    | nil => rw [hc] at this; simp at this
    | cons x r => exact List.mem_cons_self ..
theorem reach_ok {pl : Plan} {ms : List Str} {r0 r1 : List St} (ok : PlanOk pl) (k0 : rowOk pl ms r0) (k1 : rowOk pl ms r1) {n : Nat} {s : Spot} (h : Reach pl r0 r1 n s) : RchOk pl r0 r1 n s := by
  induction h with
  | begin => exact ⟨Nat.zero_le _, first_in ok, List.length_replicate, fun r hr => by rw [List.eq_of_mem_replicate hr]; exact Nat.zero_le _, List.pairwise_replicate.mpr (.inr (Nat.le_refl 0))⟩
  | step _ hm ih =>
    obtain ⟨a, b, c, d⟩ := moved_ok ok k0 k1 hm ih.room ih.st ih.rooms
    exact ⟨a, b, by show (srt _).length = _; rw [srt_len, c]; exact ih.l, fun r hr => d r (srt_mem.mp hr), srt_pw _⟩
theorem rch_all {pl : Plan} {r0 r1 : List St} {n : Nat} {s : Spot} (h : RchOk pl r0 r1 n s) (z0 : szs r0 ≤ 3) (z1 : szs r1 ≤ 2) : s ∈ allSp pl n := by
  have hr := h.room
  exact List.mem_flatMap.mpr ⟨s.room, List.mem_range.mpr (by omega), List.mem_flatMap.mpr ⟨s.st, h.st, List.mem_map.mpr ⟨s.rooms, slT_mem h.pw (fun x hx => Nat.le_trans (h.rooms x hx) z1) h.l, rfl⟩⟩⟩
/-- no more than these are found -/
theorem found_len {pl : Plan} {ms : List Str} {r0 r1 : List St} (ok : PlanOk pl) (k0 : rowOk pl ms r0) (k1 : rowOk pl ms r1) (z0 : szs r0 ≤ 3) (z1 : szs r1 ≤ 2) {n : Nat} (hn : n ≤ 4) {R : List Spot} (nd : R.Nodup) (h : ∀ s, s ∈ R → Reach pl r0 r1 n s) : R.length ≤ 540 :=
  Nat.le_trans (nodup_le R _ nd fun s hs => rch_all (reach_ok ok k0 k1 (h s hs)) z0 z1) (allSp_len ok hn)
end
set_option maxHeartbeats 4000000
section
open PySem PySem.Spec L2
def holdD (h : Str × Str) : D := .tup [.str h.1, .str h.2]
structure QOk (q : Ask) : Prop where
  lead : ∀ z, q.lead = some z → OkN z
  fl : q.follows.length ≤ 6
  fol : ∀ z, z ∈ q.follows → OkN z
  hl : q.holds.length ≤ 10
  hol : ∀ h, h ∈ q.holds → OkN h.1 ∧ OkN h.2
  nd : (q.holds.map (·.1)).Nodup
def spQI (g : Gb) : ASp := fun ds μ P => ∃ a q, ds = [.ptr a, optS q.lead, .lst (q.follows.map .str), .lst (q.holds.map holdD)] ∧ μ a = some (.ins (cl g "Question") [] []) ∧ QOk q ∧ P .non (up μ a (.ins (cl g "Question") ["lead", "follows", "holds"] (askFs q)))
abbrev N_Question_init : List Str := ["self", "lead", "follows", "holds", "cell", "value"]
abbrev V_Question_init : List Nat := [0, 1, 2, 3, 4, 5]
abbrev G_Question_init : List Str := ["list", "len", "MOST_FOLLOWS", "BadCount", "asked_names", "asked_once", "tuple"]
abbrev V_Question_init_0 : List Nat := [4, 5]
abbrev L_Question_init_0 : List Nat := [4, 5]
abbrev G_Question_init_0 : List Str := []
abbrev O_Question_init_0 : List (Str × Nat) := [("cell", 4), ("value", 5)]
theorem wk_Question_init {g : Gb} {k : Nat} (Z : Fx g) {j : Nat} (hj : j ≤ k) (Fn : FnG g j "asked_names" spAskedNames) (Fo : FnG g j "asked_once" spAskedOnce) : Wlk g k d_Question_init N_Question_init ["self", "lead", "follows", "holds"] V_Question_init V_Question_init G_Question_init (spQI g) := by
  refine ⟨⟨rfl, rfl, rfl, by decide +kernel, rfl, by decide +kernel, by decide +kernel⟩, by decide +kernel, ?_, fun X S ds μ P h => ?_⟩
  · walk_at "sp_len"
  have nn0 : N_Question_init[0]? = some ("self" : Str) := rfl
  have nn1 : N_Question_init[1]? = some ("lead" : Str) := rfl
  have nn2 : N_Question_init[2]? = some ("follows" : Str) := rfl
  have nn3 : N_Question_init[3]? = some ("holds" : Str) := rfl
  have nn4 : N_Question_init[4]? = some ("cell" : Str) := rfl
  have nn5 : N_Question_init[5]? = some ("value" : Str) := rfl
  have gg0 : G_Question_init[0]? = some ("list" : Str) := rfl
  have gg1 : G_Question_init[1]? = some ("len" : Str) := rfl
  have gg2 : G_Question_init[2]? = some ("MOST_FOLLOWS" : Str) := rfl
  have gg3 : G_Question_init[3]? = some ("BadCount" : Str) := rfl
  have gg4 : G_Question_init[4]? = some ("asked_names" : Str) := rfl
  have gg5 : G_Question_init[5]? = some ("asked_once" : Str) := rfl
  have gg6 : G_Question_init[6]? = some ("tuple" : Str) := rfl
  have gm2 : ∃ t, g.mg "MOST_FOLLOWS" = some (.int 6 t) := Z.int 85
  refine wb_cons ?_
  obtain ⟨a, ⟨lead, fol, hol⟩, rfl, ha, ok, q⟩ := h
  have okfl : fol.length ≤ 6 := ok.fl
  have okhl : hol.length ≤ 10 := ok.hl
  refine ws_v (by assumption) (by with_reducible assumption) rfl ?_
  refine w_listOf (by assumption) _ (by with_reducible assumption) (Fx.free (by assumption) 70 rfl) ?_
  refine W.mono (P := fun d m => d = D.lst (fol.map .str) ∧ m = μ) (w_orL (by assumption) ?_) ?_
  · walk_at "g"
    refine ⟨fun _ => ⟨rfl, rfl⟩, fun he => ?_⟩
    walk_at "g"
    rw [he]
    exact ⟨rfl, rfl⟩
  rintro d m ⟨rfl, rfl⟩
  refine ⟨_, .inl rfl, ?_⟩
  refine wb_cons ?_
  refine ws_v (by assumption) (by with_reducible assumption) rfl ?_
  refine w_listOf (by assumption) _ (by with_reducible assumption) (Fx.free (by assumption) 70 rfl) ?_
  refine W.mono (P := fun d m' => d = D.lst (hol.map holdD) ∧ m' = m) (w_orL (by assumption) ?_) ?_
  · walk_at "g"
    refine ⟨fun _ => ⟨rfl, rfl⟩, fun he => ?_⟩
    walk_at "g"
    rw [he]
    exact ⟨rfl, rfl⟩
  rintro d m' ⟨rfl, rfl⟩
  refine ⟨_, .inl rfl, ?_⟩
  walk_at "g"
  refine ws_ifc (fun t m => t = false ∧ m = m') ?_ (fun _ h => by cases h.1) ?_
  · walk_at "g"
    exact ⟨decide_eq_false (by rw [List.length_map]; omega), rfl⟩
  rintro m1 ⟨_, rfl⟩
  walk_at "g"
  refine ws_join (fun ρ' m => ρ' = [some (.ptr a), some (optS lead), some (.lst (fol.map .str)), some (.lst (hol.map holdD)), none, none] ∧ m = m1) ?_ ?_
  · walk_at "i"
    cases lead with
    | none =>
      rw [if_neg (by exact Bool.false_ne_true)]
      walk_at "g"
      exact ⟨rfl, rfl⟩
    | some z =>
      rw [if_pos (by rfl)]
      walk_at "g"
      refine ⟨[z], rfl, by show 1 ≤ 1000; decide, fun t ht => ?_, ?_⟩
      · have : t = z := by simpa using ht
        subst this; exact ok.lead _ rfl
      · exact ⟨rfl, rfl⟩
  rintro _ m2 ⟨rfl, rfl⟩
  walk_at "g"
  refine ⟨fol, rfl, by omega, ok.fol, ?_⟩
  walk_at "g"
  refine ws_for (by assumption) ?_
  refine wi_lst (by assumption) ?_
  walk_at "g"
  refine ⟨fun i ρ' m => ∃ a4 a5, ρ' = [some (.ptr a), some (optS lead), some (.lst (fol.map .str)), some (.lst (hol.map holdD)), a4, a5] ∧ m = m2, ⟨_, _, rfl, rfl⟩, ?_, ?_⟩
  · rintro i d ρ' m hd ⟨a4, a5, rfl, rfl⟩
    rw [List.getElem?_map] at hd
    cases hh : hol[i]? with
    | none => rw [hh] at hd; cases hd
    | some h =>
      rw [hh] at hd
      cases hd
      obtain ⟨o1, o2⟩ := ok.hol h (List.mem_of_getElem? hh)
      walk_at "g"
      refine ⟨[h.1, h.2], rfl, by show 2 ≤ 1000; decide, fun t ht => ?_, ?_⟩
      · rcases List.mem_cons.mp ht with e | e
        · subst e; exact o1
        · have : t = h.2 := by simpa using e
          subst this; exact o2
      · exact ⟨_, _, rfl, rfl⟩
  · rintro ρ' m ⟨a4, a5, rfl, rfl⟩
    walk_at "g"
    refine w_lcM (vis' := V_Question_init_0) (loc' := L_Question_init_0) (gl' := G_Question_init_0) (by assumption) O_Question_init_0 (by decide +kernel) (by decide +kernel) ?_
    refine wi_lst (by assumption) ?_
    walk_at "g"
    refine ⟨Str × Str, hol, holdD, fun h => .str h.1, rfl, by omega, fun h hh p2 acc hp2 => ⟨?_, fun X' S' => ?_, fun X' S' => ?_⟩, ?_⟩
    rotate_left
    · walk_at "g"
    · walk_at "g"
    walk_at "g"
    refine ⟨hol.map (·.1), by rw [List.map_map]; rfl, by rw [List.length_map]; omega, ok.nd, ?_⟩
    walk_at "g"
    refine ws_fld (by assumption) (Fx.cls (by assumption) 166 rfl) (Fx.na (by assumption) 168 rfl) (ns := []) (ds := []) rfl (by decide) ?_
    walk_at "g"
    refine ⟨a, _, rfl, ha, ?_⟩
    walk_at "g"
    refine ws_fld (by assumption) (Fx.cls (by assumption) 166 rfl) (Fx.na (by assumption) 169 rfl) (ns := ["lead"]) (ds := []) rfl (by decide) ?_
    refine w_tupOf (by assumption) _ (by with_reducible assumption) (Fx.free (by assumption) 77 rfl) ?_
    walk_at "g"
    refine ⟨a, _, rfl, up_same, ?_⟩
    rw [up_up]
    walk_at "g"
    refine ws_fld (by assumption) (Fx.cls (by assumption) 166 rfl) (Fx.na (by assumption) 170 rfl) (ns := ["lead", "follows"]) (ds := []) rfl (by decide) ?_
    refine w_tupOfP (by assumption) _ (by with_reducible assumption) (Fx.free (by assumption) 77 rfl) ?_
    walk_at "g"
    refine ⟨a, _, rfl, up_same, ?_⟩
    rw [up_up]
    exact q
theorem ok_Question_mk {g : Gb} {k : Nat} (Z : Fx g) {j : Nat} (hj : j ≤ k) (Fn : FnG g j "asked_names" spAskedNames) (Fo : FnG g j "asked_once" spAskedOnce) : MkG g (k + 1) "Question" (cl g "Question") (spQI g) :=
  Z.mkGD 41 167 22 rfl rfl rfl rfl rfl (fun z => by cases z) (fun _ _ _ _ _ _ _ us its h1 h2 => match us, its, h1, h2 with | [_, _, _, _], [_, _, _], _, _ => ⟨_, rfl, rfl⟩) (wk_Question_init Z hj Fn Fo)
end
set_option maxHeartbeats 4000000
section
open PySem PySem.Spec L2
theorem srt_ints {rs : List Nat} {ys : List Int} (pm : ys.Perm (rs.map fun r : Nat => (r : Int))) (pw : ys.Pairwise (· ≤ ·)) : ys = (srt rs).map fun r : Nat => (r : Int) := by
  have p2 : ys.Perm ((srt rs).map fun r : Nat => (r : Int)) := pm.trans ((srt_perm rs).symm.map _)
  refine List.Perm.eq_of_pairwise (fun a b _ _ x y => Int.le_antisymm x y) pw ?_ p2
  exact List.pairwise_map.mpr ((srt_pw rs).imp fun h => Int.ofNat_le.mpr h)
theorem rooms_ints (rs : List Nat) : roomsD rs = .tup ((rs.map fun r : Nat => (r : Int)).map .int) := by unfold roomsD; rw [List.map_map]; rfl
def spInOrder : ASp := fun ds μ P => ∃ s, ds = [spotD s] ∧ s.rooms.length ≤ 10 ∧ P (spotD (ordM s)) μ
abbrev N_in_order : List Str := ["standing", "room", "state", "rooms"]
abbrev V_in_order : List Nat := [0, 1, 2, 3]
abbrev G_in_order : List Str := ["tuple", "sorted"]
theorem wk_in_order {g : Gb} {k : Nat} (Z : Fx g)  : Wlk g k d_in_order N_in_order ["standing"] V_in_order V_in_order G_in_order (spInOrder) := by
  refine ⟨⟨rfl, rfl, rfl, by decide +kernel, rfl, by decide +kernel, by decide +kernel⟩, by decide +kernel, ?_, fun X S ds μ P h => ?_⟩
  · walk_at "sp_len"
  have nn0 : N_in_order[0]? = some ("standing" : Str) := rfl
  have nn1 : N_in_order[1]? = some ("room" : Str) := rfl
  have nn2 : N_in_order[2]? = some ("state" : Str) := rfl
  have nn3 : N_in_order[3]? = some ("rooms" : Str) := rfl
  have gg0 : G_in_order[0]? = some ("tuple" : Str) := rfl
  have gg1 : G_in_order[1]? = some ("sorted" : Str) := rfl
  refine wb_cons ?_
  obtain ⟨⟨room, st, rs⟩, rfl, hl, q⟩ := h
  have hl : rs.length ≤ 10 := hl
  walk_at "g"
  refine w_tupOfP (by assumption) _ (by with_reducible assumption) (Fx.free (by assumption) 77 rfl) ?_
  refine w_sortedT (by assumption) (by with_reducible assumption) (Fx.free (by assumption) 74 rfl) ?_
  walk_at "g"
  refine ⟨rs.map fun r : Nat => (r : Int), by rw [← rooms_ints], by rw [List.length_map]; omega, fun ys pm pw => ?_⟩
  rw [srt_ints pm pw]
  walk_at "g"
  have e : spotD (ordM ⟨room, st, rs⟩) = .tup [.int (room : Nat), stD st, .tup (((srt rs).map fun r : Nat => (r : Int)).map .int)] := by
    show D.tup [.int (room : Nat), stD st, roomsD (srt rs)] = _
    rw [rooms_ints]
  rw [e] at q
  exact q
theorem ok_in_order {g : Gb} {k : Nat} (Z : Fx g)  : FnG g (k + 1) "in_order" (spInOrder) :=
  Z.fn 47 28 rfl rfl rfl rfl (fun _ _ _ _ _ _ us hl => match us, hl with | [_], _ => rfl) (wk_in_order Z)
end
set_option maxHeartbeats 4000000
section
open PySem PySem.Spec L2
/-! ### standings as keys -/
theorem nks_ints : ∀ rs : List Nat, nks (rs.map fun r : Nat => D.int r) = rs.map fun r : Nat => NestedKey.num r
  | [] => rfl
  | r :: rs => by simp only [List.map_cons, nks, nk, nks_ints rs]
theorem nks_strs : ∀ rs : List Str, nks (rs.map D.str) = rs.map NestedKey.text
  | [] => rfl
  | r :: rs => by simp only [List.map_cons, nks, nk, nks_strs rs]
theorem nk_spot (s : Spot) : nk (spotD s) = .tup [.num s.room, .tup (s.st.map NestedKey.text), .tup (s.rooms.map fun r : Nat => NestedKey.num r)] := by
  simp only [spotD, stD, roomsD, nk, nks, nks_ints, nks_strs]
theorem nums_inj : ∀ {a b : List Nat}, (a.map fun r : Nat => NestedKey.num r) = (b.map fun r : Nat => NestedKey.num r) → a = b
  | [], [], _ => rfl
  | [], _ :: _, h => by cases h
  | _ :: _, [], h => by cases h
  | x :: a, y :: b, h => by
    obtain ⟨h1, h2⟩ := List.cons.inj h
    have h1 := Int.ofNat.inj (NestedKey.num.inj h1)
    rw [h1, nums_inj h2]
theorem texts_inj : ∀ {a b : List Str}, a.map NestedKey.text = b.map NestedKey.text → a = b
  | [], [], _ => rfl
  | [], _ :: _, h => by cases h
  | _ :: _, [], h => by cases h
  | x :: a, y :: b, h => by
    obtain ⟨h1, h2⟩ := List.cons.inj h
    rw [NestedKey.text.inj h1, texts_inj h2]
theorem nk_inj {s t : Spot} (h : nk (spotD s) = nk (spotD t)) : s = t := by
  rw [nk_spot, nk_spot] at h
  have h := NestedKey.tup.inj h
  obtain ⟨h1, h⟩ := List.cons.inj h
  obtain ⟨h2, h⟩ := List.cons.inj h
  obtain ⟨h3, h⟩ := List.cons.inj h
  obtain ⟨a, b, c⟩ := s
  obtain ⟨a', b', c'⟩ := t
  have e1 : a = a' := Int.ofNat.inj (NestedKey.num.inj h1)
  have e2 : b = b' := texts_inj (NestedKey.tup.inj h2)
  have e3 : c = c' := nums_inj (NestedKey.tup.inj h3)
  rw [e1, e2, e3]
theorem dep_nums : ∀ rs : List Nat, NestedKey.depthAll (rs.map fun r : Nat => NestedKey.num r) = 0
  | [] => rfl
  | r :: rs => by simp [NestedKey.depthAll, NestedKey.depth, dep_nums rs]
theorem dep_texts : ∀ rs : List Str, NestedKey.depthAll (rs.map NestedKey.text) = 0
  | [] => rfl
  | r :: rs => by simp [NestedKey.depthAll, NestedKey.depth, dep_texts rs]
theorem ok_ints : ∀ rs : List Nat, nksOk (rs.map fun r : Nat => D.int r) = true
  | [] => rfl
  | r :: rs => by simp [nksOk, nkOk, ok_ints rs]
theorem ok_strs : ∀ rs : List Str, nksOk (rs.map D.str) = true
  | [] => rfl
  | r :: rs => by simp [nksOk, nkOk, ok_strs rs]
theorem ky_spot (s : Spot) : kyD (spotD s) := by
  refine ⟨⟨_, rfl⟩, ?_, ?_⟩
  · simp [spotD, stD, roomsD, nkOk, nksOk, ok_ints, ok_strs]
  · rw [nk_spot]
    simp [NestedKey.depth, NestedKey.depthAll, dep_nums, dep_texts]
theorem nk_mem {s : Spot} {R : List Spot} : nk (spotD s) ∈ (R.map spotD).map nk ↔ s ∈ R := by
  rw [List.map_map]
  constructor
  · intro h
    obtain ⟨t, ht, e⟩ := List.mem_map.mp h
    rw [← nk_inj (s := t) (t := s) e]; exact ht
  · intro h; exact List.mem_map.mpr ⟨s, h, rfl⟩
theorem lenD_ptr {m : Mu} {p : Addr} {ds : List D} (h : m p = some (.lst ds)) : lenD m (.ptr p) = some ds.length := by
  show (match m p with | some (.lst ds) => some ds.length | _ => none) = _
  rw [h]
/-! ### the tally -/
structure GOk (pl : Plan) (ms : List Str) (r0 r1 : List St) : Prop where
  ok : PlanOk pl
  k0 : rowOk pl ms r0
  k1 : rowOk pl ms r1
  z0 : szs r0 ≤ 3
  z1 : szs r1 ≤ 2
structure Some_ (pl : Plan) (r0 r1 : List St) (n : Nat) (R : List Spot) : Prop where
  nd : R.Nodup
  come : ∀ s, s ∈ R → Reach pl r0 r1 n s
def shutAt (pl : Plan) (r0 r1 : List St) (R : List Spot) (s : Spot) : Prop := ∀ h k s', movedM pl r0 r1 s h k = some s' → ordM s' ∈ R
def tallyFs (g : Gb) (pl : Plan) (r0 r1 : List St) (cf : Addr) (d : D) : List D := [gameD g pl r0 r1, .ptr cf, d]
def spGoOn (g : Gb) (n : Nat) : ASp := fun ds μ P => ∃ pl ms r0 r1 a cf rw_ R s, ds = [.ptr a, spotD s] ∧ μ a = some (.ins (cl g "Tally") ["whole", "come_from", "rows"] (tallyFs g pl r0 r1 cf (.ptr rw_))) ∧ μ cf = some (.nst (R.map spotD) []) ∧ μ rw_ = some (.lst (R.map spotD)) ∧ a ≠ cf ∧ a ≠ rw_ ∧ cf ≠ rw_ ∧ GOk pl ms r0 r1 ∧ n ≤ 4 ∧ Some_ pl r0 r1 n R ∧ s ∈ R ∧
  ∀ E, Some_ pl r0 r1 n (R ++ E) → shutAt pl r0 r1 (R ++ E) s → P .non (up (up μ cf (.nst ((R ++ E).map spotD) [])) rw_ (.lst ((R ++ E).map spotD)))
abbrev N_Tally_go_on : List Str := ["self", "standing", "move", "later"]
abbrev V_Tally_go_on : List Nat := [0, 1, 2, 3]
abbrev G_Tally_go_on : List Str := ["in_order", "len", "MOST_STANDINGS", "Wide"]
theorem wk_Tally_go_on {g : Gb} {k : Nat} (Z : Fx g) (n : Nat) {j : Nat} (hj : j ≤ k) (Fs : MeG g j (cl g "Game") "moves" (spMoves g)) (Fv : MeG g j (cl g "Game") "moved" (spMoved g)) (Fi : FnG g j "in_order" spInOrder) : Wlk g k d_Tally_go_on N_Tally_go_on ["self", "standing"] V_Tally_go_on V_Tally_go_on G_Tally_go_on (spGoOn g n) := by
  refine ⟨⟨rfl, rfl, rfl, by decide +kernel, rfl, by decide +kernel, by decide +kernel⟩, by decide +kernel, ?_, fun X S ds μ P h => ?_⟩
  · walk_at "sp_len"
  have nn0 : N_Tally_go_on[0]? = some ("self" : Str) := rfl
  have nn1 : N_Tally_go_on[1]? = some ("standing" : Str) := rfl
  have nn2 : N_Tally_go_on[2]? = some ("move" : Str) := rfl
  have nn3 : N_Tally_go_on[3]? = some ("later" : Str) := rfl
  have gg0 : G_Tally_go_on[0]? = some ("in_order" : Str) := rfl
  have gg1 : G_Tally_go_on[1]? = some ("len" : Str) := rfl
  have gg2 : G_Tally_go_on[2]? = some ("MOST_STANDINGS" : Str) := rfl
  have gg3 : G_Tally_go_on[3]? = some ("Wide" : Str) := rfl
  have gm2 : ∃ t, g.mg "MOST_STANDINGS" = some (.int 600 t) := Z.int 86
  refine wb_cons ?_
  obtain ⟨pl, ms, r0, r1, a, cf, rw_, R, s, rfl, ha, hcf, hrw, n1, n2, n3, gok, hn, so, hs, q⟩ := h
  have rok := reach_ok gok.ok gok.k0 gok.k1 (so.come s hs)
  have sok := rok.spot (by omega)
  have z0 := gok.z0
  have z1 := gok.z1
  refine ws_for (by assumption) ?_
  refine wi_lst (by assumption) ?_
  refine w_meth (by assumption) Fs hj ?_
  refine w_fldP (by assumption) (Fx.cls (by assumption) 171 rfl) (Fx.na (by assumption) 173 rfl) (ns := ["whole", "come_from", "rows"]) (i := 0) rfl ?_
  walk_at "g"
  refine ⟨a, _, gameD g pl r0 r1, rfl, ha, rfl, ?_⟩
  refine ⟨_, _, rfl, rfl, ?_⟩
  walk_at "g"
  refine ⟨pl, ms, r0, r1, s, rfl, gok.ok, gok.k0, gok.k1, by omega, by omega, sok, ?_⟩
  refine ⟨_, rfl, ?_⟩
  refine ⟨fun i ρ' m' => ∃ E a2 a3, ρ' = [some (.ptr a), some (spotD s), a2, a3] ∧ m' = up (up μ cf (.nst ((R ++ E).map spotD) [])) rw_ (.lst ((R ++ E).map spotD)) ∧ Some_ pl r0 r1 n (R ++ E) ∧ ∀ m, m ∈ (movesM pl r0 r1 s).take i → ∀ s', movedM pl r0 r1 s m.1 m.2 = some s' → ordM s' ∈ R ++ E, ⟨[], _, _, rfl, ?_, ?_, ?_⟩, ?_, ?_⟩
  · rw [List.append_nil, up_id hcf, up_id hrw]
  · rw [List.append_nil]; exact so
  · intro m hm; cases hm
  · rintro i d ρ' m' hd ⟨E, a2, a3, rfl, rfl, so2, hE⟩
    rw [List.getElem?_map] at hd
    cases ht : (movesM pl r0 r1 s)[i]? with
    | none => rw [ht] at hd; cases hd
    | some m =>
      rw [ht] at hd
      cases hd
      have hi : i < (movesM pl r0 r1 s).length := (List.getElem?_eq_some_iff.mp ht).1
      obtain ⟨s', hs'⟩ := (moved_iff sok).mp (List.mem_of_getElem? ht)
      have ha2 : up (up μ cf (.nst ((R ++ E).map spotD) [])) rw_ (.lst ((R ++ E).map spotD)) a = some (.ins (cl g "Tally") ["whole", "come_from", "rows"] (tallyFs g pl r0 r1 cf (.ptr rw_))) := by rw [up_ne n2, up_ne n1]; exact ha
      have etk : (movesM pl r0 r1 s).take (i + 1) = (movesM pl r0 r1 s).take i ++ [m] := by rw [List.take_succ, ht]; rfl
      walk_at "g"
      refine w_meth (by assumption) Fv hj ?_
      refine w_fldP (by assumption) (Fx.cls (by assumption) 171 rfl) (Fx.na (by assumption) 173 rfl) (ns := ["whole", "come_from", "rows"]) (i := 0) rfl ?_
      walk_at "g"
      refine ⟨a, _, gameD g pl r0 r1, rfl, ha2, rfl, ?_⟩
      refine ⟨_, _, rfl, rfl, ?_⟩
      walk_at "g"
      refine ⟨pl, ms, r0, r1, s, m, s', rfl, gok.ok, gok.k0, gok.k1, rok.stl, by rw [rok.l]; omega, hs', ?_⟩
      have hm2 := moved_ok gok.ok gok.k0 gok.k1 hs' rok.room rok.st rok.rooms
      have hl2 : s'.rooms.length ≤ 10 := by rw [hm2.2.2.1, rok.l]; omega
      walk_at "g"
      refine ⟨s', rfl, hl2, ?_⟩
      walk_at "g"
      refine ws_ifc (fun t m' => t = (!decide (ordM s' ∈ R ++ E)) ∧ m' = up (up μ cf (.nst ((R ++ E).map spotD) [])) rw_ (.lst ((R ++ E).map spotD))) ?_ ?_ ?_
      · refine wt_nnin (by assumption) ?_
        walk_at "g"
        refine w_fldP (by assumption) (Fx.cls (by assumption) 171 rfl) (Fx.na (by assumption) 174 rfl) (ns := ["whole", "come_from", "rows"]) (i := 1) rfl ?_
        walk_at "g"
        refine ⟨a, _, .ptr cf, rfl, ha2, rfl, ?_⟩
        refine ⟨cf, _, _, rfl, by rw [up_ne n3]; exact up_same, ky_spot _, ?_, rfl⟩
        congr 1
        exact decide_eq_decide.mpr nk_mem
      · rintro _ ⟨e, rfl⟩
        have hnew : ordM s' ∉ R ++ E := by
          intro z
          rw [decide_eq_true z] at e
          cases e
        have so3 : Some_ pl r0 r1 n (R ++ (E ++ [ordM s'])) := by
          rw [← List.append_assoc]
          refine ⟨List.nodup_append.mpr ⟨so2.nd, by simp, fun x hx y hy => ?_⟩, fun x hx => ?_⟩
          · have : y = ordM s' := by simpa using hy
            subst this
            exact fun e => hnew (e ▸ hx)
          · rcases List.mem_append.mp hx with z | z
            · exact so2.come x z
            · have : x = ordM s' := by simpa using z
              subst this
              exact .step (so.come s hs) hs'
        have hlen := found_len gok.ok gok.k0 gok.k1 z0 z1 hn so3.nd so3.come
        rw [← List.append_assoc, List.length_append] at hlen
        have hlen2 : (R ++ E).length < 540 := by simp only [List.length_cons, List.length_nil] at hlen; omega
        walk_at "g"
        refine ws_ifc (fun t m' => t = false ∧ m' = up (up μ cf (.nst ((R ++ E).map spotD) [])) rw_ (.lst ((R ++ E).map spotD))) ?_ (fun _ h => by cases h.1) ?_
        · walk_at "g"
          refine w_fldP (by assumption) (Fx.cls (by assumption) 171 rfl) (Fx.na (by assumption) 175 rfl) (ns := ["whole", "come_from", "rows"]) (i := 2) rfl ?_
          walk_at "g"
          refine ⟨a, _, .ptr rw_, rfl, ha2, rfl, ?_⟩
          refine ⟨((R ++ E).map spotD).length, lenD_ptr up_same, ?_⟩
          walk_at "g"
          refine ⟨decide_eq_false ?_, rfl⟩
          rw [List.length_map]
          omega
        rintro _ ⟨_, rfl⟩
        walk_at "g"
        refine ws_nput (by assumption) ?_
        walk_at "g"
        refine w_fldP (by assumption) (Fx.cls (by assumption) 171 rfl) (Fx.na (by assumption) 174 rfl) (ns := ["whole", "come_from", "rows"]) (i := 1) rfl ?_
        walk_at "g"
        refine ⟨a, _, .ptr cf, rfl, ha2, rfl, ?_⟩
        walk_at "g"
        refine ⟨cf, _, _, rfl, by rw [up_ne n3]; exact up_same, ky_spot _, fun z => hnew (nk_mem.mp z), by rw [List.length_map]; omega, ?_⟩
        walk_at "g"
        refine ws_append (by assumption) rfl ?_
        have ha3 : ∀ c, up (up (up μ cf (.nst ((R ++ E).map spotD) [])) rw_ (.lst ((R ++ E).map spotD))) cf c a = some (.ins (cl g "Tally") ["whole", "come_from", "rows"] (tallyFs g pl r0 r1 cf (.ptr rw_))) := fun c => by rw [up_ne n1]; exact ha2
        refine w_fldP (by assumption) (Fx.cls (by assumption) 171 rfl) (Fx.na (by assumption) 175 rfl) (ns := ["whole", "come_from", "rows"]) (i := 2) rfl ?_
        walk_at "g"
        refine ⟨a, _, .ptr rw_, rfl, ha3 _, rfl, ?_⟩
        refine ⟨rw_, rfl, ⟨_, by rw [up_ne (Ne.symm n3)]; exact up_same⟩, ?_⟩
        walk_at "g"
        refine ⟨_, by rw [up_ne (Ne.symm n3)]; exact up_same, by rw [List.length_map]; omega, ?_⟩
        refine ⟨E ++ [ordM s'], _, _, rfl, ?_, so3, fun m0 hm0 s0 h0 => ?_⟩
        · rw [up_comm (Ne.symm n3), up_up, up_up, ← List.append_assoc, List.map_append (l₁ := R ++ E)]
          rfl
        · rw [etk] at hm0
          rw [← List.append_assoc]
          rcases List.mem_append.mp hm0 with z | z
          · exact List.mem_append_left _ (hE m0 z s0 h0)
          · have : m0 = m := by simpa using z
            subst this
            rw [hs'] at h0
            rw [← Option.some.inj h0]
            simp
      · rintro _ ⟨e, rfl⟩
        have hold : ordM s' ∈ R ++ E := by
          cases hd : decide (ordM s' ∈ R ++ E) with
          | true => exact of_decide_eq_true hd
          | false => rw [hd] at e; cases e
        walk_at "g"
        refine ⟨E, _, _, rfl, rfl, so2, fun m0 hm0 s0 h0 => ?_⟩
        rw [etk] at hm0
        rcases List.mem_append.mp hm0 with z | z
        · exact hE m0 z s0 h0
        · have : m0 = m := by simpa using z
          subst this
          rw [hs'] at h0
          rw [← Option.some.inj h0]
          exact hold
  · rintro ρ' m' ⟨E, a2, a3, rfl, rfl, so2, hE⟩
    rw [List.length_map, List.take_length] at hE
    walk_at "g"
    exact q E so2 fun h k s' hm => hE (h, k) ((moved_iff sok).mpr ⟨s', hm⟩) s' hm
theorem ok_Tally_go_on {g : Gb} {k : Nat} (Z : Fx g) (n : Nat) {j : Nat} (hj : j ≤ k) (Fs : MeG g j (cl g "Game") "moves" (spMoves g)) (Fv : MeG g j (cl g "Game") "moved" (spMoved g)) (Fi : FnG g j "in_order" spInOrder) : MeG g (k + 1) (cl g "Tally") "go_on" (spGoOn g n) :=
  Z.me 49 176 171 rfl rfl rfl rfl rfl rfl (fun _ _ _ _ _ _ us hl => match us, hl with | [_, _], _ => rfl) (wk_Tally_go_on Z n hj Fs Fv Fi)
end
set_option maxHeartbeats 4000000
section
open PySem PySem.Spec L2
def spTallyI (g : Gb) : ASp := fun ds μ P => ∃ pl ms r0 r1 a n, ds = [.ptr a, gameD g pl r0 r1, .int (n : Nat)] ∧ μ a = some (.ins (cl g "Tally") [] []) ∧ GOk pl ms r0 r1 ∧ n ≤ 4 ∧
  ∀ cf R, R.Nodup → Found pl r0 r1 n R → P .non (up μ a (.ins (cl g "Tally") ["whole", "come_from", "rows"] (tallyFs g pl r0 r1 cf (.lst (R.map spotD)))))
theorem spots_at {R : List Spot} {i : Nat} {s : Spot} (h : R[i]? = some s) : atI (R.map spotD) ((i : Nat) : Int) = some (spotD s) := by
  have hlt := (List.getElem?_eq_some_iff.mp h).1
  unfold atI
  rw [ix3 (by omega) (by rw [List.length_map]; omega)]
  show (R.map spotD)[i]? = _
  rw [List.getElem?_map, h]; rfl
abbrev N_Tally_init : List Str := ["self", "game", "many", "start", "at"]
abbrev V_Tally_init : List Nat := [0, 1, 2, 3, 4]
abbrev G_Tally_init : List Str := ["asked_many", "MOST_COUNTED", "len"]
theorem wk_Tally_init {g : Gb} {k : Nat} (Z : Fx g) (n0 : Nat) {j : Nat} (hj : j ≤ k) (Fa : FnG g j "asked_many" spMany) (Fb : MeG g j (cl g "Game") "begin" (spBegin g)) (Fg : ∀ n, MeG g j (cl g "Tally") "go_on" (spGoOn g n)) : Wlk g k d_Tally_init N_Tally_init ["self", "game", "many"] V_Tally_init V_Tally_init G_Tally_init (spTallyI g) := by
  refine ⟨⟨rfl, rfl, rfl, by decide +kernel, rfl, by decide +kernel, by decide +kernel⟩, by decide +kernel, ?_, fun X S ds μ P h => ?_⟩
  · walk_at "sp_len"
  have nn0 : N_Tally_init[0]? = some ("self" : Str) := rfl
  have nn1 : N_Tally_init[1]? = some ("game" : Str) := rfl
  have nn2 : N_Tally_init[2]? = some ("many" : Str) := rfl
  have nn3 : N_Tally_init[3]? = some ("start" : Str) := rfl
  have nn4 : N_Tally_init[4]? = some ("at" : Str) := rfl
  have gg0 : G_Tally_init[0]? = some ("asked_many" : Str) := rfl
  have gg1 : G_Tally_init[1]? = some ("MOST_COUNTED" : Str) := rfl
  have gg2 : G_Tally_init[2]? = some ("len" : Str) := rfl
  have gm1 : ∃ t, g.mg "MOST_COUNTED" = some (.int 6 t) := Z.int 87
  refine wb_cons ?_
  obtain ⟨pl, ms, r0, r1, a, n, rfl, ha, gok, hn, q⟩ := h
  walk_at "g"
  refine ⟨_, _, rfl, by omega, by omega, ?_⟩
  walk_at "g"
  refine ws_fld (by assumption) (Fx.cls (by assumption) 171 rfl) (Fx.na (by assumption) 173 rfl) (ns := []) (ds := []) rfl (by decide) ?_
  walk_at "g"
  refine ⟨a, _, rfl, ha, ?_⟩
  refine wb_cons ?_
  refine ws_v (by assumption) (by with_reducible assumption) rfl ?_
  refine w_meth (by assumption) Fb hj ?_
  walk_at "g"
  refine ⟨_, _, rfl, rfl, ?_⟩
  walk_at "g"
  refine ⟨pl, r0, r1, n, rfl, by omega, gok.ok, ?_⟩
  refine wb_cons ?_
  refine ws_fld (by assumption) (Fx.cls (by assumption) 171 rfl) (Fx.na (by assumption) 174 rfl) (ns := ["whole"]) (ds := []) rfl (by decide) ?_
  refine w_ndisp (by assumption) fun cf hcf => ?_
  have hac : a ≠ cf := mu_ne up_same hcf
  walk_at "g"
  refine ⟨_, rfl, hcf, ky_spot _, ?_⟩
  walk_at "g"
  refine ⟨a, _, rfl, by rw [up_ne hac]; exact up_same, ?_⟩
  refine wb_cons ?_
  refine ws_fld (by assumption) (Fx.cls (by assumption) 171 rfl) (Fx.na (by assumption) 175 rfl) (ns := ["whole", "come_from"]) (ds := []) rfl (by decide) ?_
  refine w_newL ?_
  walk_at "g"
  intro rw_ hrw
  have har : a ≠ rw_ := mu_ne up_same hrw
  have hcr : cf ≠ rw_ := mu_ne (by rw [up_ne (Ne.symm hac)]; exact up_same) hrw
  walk_at "g"
  refine ⟨a, _, rfl, by rw [up_ne har]; exact up_same, ?_⟩
  have hcf0 : μ cf = none := by rw [up_ne (Ne.symm hac)] at hcf; exact hcf
  have hrw0 : μ rw_ = none := by rw [up_ne (Ne.symm har), up_ne (Ne.symm hcr), up_ne (Ne.symm har)] at hrw; exact hrw
  refine wb_cons ?_
  refine ws_v (by assumption) (by with_reducible assumption) rfl ?_
  refine w_int ?_
  refine wb_cons ?_
  refine ws_while (by assumption) (fun z ρ' m' => ∃ R i, ρ' = [some (.ptr a), some (gameD g pl r0 r1), some (.int (n : Nat)), some (spotD (beginM pl n)), some (.int (i : Nat))] ∧ m' = up (up (up μ a (.ins (cl g "Tally") ["whole", "come_from", "rows"] (tallyFs g pl r0 r1 cf (.ptr rw_)))) cf (.nst (R.map spotD) [])) rw_ (.lst (R.map spotD)) ∧ Some_ pl r0 r1 n R ∧ beginM pl n ∈ R ∧ z + i = 541 ∧ i ≤ R.length ∧ ∀ s, s ∈ R.take i → shutAt pl r0 r1 R s) 541 ⟨[beginM pl n], 0, rfl, ?_, ⟨by simp, fun s hs => by
      have : s = beginM pl n := by simpa using hs
      subst this; exact .begin⟩, by simp, rfl, Nat.zero_le _, fun s hs => by cases hs⟩ ?_
  · rw [up_comm (Ne.symm har), up_up, up_comm (Ne.symm hac), up_up]
    rfl
  rintro z ρ' m' ⟨R, i, rfl, rfl, so, hb, hz, hi, hsh⟩
  have hlen := found_len gok.ok gok.k0 gok.k1 gok.z0 gok.z1 hn so.nd so.come
  have ha1 : up (up (up μ a (.ins (cl g "Tally") ["whole", "come_from", "rows"] (tallyFs g pl r0 r1 cf (.ptr rw_)))) cf (.nst (R.map spotD) [])) rw_ (.lst (R.map spotD)) a = some (.ins (cl g "Tally") ["whole", "come_from", "rows"] (tallyFs g pl r0 r1 cf (.ptr rw_))) := by rw [up_ne har, up_ne hac]; exact up_same
  walk_at "g"
  refine w_fldP (by assumption) (Fx.cls (by assumption) 171 rfl) (Fx.na (by assumption) 175 rfl) (ns := ["whole", "come_from", "rows"]) (i := 2) rfl ?_
  walk_at "g"
  refine ⟨a, _, .ptr rw_, rfl, ha1, rfl, ?_⟩
  refine ⟨_, lenD_ptr up_same, ?_⟩
  walk_at "g"
  rw [List.length_map]
  by_cases hlt : i < R.length
  · rw [if_pos (decide_eq_true (by omega))]
    have hri : R[i]? = some R[i] := List.getElem?_eq_getElem hlt
    refine wb_cons ?_
    refine ws_expr ?_
    refine w_methP (by assumption) (Fg n) hj ?_
    walk_at "g"
    refine ⟨a, _, _, rfl, ha1, rfl, ?_⟩
    walk_at "g"
    refine w_fldP (by assumption) (Fx.cls (by assumption) 171 rfl) (Fx.na (by assumption) 175 rfl) (ns := ["whole", "come_from", "rows"]) (i := 2) rfl ?_
    walk_at "g"
    refine ⟨a, _, .ptr rw_, rfl, ha1, rfl, ?_⟩
    walk_at "g"
    refine ⟨_, .p up_same (spots_at hri), ?_⟩
    walk_at "g"
    refine ⟨pl, ms, r0, r1, a, cf, rw_, R, R[i], rfl, ha1, by rw [up_ne hcr]; exact up_same, up_same, hac, har, hcr, gok, hn, so, List.getElem_mem hlt, fun E so2 sh2 => ?_⟩
    walk_at "g"
    refine ⟨z - 1, by omega, R ++ E, i + 1, ?_, ?_, so2, List.mem_append_left _ hb, by omega, by rw [List.length_append]; omega, fun s hs => ?_⟩
    · congr 5
    · rw [up_comm (Ne.symm hcr), up_up, up_up]
    · rw [List.take_append_of_le_length (by omega), List.take_succ, hri] at hs
      rcases List.mem_append.mp hs with w | w
      · exact fun h k s' hm => List.mem_append_left _ (hsh s w h k s' hm)
      · have : s = R[i] := by simpa using w
        subst this; exact sh2
  · rw [if_neg (by intro w; have := of_decide_eq_true w; omega)]
    have hfull : R.take i = R := List.take_of_length_le (by omega)
    rw [hfull] at hsh
    have F : Found pl r0 r1 n R := ⟨hb, fun s hs => hsh s hs, so.come⟩
    refine wb_frzF (p := a) (l := rw_) (c := .lst _) (d := .lst _) 2 ha1 rfl up_same rfl har ?_
    refine wb_drop cf ?_
    refine wb_nil ?_
    have e1 : dl (up (dl (up (up (up μ a (.ins (cl g "Tally") ["whole", "come_from", "rows"] (tallyFs g pl r0 r1 cf (.ptr rw_)))) cf (.nst (R.map spotD) [])) rw_ (.lst (R.map spotD))) rw_) a (.ins (cl g "Tally") ["whole", "come_from", "rows"] ((tallyFs g pl r0 r1 cf (.ptr rw_)).set 2 (.lst (R.map spotD))))) cf = up μ a (.ins (cl g "Tally") ["whole", "come_from", "rows"] (tallyFs g pl r0 r1 cf (.lst (R.map spotD)))) := by
      rw [dl_up (by rw [up_ne (Ne.symm hcr), up_ne (Ne.symm har)]; exact hrw0), up_comm (Ne.symm hac), up_up, dl_up (by rw [up_ne (Ne.symm hac)]; exact hcf0)]
      rfl
    rw [e1]
    exact q cf R so.nd F
theorem ok_Tally_mk {g : Gb} {k : Nat} (Z : Fx g) (n0 : Nat) {j : Nat} (hj : j ≤ k) (Fa : FnG g j "asked_many" spMany) (Fb : MeG g j (cl g "Game") "begin" (spBegin g)) (Fg : ∀ n, MeG g j (cl g "Tally") "go_on" (spGoOn g n)) : MkG g (k + 1) "Tally" (cl g "Tally") (spTallyI g) :=
  Z.mkG 48 172 29 rfl rfl rfl rfl rfl rfl (fun _ _ _ _ _ _ us hl => match us, hl with | [_, _, _], _ => rfl) (wk_Tally_init Z n0 hj Fa Fb Fg)
end
set_option maxHeartbeats 4000000
section
open PySem PySem.Spec L2
theorem pd_ints : ∀ rs : List Nat, pdDs (rs.map fun r : Nat => D.int r) = some (rs.map fun r : Nat => PyData.int r)
  | [] => rfl
  | r :: rs => by simp only [List.map_cons, pdDs, pdD, pd_ints rs]
theorem pd_strs : ∀ rs : List Str, pdDs (rs.map D.str) = some (rs.map PyData.str)
  | [] => rfl
  | r :: rs => by simp only [List.map_cons, pdDs, pdD, pd_strs rs]
theorem pd_spot (s : Spot) : pdD (spotD s) = some (.tuple [.int s.room, .tuple (s.st.map .str), .tuple (s.rooms.map fun r : Nat => .int r)]) := by
  simp only [spotD, stD, roomsD, pdD, pdDs, pd_ints, pd_strs]
theorem al_ints : ∀ a b : List Nat, PySem.W.alikeAll (a.map fun r : Nat => PyData.int r) (b.map fun r : Nat => PyData.int r) = true
  | [], _ => by simp [PySem.W.alikeAll]
  | _ :: _, [] => by simp [PySem.W.alikeAll]
  | x :: a, y :: b => by
    simp only [List.map_cons, PySem.W.alikeAll, al_ints a b]
    simp [PySem.W.alike]
theorem al_strs : ∀ a b : List Str, PySem.W.alikeAll (a.map PyData.str) (b.map PyData.str) = true
  | [], _ => by simp [PySem.W.alikeAll]
  | _ :: _, [] => by simp [PySem.W.alikeAll]
  | x :: a, y :: b => by
    simp only [List.map_cons, PySem.W.alikeAll, al_strs a b]
    simp [PySem.W.alike]
theorem dp_ints : ∀ a : List Nat, PyData.depthAll (a.map fun r : Nat => PyData.int r) = 0
  | [] => by simp [PyData.depthAll]
  | x :: a => by simp [PyData.depthAll, PyData.depth, dp_ints a]
theorem dp_strs : ∀ a : List Str, PyData.depthAll (a.map PyData.str) = 0
  | [] => by simp [PyData.depthAll]
  | x :: a => by simp [PyData.depthAll, PyData.depth, dp_strs a]
theorem srt_spots {R : List Spot} (h : R.length ≤ 100000) : SrtD (R.map spotD) := by
  have e : ∀ s : Spot, pdE (spotD s) = .tuple [.int s.room, .tuple (s.st.map .str), .tuple (s.rooms.map fun r : Nat => .int r)] := fun s => by unfold pdE; rw [pd_spot]; rfl
  refine ⟨by rw [List.length_map]; exact h, fun d hd => ?_, ?_, ?_⟩
  · obtain ⟨s, _, es⟩ := List.mem_map.mp hd
    subst es
    rw [e]
    refine ⟨pd_spot s, ?_⟩
    simp [PyData.depth, PyData.depthAll, dp_ints, dp_strs]
  · intro d hd d' hd'
    rw [List.map_map] at hd hd'
    obtain ⟨s, _, es⟩ := List.mem_map.mp hd
    obtain ⟨t, _, et⟩ := List.mem_map.mp hd'
    subst es; subst et
    show PySem.W.alike (pdE (spotD s)) (pdE (spotD t)) = true
    rw [e, e]
    simp [PySem.W.alike, PySem.W.alikeAll, al_ints, al_strs]
  · refine .inl fun d hd => ?_
    rw [List.map_map] at hd
    obtain ⟨s, _, es⟩ := List.mem_map.mp hd
    subst es
    exact ⟨_, _, e s⟩
theorem perm_spots : ∀ {R : List Spot} {ys : List D}, ys.Perm (R.map spotD) → ∃ R' : List Spot, R'.Perm R ∧ ys = R'.map spotD := fun {R ys} h => by
  have key : ∀ {xs ys : List D}, ys.Perm xs → ∀ R, xs = R.map spotD → ∃ R' : List Spot, R'.Perm R ∧ ys = R'.map spotD := by
    intro xs ys h
    induction h with
    | nil => intro R e; exact ⟨R, .refl _, e⟩
    | cons x p ih =>
      intro R e
      cases R with
      | nil => cases e
      | cons s R =>
        obtain ⟨e1, e2⟩ := List.cons.inj e
        obtain ⟨R', h1, h2⟩ := ih R e2
        exact ⟨s :: R', h1.cons s, by rw [List.map_cons, ← h2, e1]⟩
    | swap x y l =>
      intro R e
      match R, e with
      | a :: b :: R, e =>
        obtain ⟨e1, e2⟩ := List.cons.inj e
        obtain ⟨e2, e3⟩ := List.cons.inj e2
        exact ⟨b :: a :: R, .swap .., by rw [List.map_cons, List.map_cons, e1, e2, e3]⟩
      | [a], e => exact absurd (List.cons.inj e).2 (by intro z; cases z)
      | [], e => cases e
    | trans p q ih1 ih2 =>
      intro R e
      obtain ⟨R1, h1, h2⟩ := ih2 R e
      obtain ⟨R2, h3, h4⟩ := ih1 R1 h2
      exact ⟨R2, h3.trans h1, h4⟩
  exact key h R rfl
def spStandings (g : Gb) : ASp := fun ds μ P => ∃ pl ms r0 r1 n, ds = [gameD g pl r0 r1, .int (n : Nat)] ∧ GOk pl ms r0 r1 ∧ n ≤ 4 ∧ ∀ R, R.Nodup → Found pl r0 r1 n R → P (.lst (R.map spotD)) μ
theorem found_perm {pl : Plan} {r0 r1 : List St} {n : Nat} {R R' : List Spot} (p : R'.Perm R) (F : Found pl r0 r1 n R) : Found pl r0 r1 n R' :=
  ⟨p.mem_iff.mpr F.beg, fun s hs h k s' hm => p.mem_iff.mpr (F.shut s (p.mem_iff.mp hs) h k s' hm), fun s hs => F.come s (p.mem_iff.mp hs)⟩
abbrev N_standings : List Str := ["game", "many"]
abbrev V_standings : List Nat := [0, 1]
abbrev G_standings : List Str := ["sorted", "Tally"]
theorem wk_standings {g : Gb} {k : Nat} (Z : Fx g) {j : Nat} (hj : j + 1 ≤ k) (Ft : MkG g j "Tally" (cl g "Tally") (spTallyI g)) : Wlk g k d_standings N_standings ["game", "many"] V_standings V_standings G_standings (spStandings g) := by
  refine ⟨⟨rfl, rfl, rfl, by decide +kernel, rfl, by decide +kernel, by decide +kernel⟩, by decide +kernel, ?_, fun X S ds μ P h => ?_⟩
  · walk_at "sp_len"
  have nn0 : N_standings[0]? = some ("game" : Str) := rfl
  have nn1 : N_standings[1]? = some ("many" : Str) := rfl
  have gg0 : G_standings[0]? = some ("sorted" : Str) := rfl
  have gg1 : G_standings[1]? = some ("Tally" : Str) := rfl
  refine wb_cons ?_
  obtain ⟨pl, ms, r0, r1, n, rfl, gok, hn, q⟩ := h
  refine ws_ret ?_
  refine w_sortedDt (by assumption) (by with_reducible assumption) (Fx.free (by assumption) 74 rfl) ?_
  refine w_fld (by assumption) (Fx.cls (by assumption) 171 rfl) (Fx.na (by assumption) 175 rfl) (ns := ["whole", "come_from", "rows"]) (i := 2) rfl ?_
  refine w_make (by assumption) Ft hj _ (by with_reducible assumption) ?_
  walk_at "g"
  intro q0 hq0
  refine ⟨pl, ms, r0, r1, q0, n, rfl, up_same, gok, hn, fun cf R nd F => ?_⟩
  refine ⟨rfl, _, _, up_same, ?_⟩
  rw [up_up, dl_up hq0]
  refine ⟨_, _, rfl, rfl, ?_⟩
  have hl := found_len gok.ok gok.k0 gok.k1 gok.z0 gok.z1 hn nd F.come
  refine ⟨_, rfl, srt_spots (by omega), fun ys pm => ?_⟩
  obtain ⟨R', p1, e1⟩ := perm_spots pm
  subst e1
  exact q R' (p1.nodup_iff.mpr nd) (found_perm p1 F)
theorem ok_standings {g : Gb} {k : Nat} (Z : Fx g) {j : Nat} (hj : j + 1 ≤ k) (Ft : MkG g j "Tally" (cl g "Tally") (spTallyI g)) : FnG g (k + 1) "standings" (spStandings g) :=
  Z.fn 50 30 rfl rfl rfl rfl (fun _ _ _ _ _ _ us hl => match us, hl with | [_, _], _ => rfl) (wk_standings Z hj Ft)
end
set_option maxHeartbeats 4000000
section
open PySem PySem.Spec L2
def begsD (bs : List Nat) : D := .lst (bs.map fun b : Nat => .int b)
def spExits : ASp := fun ds μ P => ∃ pl ms s bs goal, ds = [planD pl, lawD s, begsD bs, .int (goal : Nat)] ∧ PlanOk pl ∧ stOk pl ms s ∧ bs.length = (partsOf s).length ∧ P (exsD (exitsOf pl s bs goal)) μ
theorem vD_law {pl : Plan} {c : Str} {vs : List Str} (nd : (pl.map (·.1)).Nodup) (h : (c, vs) ∈ pl) : vD ((pl.map fun c => ((.inr c.1, .lst (c.2.map .str)) : Key × D)).map (·.1)) ((pl.map fun c => ((.inr c.1, .lst (c.2.map .str)) : Key × D)).map (·.2)) (.inr c) = some (.lst (vs.map .str)) := by
  unfold vD
  induction pl with
  | nil => cases h
  | cons x r ih =>
    rw [List.map_cons, List.nodup_cons] at nd
    rw [List.map_cons, List.map_cons, List.map_cons, List.zip_cons_cons, List.find?_cons]
    rcases List.mem_cons.mp h with e | e
    · subst e; simp
    · have hne : ¬ (Sum.inr x.1 : Key) = .inr c := fun z => nd.1 (by rw [Sum.inr.inj z]; exact List.mem_map.mpr ⟨_, e, rfl⟩)
      simp only [hne, decide_false]
      exact ih nd.2 e
theorem plan_kds (pl : Plan) : planD pl = .lst ((pl.map fun c => ((.inr c.1, .lst (c.2.map .str)) : Key × D)).map fun kd => .tup [keyD kd.1, kd.2]) := by
  unfold planD; rw [List.map_map]; rfl
theorem kds_nodup {pl : Plan} (nd : (pl.map (·.1)).Nodup) : ((pl.map fun c => ((.inr c.1, .lst (c.2.map .str)) : Key × D)).map (·.1)).Nodup := by
  rw [List.map_map]
  have : (pl.map ((fun x : Key × D => x.1) ∘ fun c => (.inr c.1, .lst (c.2.map .str)))) = (pl.map (·.1)).map Sum.inr := by rw [List.map_map]; rfl
  rw [this]
  exact List.nodup_iff_pairwise_ne.mpr (List.pairwise_map.mpr ((List.nodup_iff_pairwise_ne.mp nd).imp fun h e => h (Sum.inr.inj e)))
def isA (a b : Str) (s : St) : Bool := decide (tagOf s ∈ ([a, b] : List Str))
theorem isA_ms {s : St} (h : isA "mark" "skip" s = true) : (∃ n, s = .mark n) ∨ s = .skip := by
  have h := of_decide_eq_true h
  cases s <;> first | exact .inl ⟨_, rfl⟩ | exact .inr rfl | (exfalso; revert h; simp only [tagOf]; decide)
theorem isA_iw {s : St} (h : isA "if" "while" s = true) : (∃ c v y n, s = .ife c v y n) ∨ ∃ c v b, s = .whl c v b := by
  have h := of_decide_eq_true h
  cases s <;> first | exact .inl ⟨_, _, _, _, rfl⟩ | exact .inr ⟨_, _, _, rfl⟩ | (exfalso; revert h; simp only [tagOf]; decide)
theorem inA (a b : Str) (s : St) : inV (scD (.str (tagOf s))) ([D.str a, D.str b].map scD) = isA a b s := inV_map (ys := [a, b])
theorem fl2 (a b : Str) : [D.str a, D.str b].all flD = true := rfl
theorem looks_filter (c v : Str) (t o : Nat) (vs : List Str) : ((Act.look c v, t) :: (othersOf vs v).map fun w => (Act.look c w, o)) = (Act.look c v, t) :: (vs.filter fun w => !decide (w = v)).map fun w => (Act.look c w, o) := rfl
theorem filt_succ {vs : List Str} {i : Nat} {w : Str} (v : Str) (h : vs[i]? = some w) : (vs.take (i + 1)).filter (fun w => !decide (w = v)) = (vs.take i).filter (fun w => !decide (w = v)) ++ (if w = v then [] else [w]) := by
  rw [List.take_succ, h, List.filter_append]
  congr 1
  by_cases e : w = v <;> simp [e]
theorem at1 {α : Type} {x y : α} {xs : List α} : atI (x :: y :: xs) 1 = some y := by
  unfold atI; rw [ix3 (by omega) (by simp; omega)]; rfl
theorem at2 {α : Type} {x y z : α} {xs : List α} : atI (x :: y :: z :: xs) 2 = some z := by
  unfold atI; rw [ix3 (by omega) (by simp; omega)]; rfl
abbrev N_law_exits : List Str := ["_law_plan_here", "_law_one", "_law_begins", "_law_goal", "_law_found", "_law_value", "_law_begin"]
abbrev V_law_exits : List Nat := [0, 1, 2, 3, 4, 5]
abbrev G_law_exits : List Str := ["dict"]
abbrev V_law_exits_0 : List Nat := [6]
abbrev L_law_exits_0 : List Nat := [6]
abbrev G_law_exits_0 : List Str := []
abbrev O_law_exits_0 : List (Str × Nat) := [("_law_begin", 6)]
theorem wk_law_exits {g : Gb} {k : Nat} (Z : Fx g)  : Wlk g k d_law_exits N_law_exits ["_law_plan_here", "_law_one", "_law_begins", "_law_goal"] V_law_exits V_law_exits G_law_exits spExits := by
  refine ⟨⟨rfl, rfl, rfl, by decide +kernel, rfl, by decide +kernel, by decide +kernel⟩, by decide +kernel, ?_, fun X S ds μ P h => ?_⟩
  · walk_at "sp_len"
  have nn0 : N_law_exits[0]? = some ("_law_plan_here" : Str) := rfl
  have nn1 : N_law_exits[1]? = some ("_law_one" : Str) := rfl
  have nn2 : N_law_exits[2]? = some ("_law_begins" : Str) := rfl
  have nn3 : N_law_exits[3]? = some ("_law_goal" : Str) := rfl
  have nn4 : N_law_exits[4]? = some ("_law_found" : Str) := rfl
  have nn5 : N_law_exits[5]? = some ("_law_value" : Str) := rfl
  have nn6 : N_law_exits[6]? = some ("_law_begin" : Str) := rfl
  have gg0 : G_law_exits[0]? = some ("dict" : Str) := rfl
  refine wb_cons ?_
  obtain ⟨pl, ms, s, bs, goal, rfl, ok, sok, hb, q⟩ := h
  have htag : ini N_law_exits [planD pl, lawD s, begsD bs, .int (goal : Nat)] = [some (planD pl), some (.tup (.str (tagOf s) :: restOf s)), some (begsD bs), some (.int (goal : Nat)), none, none, none] := by rw [lawD_tag]; rfl
  rw [htag]
  refine ws_ifc (fun t m => t = isA "mark" "skip" s ∧ m = μ) ?_ ?_ ?_
  · refine wt_in (by assumption) ?_
    walk_at "g"
    · rfl
    · exact ⟨inA _ _ _, rfl⟩
  · rintro _ ⟨e, rfl⟩
    walk_at "g"
    rcases isA_ms e.symm with ⟨n, rfl⟩ | rfl
    · exact q
    · exact q
  rintro m ⟨e1, rfl⟩
  walk_at "g"
  walk_at "i"
  split
  · rename_i h0
    obtain ⟨c, v, rfl⟩ := tag_write (of_decide_eq_true h0)
    walk_at "g"
    exact q
  rename_i h2
  walk_at "g"
  walk_at "i"
  split
  · rename_i h0
    obtain ⟨c, v, rfl⟩ := tag_wait (of_decide_eq_true h0)
    walk_at "g"
    exact q
  rename_i h3
  walk_at "g"
  refine ws_ifc (fun t m' => t = isA "if" "while" s ∧ m' = m) ?_ ?_ ?_
  · refine wt_in (by assumption) ?_
    walk_at "g"
    · rfl
    · exact ⟨inA _ _ _, rfl⟩
  · rintro m3 ⟨e, rfl⟩
    have key : ∃ c v t o, CV pl c v ∧ exitsOf pl s bs goal = looksM pl c v t o ∧ restOf s = .str c :: .str v :: (restOf s).drop 2 ∧ bs[0]? = some t ∧ (bs ++ [goal])[1]? = some o := by
      rcases isA_iw e.symm with ⟨c, v, y, n, rfl⟩ | ⟨c, v, b, rfl⟩
      · match bs, hb with
        | [t, o], _ => exact ⟨c, v, t, o, sok.1, rfl, rfl, rfl, rfl⟩
      · match bs, hb with
        | [t], _ => exact ⟨c, v, t, goal, sok.1, rfl, rfl, rfl, rfl⟩
    obtain ⟨c, v, t, o, ⟨vs, hc1, hc2⟩, hex, hrest, ht, ho⟩ := key
    have hvs : valsOf pl c = vs := vals_mem ok.nd hc1
    have hl3 := (ok.ok _ hc1).l3
    have hl3 : vs.length ≤ 3 := hl3
    have hb0 : atI (bs.map fun b : Nat => D.int b) 0 = some (.int (t : Nat)) := by
      have := (List.getElem?_eq_some_iff.mp ht).1
      unfold atI
      rw [ix3 (by omega) (by rw [List.length_map]; omega)]
      show (bs.map fun b : Nat => D.int b)[0]? = _
      rw [List.getElem?_map, ht]; rfl
    have hb1 : atI ((bs.map fun b : Nat => D.int b) ++ [.int (goal : Nat)]) 1 = some (.int (o : Nat)) := by
      have := (List.getElem?_eq_some_iff.mp ho).1
      have e3 : (bs.map fun b : Nat => D.int b) ++ [.int (goal : Nat)] = (bs ++ [goal]).map fun b : Nat => D.int b := by rw [List.map_append]; rfl
      rw [e3]
      unfold atI
      rw [ix3 (by omega) (by rw [List.length_map]; omega)]
      show ((bs ++ [goal]).map fun b : Nat => D.int b)[1]? = _
      rw [List.getElem?_map, ho]; rfl
    rw [hrest]
    refine wb_cons (ws_setL (by assumption) 4 rfl rfl ?_)
    walk_at "g"
    refine ⟨_, .t at1, ?_⟩
    walk_at "g"
    refine ⟨_, .t at2, ?_⟩
    walk_at "g"
    refine ⟨_, .l hb0, ?_⟩
    walk_at "g"
    intro f hf
    walk_at "g"
    refine ws_for (by assumption) ?_
    refine wi_lst (by assumption) ?_
    refine w_dget (by assumption) ?_
    refine w_dictP (by assumption) (by with_reducible assumption) (Fx.free (by assumption) 65 rfl) ?_
    walk_at "g"
    refine ⟨_, plan_kds pl, kds_nodup ok.nd, ?_⟩
    walk_at "g"
    refine ⟨_, .t at1, ?_⟩
    refine ⟨_, _, .inr c, _, rfl, rfl, vD_law ok.nd hc1, ?_⟩
    refine ⟨_, rfl, ?_⟩
    refine ⟨fun i ρ' m' => ∃ a5, ρ' = [some (planD pl), some (.tup (.str (tagOf s) :: .str c :: .str v :: (restOf s).drop 2)), some (begsD bs), some (.int (goal : Nat)), some (.ptr f), a5, none] ∧ m' = up m3 f (.lst ((((Act.look c v, t) :: ((vs.take i).filter fun w => !decide (w = v)).map fun w => (Act.look c w, o)) : Exits).map exD)), ⟨_, rfl, rfl⟩, ?_, ?_⟩
    · rintro i d ρ' m' hd ⟨a5, rfl, rfl⟩
      rw [List.getElem?_map] at hd
      cases hw : vs[i]? with
      | none => rw [hw] at hd; cases hd
      | some w =>
        rw [hw] at hd
        cases hd
        have hil := (List.getElem?_eq_some_iff.mp hw).1
        have hfl := List.length_filter_le (fun w => !decide (w = v)) (vs.take i)
        rw [List.length_take] at hfl
        walk_at "g"
        refine ws_ifc (fun t' m' => t' = (!decide (w = v)) ∧ m' = up m3 f (.lst ((((Act.look c v, t) :: ((vs.take i).filter fun w => !decide (w = v)).map fun w => (Act.look c w, o)) : Exits).map exD))) ?_ ?_ ?_
        · walk_at "g"
          refine ⟨_, .t at2, ?_⟩
          walk_at "g"
        · rintro _ ⟨e9, rfl⟩
          have hne : ¬ w = v := fun z => by rw [decide_eq_true z] at e9; cases e9
          walk_at "g"
          refine ws_append (by assumption) rfl ?_
          walk_at "g"
          refine ⟨⟨_, up_same⟩, ?_⟩
          walk_at "g"
          refine ⟨_, .t at1, ?_⟩
          walk_at "g"
          · show (bs.map fun b : Nat => D.int b).length + 1 ≤ 100000
            rw [List.length_map, hb]
            have := len_parts s
            omega
          walk_at "g"
          refine ⟨_, .l hb1, ?_⟩
          walk_at "g"
          refine ⟨_, up_same, by rw [List.length_map, List.length_cons, List.length_map]; omega, ?_⟩
          refine ⟨_, rfl, ?_⟩
          rw [filt_succ v hw, if_neg hne, up_up]
          congr 2
          rw [List.map_append, ← List.cons_append, List.map_append]
          rfl
        · rintro _ ⟨e9, rfl⟩
          have he : w = v := by
            cases hd : decide (w = v) with
            | true => exact of_decide_eq_true hd
            | false => rw [hd] at e9; cases e9
          walk_at "g"
          refine ⟨_, rfl, ?_⟩
          rw [filt_succ v hw, if_pos he, List.append_nil]
    · rintro ρ' m' ⟨a5, rfl, rfl⟩
      rw [List.length_map, List.take_length]
      refine wb_frz 4 rfl up_same rfl ?_
      rw [dl_up hf]
      walk_at "g"
      rw [hex] at q
      unfold looksM at q
      rw [hvs] at q
      exact q
  rintro m2 ⟨e4, rfl⟩
  walk_at "g"
  refine w_lcM (vis' := V_law_exits_0) (loc' := L_law_exits_0) (gl' := G_law_exits_0) (by assumption) O_law_exits_0 (by decide +kernel) (by decide +kernel) ?_
  refine wi_lst (by assumption) ?_
  walk_at "g"
  have hbl := len_parts s
  refine ⟨Nat, bs, fun b : Nat => .int b, fun b => exD (.go, b), rfl, by omega, fun b hbm p2 acc hp2 => ⟨?_, fun X' S' => ?_, fun X' S' => ?_⟩, ?_⟩
  rotate_left
  · walk_at "g"
  · walk_at "g"
    exact ⟨rfl, rfl⟩
  have hfin : exitsOf pl s bs goal = bs.map fun b => (.go, b) := by
    cases s with
    | write c v => exact absurd (decide_eq_true rfl) h2
    | wait c v => exact absurd (decide_eq_true rfl) h3
    | mark n => exact absurd e1.symm (by show ¬ isA "mark" "skip" (.mark n) = false; simp [isA, tagOf])
    | skip => exact absurd e1.symm (by decide)
    | stop => match bs, hb with | [], _ => rfl
    | ife c v y n => exact absurd e4.symm (by show ¬ isA "if" "while" (.ife c v y n) = false; simp [isA, tagOf])
    | whl c v b => exact absurd e4.symm (by show ¬ isA "if" "while" (.whl c v b) = false; simp [isA, tagOf])
    | loop b => rfl
    | choose a b => rfl
  rw [hfin] at q
  unfold exsD at q
  rw [List.map_map] at q
  exact q
theorem ok_law_exits {g : Gb} {k : Nat} (Z : Fx g)  : FnG g (k + 1) "_law_exits" spExits :=
  Z.fn 71 45 rfl rfl rfl rfl (fun _ _ _ _ _ _ us hl => match us, hl with | [_, _, _, _], _ => rfl) (wk_law_exits Z)
end
set_option maxHeartbeats 4000000
section
open PySem PySem.Spec L2
/-! ### a dict of rooms, by what it holds -/
structure DicF (ks : List Key) (vs : List D) (φ : Int → Option D) (n : Nat) : Prop where
  nd : ks.Nodup
  len : ks.length = vs.length
  at_ : ∀ z : Int, vD ks vs (.inl z) = φ z
  sz : ks.length ≤ n
theorem vD_put : ∀ {ks : List Key} {vs : List D} (kk k2 : Key) (d : D), ks.length = vs.length → vD (putD ks vs kk d).1 (putD ks vs kk d).2 k2 = if k2 = kk then some d else vD ks vs k2
  | [], [], kk, k2, d, _ => by
    by_cases h : k2 = kk
    · subst h; simp [putD, vD]
    · have h' : ¬ kk = k2 := fun e => h e.symm
      simp [putD, vD, h, h']
  | x :: ks, v :: vs, kk, k2, d, hl => by
    have ih := vD_put (ks := ks) (vs := vs) kk k2 d (by simpa using hl)
    by_cases hx : x = kk
    · subst hx
      have e : putD (x :: ks) (v :: vs) x d = (x :: ks, d :: vs) := by simp [putD, List.findIdx?_cons]
      rw [e]
      by_cases h : k2 = x
      · subst h; simp [vD]
      · have h' : ¬ x = k2 := fun e => h e.symm
        simp [vD, h, h']
    · have e : putD (x :: ks) (v :: vs) kk d = (x :: (putD ks vs kk d).1, v :: (putD ks vs kk d).2) := by
        unfold putD
        rw [List.findIdx?_cons]
        simp only [hx, decide_false]
        cases hf : ks.findIdx? (fun z => decide (z = kk)) <;> simp
      rw [e]
      by_cases h : x = k2
      · subst h
        simp [vD, hx]
      · have : vD (x :: (putD ks vs kk d).1) (v :: (putD ks vs kk d).2) k2 = vD (putD ks vs kk d).1 (putD ks vs kk d).2 k2 := by simp [vD, h]
        rw [this, ih]
        simp [vD, h]
  | [], _ :: _, _, _, _, h => by simp at h
  | _ :: _, [], _, _, _, h => by simp at h
theorem putD_nd {ks : List Key} {vs : List D} {kk : Key} {d : D} (nd : ks.Nodup) (hl : ks.length = vs.length) : (putD ks vs kk d).1.Nodup ∧ (putD ks vs kk d).1.length = (putD ks vs kk d).2.length ∧ (putD ks vs kk d).1.length ≤ ks.length + 1 := by
  unfold putD
  cases hf : ks.findIdx? (fun z => decide (z = kk)) with
  | some i => exact ⟨nd, by simp [hl], Nat.le_succ _⟩
  | none =>
    refine ⟨?_, by simp [hl], by simp⟩
    rw [List.nodup_append]
    refine ⟨nd, by simp, fun a ha b hb => ?_⟩
    have : b = kk := by simpa using hb
    subst this
    have := List.findIdx?_eq_none_iff.mp hf a ha
    intro e; subst e; simp at this
theorem DicF.put {ks : List Key} {vs : List D} {φ : Int → Option D} {n : Nat} (h : DicF ks vs φ n) (z0 : Int) (d : D) : DicF (putD ks vs (.inl z0) d).1 (putD ks vs (.inl z0) d).2 (fun z => if z = z0 then some d else φ z) (n + 1) := by
  obtain ⟨a, b, c⟩ := putD_nd (kk := .inl z0) (d := d) h.nd h.len
  refine ⟨a, b, fun z => ?_, by have := h.sz; omega⟩
  rw [vD_put _ _ _ h.len, h.at_]
  by_cases e : z = z0
  · subst e; simp
  · have : ¬ (Sum.inl z : Key) = .inl z0 := fun q => e (Sum.inl.inj q)
    simp [e, this]
theorem DicF.imp {ks : List Key} {vs : List D} {φ ψ : Int → Option D} {n m : Nat} (h : DicF ks vs φ n) (e : φ = ψ) (hm : n = m) : DicF ks vs ψ m := by subst e; subst hm; exact h
def entD (s : Option St) (es : Exits) : D := .tup [optS (markOf s), exsD es]
def over (E : List Exits) (M : List St) (a : Nat) (φ : Int → Option D) : Int → Option D := fun z => if z < (a : Int) then φ z else match E[(z - a).toNat]? with
  | some es => some (entD M[(z - a).toNat]? es)
  | none => φ z
theorem over_nil {M : List St} {a : Nat} {φ : Int → Option D} : over [] M a φ = φ := by
  funext z
  unfold over
  split
  · rfl
  · rfl
theorem over_cons {e : Exits} {E : List Exits} {s : St} {M : List St} {a : Nat} {φ : Int → Option D} : over (e :: E) (s :: M) a φ = fun z => if z = (a : Int) then some (entD (some s) e) else over E M (a + 1) φ z := by
  funext z
  unfold over
  by_cases h1 : z < (a : Int)
  · have h2 : ¬ z = (a : Int) := by omega
    have h3 : z < ((a + 1 : Nat) : Int) := by omega
    rw [if_pos h1, if_neg h2, if_pos h3]
  · rw [if_neg h1]
    by_cases h2 : z = (a : Int)
    · rw [if_pos h2]
      have : (z - a).toNat = 0 := by omega
      rw [this]; rfl
    · have h3 : ¬ z < ((a + 1 : Nat) : Int) := by omega
      rw [if_neg h2, if_neg h3]
      have : (z - a).toNat = (z - ((a + 1 : Nat) : Int)).toNat + 1 := by omega
      rw [this]; rfl
theorem over_app {E1 E2 : List Exits} {M1 M2 : List St} {a : Nat} {φ : Int → Option D} (h : E1.length = M1.length) : over (E1 ++ E2) (M1 ++ M2) a φ = over E2 M2 (a + E1.length) (over E1 M1 a φ) := by
  funext z
  unfold over
  by_cases h1 : z < (a : Int)
  · have h3 : z < ((a + E1.length : Nat) : Int) := by omega
    rw [if_pos h1, if_pos h3, if_pos h1]
  · rw [if_neg h1]
    by_cases h2 : z < ((a + E1.length : Nat) : Int)
    · rw [if_pos h2, if_neg h1, List.getElem?_append_left (by omega), List.getElem?_append_left (by omega)]
    · rw [if_neg h2, if_neg h1]
      have e0 : E1[(z - a).toNat]? = none := List.getElem?_eq_none (by omega)
      have e1 : (z - a).toNat - E1.length = (z - ((a + E1.length : Nat) : Int)).toNat := by omega
      have e2 : (z - a).toNat - M1.length = (z - ((a + E1.length : Nat) : Int)).toNat := by omega
      rw [List.getElem?_append_right (by omega), List.getElem?_append_right (by omega), e1, e2, e0]
theorem flat_pre_len : ∀ ps : List (List St), ((ps.map preR).flatten).length = szp ps
  | [] => rfl
  | p :: ps => by simp [szp, preR_len, flat_pre_len ps]
/-! ### a row as data -/
mutual
def pdSt : St → PyData
  | .write c v => .tuple [.str "write", .str c, .str v]
  | .wait c v => .tuple [.str "wait", .str c, .str v]
  | .mark n => .tuple [.str "mark", .str n]
  | .skip => .tuple [.str "skip"]
  | .stop => .tuple [.str "stop"]
  | .ife c v y n => .tuple [.str "if", .str c, .str v, .tuple (pdRow y), .tuple (pdRow n)]
  | .whl c v b => .tuple [.str "while", .str c, .str v, .tuple (pdRow b)]
  | .loop b => .tuple [.str "loop", .tuple (pdRow b)]
  | .choose a b => .tuple [.str "choose", .tuple (pdRow a), .tuple (pdRow b)]
def pdRow : List St → List PyData
  | [] => []
  | s :: r => pdSt s :: pdRow r
end
mutual
theorem pd_st : ∀ s : St, pdD (lawD s) = some (pdSt s)
  | .write c v => by simp [lawD, pdD, pdDs, pdSt]
  | .wait c v => by simp [lawD, pdD, pdDs, pdSt]
  | .mark n => by simp [lawD, pdD, pdDs, pdSt]
  | .skip => by simp [lawD, pdD, pdDs, pdSt]
  | .stop => by simp [lawD, pdD, pdDs, pdSt]
  | .ife c v y n => by simp [lawD, pdD, pdDs, pdSt, pd_row y, pd_row n]
  | .whl c v b => by simp [lawD, pdD, pdDs, pdSt, pd_row b]
  | .loop b => by simp [lawD, pdD, pdDs, pdSt, pd_row b]
  | .choose a b => by simp [lawD, pdD, pdDs, pdSt, pd_row a, pd_row b]
theorem pd_row : ∀ r : List St, pdDs (lawDs r) = some (pdRow r)
  | [] => rfl
  | s :: r => by simp [lawDs, pdDs, pdRow, pd_st s, pd_row r]
end
theorem okC_lt {c : Nat} (h : okC c = true) : c < 0x110000 := by
  unfold okC at h
  rw [Bool.or_eq_true] at h
  have h1 : letters.all (fun c => decide (c < 0x110000)) = true := by decide +kernel
  have h2 : figures.all (fun c => decide (c < 0x110000)) = true := by decide +kernel
  rcases h with h | h
  · exact of_decide_eq_true (List.all_eq_true.mp h1 c (List.elem_iff.mp h))
  · exact of_decide_eq_true (List.all_eq_true.mp h2 c (List.elem_iff.mp h))
theorem strOk_of {z : Str} (h : OkN z) : PyData.strOk z = true := by
  show z.cps.all (fun x => decide (x < 0x110000)) = true
  rw [← Array.all_toList, List.all_eq_true]
  intro c hc
  exact decide_eq_true (okC_lt (List.all_eq_true.mp h.all c hc))
section
variable {pl : Plan} {ms : List Str} (ok : PlanOk pl) (mok : MsOk ms)
include ok mok
mutual
theorem lay_st : ∀ s : St, stOk pl ms s → (pdSt s).canLay0 = true
  | .write c v, h => by
    obtain ⟨h1, h2⟩ := cv_ok ok h
    simp [pdSt, PyData.canLay0, PyData.canLayAll0, strOk_of h1, strOk_of h2]; decide +kernel
  | .wait c v, h => by
    obtain ⟨h1, h2⟩ := cv_ok ok h
    simp [pdSt, PyData.canLay0, PyData.canLayAll0, strOk_of h1, strOk_of h2]; decide +kernel
  | .mark n, h => by simp [pdSt, PyData.canLay0, PyData.canLayAll0, strOk_of (mok.ok n h)]; decide +kernel
  | .skip, _ => by simp [pdSt, PyData.canLay0, PyData.canLayAll0]; decide +kernel
  | .stop, _ => by simp [pdSt, PyData.canLay0, PyData.canLayAll0]; decide +kernel
  | .ife c v y n, h => by
    obtain ⟨h1, h2⟩ := cv_ok ok h.1
    simp [pdSt, PyData.canLay0, PyData.canLayAll0, lay_row y h.2.1, lay_row n h.2.2, strOk_of h1, strOk_of h2]; decide +kernel
  | .whl c v b, h => by
    obtain ⟨h1, h2⟩ := cv_ok ok h.1
    simp [pdSt, PyData.canLay0, PyData.canLayAll0, lay_row b h.2, strOk_of h1, strOk_of h2]; decide +kernel
  | .loop b, h => by simp [pdSt, PyData.canLay0, PyData.canLayAll0, lay_row b h]; decide +kernel
  | .choose a b, h => by simp [pdSt, PyData.canLay0, PyData.canLayAll0, lay_row a h.1, lay_row b h.2]; decide +kernel
theorem lay_row : ∀ r : List St, rowOk pl ms r → PyData.canLayAll0 (pdRow r) = true
  | [], _ => by simp [pdRow, PyData.canLayAll0]
  | s :: r, h => by simp [pdRow, PyData.canLayAll0, lay_st s h.1, lay_row r h.2]
end
end
mutual
theorem dep_st : ∀ s : St, (pdSt s).depth ≤ 2 * sz s
  | .write c v => by simp [pdSt, PyData.depth, PyData.depthAll, sz]
  | .wait c v => by simp [pdSt, PyData.depth, PyData.depthAll, sz]
  | .mark n => by simp [pdSt, PyData.depth, PyData.depthAll, sz]
  | .skip => by simp [pdSt, PyData.depth, PyData.depthAll, sz]
  | .stop => by simp [pdSt, PyData.depth, PyData.depthAll, sz]
  | .ife c v y n => by have := dep_row y; have := dep_row n; simp [pdSt, PyData.depth, PyData.depthAll, sz]; omega
  | .whl c v b => by have := dep_row b; simp [pdSt, PyData.depth, PyData.depthAll, sz]; omega
  | .loop b => by have := dep_row b; simp [pdSt, PyData.depth, PyData.depthAll, sz]; omega
  | .choose a b => by have := dep_row a; have := dep_row b; simp [pdSt, PyData.depth, PyData.depthAll, sz]; omega
theorem dep_row : ∀ r : List St, PyData.depthAll (pdRow r) ≤ 2 * szs r
  | [] => by simp [pdRow, PyData.depthAll]
  | s :: r => by have := dep_st s; have := dep_row r; simp [pdRow, PyData.depthAll, szs]; omega
end
theorem row_eqE {pl : Plan} {ms : List Str} (ok : PlanOk pl) (mok : MsOk ms) {r : List St} (rok : rowOk pl ms r) (h : szs r ≤ 20) : EqD (rowD r) (.tup []) (decide (r = [])) := by
  have hx : pdD (rowD r) = some (.tuple (pdRow r)) := by simp [rowD, pdD, pd_row r]
  have hy : pdD (.tup []) = some (.tuple []) := rfl
  have sa : SeqAt.shaped (.tuple (pdRow r)) = true := by
    have := dep_row r
    show (PyData.canLay0 (.tuple (pdRow r)) && decide (PyData.depth (.tuple (pdRow r)) ≤ 64)) = true
    rw [Bool.and_eq_true]
    refine ⟨by simp [PyData.canLay0, lay_row ok mok r rok], decide_eq_true ?_⟩
    simp [PyData.depth]; omega
  have e : PyData.eqv (.tuple (pdRow r)) (.tuple []) = decide (r = []) := by
    cases r with
    | nil => simp [pdRow, PyData.eqv, PyData.eqvAll]
    | cons s r => simp [pdRow, PyData.eqv, PyData.eqvAll]
  rw [← e]
  exact .deep hx hy sa (by decide)
end
set_option maxHeartbeats 4000000
section
open PySem PySem.Spec L2
theorem w_neg {g : Gb} {X : Cx} {ρ : Ro} {μ : Mu} {Post : AQ} {a : Expr} {pos : Pos} (h : W g X a ρ μ fun x m => ∃ i, x = .int i ∧ Post (.int (-i)) m) : W g X (.UnaryOp .USub a pos) ρ μ Post := fun σ H at_ =>
  E.of (pe_un un_neg (E.pe X a)) (h.then at_ fun d m u H1 G a1 r1 ⟨i, e, q⟩ => by
    subst e
    exact ⟨i, r1, .int (-i), m, G, a1.mu, rfl, q⟩)
theorem row_one (s : St) : D.tup [.tup (.str (tagOf s) :: restOf s)] = rowD [s] := by rw [← lawD_tag]; rfl
theorem pick2 {x y : D} {b : Bool} : atI [x, y] (if b = true then 1 else 0) = some (if b = true then y else x) := by cases b <;> rfl
theorem last_of (s : St) : ∃ d, atI (D.str (tagOf s) :: restOf s) (-1) = some d ∧ (if decide (tagOf s = "mark") = true then d else D.non) = optS (markOf (some s)) := by
  cases s with
  | mark n => exact ⟨.str n, rfl, if_pos (decide_eq_true rfl)⟩
  | write c v => exact ⟨_, rfl, if_neg (fun z => absurd (of_decide_eq_true z) (by simp only [tagOf]; decide))⟩
  | wait c v => exact ⟨_, rfl, if_neg (fun z => absurd (of_decide_eq_true z) (by simp only [tagOf]; decide))⟩
  | skip => exact ⟨_, rfl, if_neg (fun z => absurd (of_decide_eq_true z) (by simp only [tagOf]; decide))⟩
  | stop => exact ⟨_, rfl, if_neg (fun z => absurd (of_decide_eq_true z) (by simp only [tagOf]; decide))⟩
  | ife c v y n => exact ⟨_, rfl, if_neg (fun z => absurd (of_decide_eq_true z) (by simp only [tagOf]; decide))⟩
  | whl c v b => exact ⟨_, rfl, if_neg (fun z => absurd (of_decide_eq_true z) (by simp only [tagOf]; decide))⟩
  | loop b => exact ⟨_, rfl, if_neg (fun z => absurd (of_decide_eq_true z) (by simp only [tagOf]; decide))⟩
  | choose a b => exact ⟨_, rfl, if_neg (fun z => absurd (of_decide_eq_true z) (by simp only [tagOf]; decide))⟩
theorem wl_f {s : St} {x y : D} (h : tagOf s ∉ (["while", "loop"] : List Str)) : (if isA "while" "loop" s = true then x else y) = y := if_neg fun z => h (of_decide_eq_true z)
theorem wl_t {s : St} {x y : D} (h : tagOf s ∈ (["while", "loop"] : List Str)) : (if isA "while" "loop" s = true then x else y) = x := if_pos (decide_eq_true h)
theorem back_is (s : St) (a b : Nat) : (if isA "while" "loop" s = true then D.int (a : Nat) else D.int (b : Nat)) = .int (backOf s a b : Nat) := by
  cases s with
  | whl c v b => exact wl_t (by simp only [tagOf]; decide)
  | loop b => exact wl_t (by simp only [tagOf]; decide)
  | write c v => exact wl_f (by simp only [tagOf]; decide)
  | wait c v => exact wl_f (by simp only [tagOf]; decide)
  | mark n => exact wl_f (by simp only [tagOf]; decide)
  | skip => exact wl_f (by simp only [tagOf]; decide)
  | stop => exact wl_f (by simp only [tagOf]; decide)
  | ife c v y n => exact wl_f (by simp only [tagOf]; decide)
  | choose a b => exact wl_f (by simp only [tagOf]; decide)
def spLawLay (n : Nat) : ASp := fun ds μ P => ∃ pl ms r first behind f ks vs φ m0, ds = [planD pl, rowD r, .int (first : Nat), .int (behind : Nat), .ptr f] ∧ μ f = some (.dic ks vs) ∧ DicF ks vs φ m0 ∧ PlanOk pl ∧ MsOk ms ∧ rowOk pl ms r ∧ szs r ≤ n ∧ n ≤ 20 ∧ m0 + szs r ≤ 1000 ∧ ∀ ks' vs', DicF ks' vs' (over (layR pl r first behind) (preR r) first φ) (m0 + szs r) → P .non (up μ f (.dic ks' vs'))
/-- the same, of a row that is smaller still (for the call within) -/
def spLawLayS (n : Nat) : ASp := fun ds μ P => 1 ≤ n ∧ spLawLay (n - 1) ds μ P
abbrev N_law_lay : List Str := ["_law_plan_here", "_law_row_here", "_law_first_here", "_law_behind_here", "_law_found", "_law_at", "_law_k", "_law_one", "_law_goal", "_law_back", "_law_begins", "_law_inner", "_law_part"]
abbrev V_law_lay : List Nat := [0, 1, 2, 3, 4, 5, 6, 7, 8, 9, 10, 11, 12]
abbrev G_law_lay : List Str := ["enumerate", "_law_length", "int", "len", "_law_parts", "_law_lay", "_law_exits"]
theorem wk_law_lay {g : Gb} {k : Nat} (Z : Fx g) (n : Nat) {j : Nat} (hj : j ≤ k) (Fl : FnG g j "_law_length" (spLen 21)) (Fp : FnG g j "_law_parts" spParts) (Fy : FnG g j "_law_lay" (spLawLayS n)) (Fe : FnG g j "_law_exits" spExits) : Wlk g k d_law_lay N_law_lay ["_law_plan_here", "_law_row_here", "_law_first_here", "_law_behind_here", "_law_found"] V_law_lay V_law_lay G_law_lay (spLawLay n) := by
  refine ⟨⟨rfl, rfl, rfl, by decide +kernel, rfl, by decide +kernel, by decide +kernel⟩, by decide +kernel, ?_, fun X S ds μ P h => ?_⟩
  · walk_at "sp_len"
  have nn0 : N_law_lay[0]? = some ("_law_plan_here" : Str) := rfl
  have nn1 : N_law_lay[1]? = some ("_law_row_here" : Str) := rfl
  have nn2 : N_law_lay[2]? = some ("_law_first_here" : Str) := rfl
  have nn3 : N_law_lay[3]? = some ("_law_behind_here" : Str) := rfl
  have nn4 : N_law_lay[4]? = some ("_law_found" : Str) := rfl
  have nn5 : N_law_lay[5]? = some ("_law_at" : Str) := rfl
  have nn6 : N_law_lay[6]? = some ("_law_k" : Str) := rfl
  have nn7 : N_law_lay[7]? = some ("_law_one" : Str) := rfl
  have nn8 : N_law_lay[8]? = some ("_law_goal" : Str) := rfl
  have nn9 : N_law_lay[9]? = some ("_law_back" : Str) := rfl
  have nn10 : N_law_lay[10]? = some ("_law_begins" : Str) := rfl
  have nn11 : N_law_lay[11]? = some ("_law_inner" : Str) := rfl
  have nn12 : N_law_lay[12]? = some ("_law_part" : Str) := rfl
  have gg0 : G_law_lay[0]? = some ("enumerate" : Str) := rfl
  have gg1 : G_law_lay[1]? = some ("_law_length" : Str) := rfl
  have gg2 : G_law_lay[2]? = some ("int" : Str) := rfl
  have gg3 : G_law_lay[3]? = some ("len" : Str) := rfl
  have gg4 : G_law_lay[4]? = some ("_law_parts" : Str) := rfl
  have gg5 : G_law_lay[5]? = some ("_law_lay" : Str) := rfl
  have gg6 : G_law_lay[6]? = some ("_law_exits" : Str) := rfl
  refine wb_cons ?_
  obtain ⟨pl, ms, r, first, behind, f, ks, vs, φ, m0, rfl, hf, dic, ok, mok, rok, hs, hn, hm0, q⟩ := h
  have hlen := len_szs r
  have hrl : (lawDs r).length = r.length := by rw [lawDs_map, List.length_map]
  refine ws_v (by assumption) (by with_reducible assumption) rfl ?_
  walk_at "g"
  refine ws_for (by assumption) ?_
  refine wi_enumT (by assumption) (by with_reducible assumption) (Fx.free (by assumption) 66 rfl) ?_
  walk_at "g"
  refine ⟨fun i ρ' m' => ∃ ks' vs' a6 a7 a8 a9 a10 a11 a12, ρ' = [some (planD pl), some (rowD r), some (.int (first : Nat)), some (.int (behind : Nat)), some (.ptr f), some (.int ((first + szs (r.take i) : Nat) : Int)), a6, a7, a8, a9, a10, a11, a12] ∧ m' = up μ f (.dic ks' vs') ∧ DicF ks' vs' (over (layR pl (r.take i) first (bg (r.drop i) (first + szs (r.take i)) behind)) (preR (r.take i)) first φ) (m0 + szs (r.take i)), ⟨ks, vs, _, _, _, _, _, _, _, rfl, (up_id hf).symm, ?_⟩, ?_, ?_⟩
  · rw [List.take_zero]
    exact dic.imp over_nil.symm rfl
  · rintro i d ρ' m' hd ⟨ks1, vs1, a6, a7, a8, a9, a10, a11, a12, rfl, rfl, dic1⟩
    obtain ⟨d0, hd0, ed⟩ := numD_at hd
    subst ed
    rw [lawDs_map, List.getElem?_map] at hd0
    cases ht : r[i]? with
    | none => rw [ht] at hd0; cases hd0
    | some s =>
      rw [ht] at hd0
      cases hd0
      have hi : i < r.length := (List.getElem?_eq_some_iff.mp ht).1
      have hst := szs_take_succ ht
      have etk : r.take (i + 1) = r.take i ++ [s] := by rw [List.take_succ, ht]; rfl
      have edr : r.drop i = s :: r.drop (i + 1) := by
        rw [List.drop_eq_getElem_cons hi, (List.getElem?_eq_some_iff.mp ht).2]
      have sok := row_mem rok (List.mem_of_getElem? ht)
      have s1 : szs [s] = sz s := by simp [szs]
      have spos := sz_pos s
      have esz : szs (r.take (i + 1)) = szs (r.take i) + sz s := by rw [etk, szs_app, s1]
      generalize hat : first + szs (r.take i) = at_
      have hat2 : first + szs (r.take (i + 1)) = at_ + sz s := by omega
      generalize hg : bg (r.drop (i + 1)) (at_ + sz s) behind = goal
      rw [lawD_tag]
      walk_at "g"
      refine ⟨[s], by rw [row_one], by omega, ?_⟩
      walk_at "g"
      refine ⟨.int (goal : Nat), .l ?_, ?_⟩
      · rw [pick2]
        congr 1
        have ec : (decide (((0 + i : Nat) : Int) + 1 = ((lawDs r).length : Nat))) = decide (i + 1 = r.length) := decide_eq_decide.mpr (by omega)
        rw [ec]
        by_cases h : i + 1 = r.length
        · rw [if_pos (decide_eq_true h), ← hg]
          have : r.drop (i + 1) = [] := List.drop_eq_nil_of_le (by omega)
          rw [this]; rfl
        · rw [if_neg (by intro z; exact h (of_decide_eq_true z)), ← hg]
          rw [List.drop_eq_getElem_cons (by omega : i + 1 < r.length)]
          show D.int _ = D.int _
          congr 1
      walk_at "g"
      rw [inA]
      walk_at "g"
      refine ⟨.int (backOf s at_ goal : Nat), .l ?_, ?_⟩
      · rw [pick2, back_is]
      walk_at "g"
      refine ws_setL (by assumption) 10 rfl rfl ?_
      walk_at "g"
      intro bp hbp
      have hfb : f ≠ bp := mu_ne up_same hbp
      walk_at "g"
      refine ws_for (by assumption) ?_
      refine wi_tup (by assumption) ?_
      walk_at "g"
      refine ⟨s, by rw [lawD_tag], ?_⟩
      refine ⟨_, rfl, ?_⟩
      refine ⟨fun jj ρ' m' => ∃ ks2 vs2 a12, ρ' = [some (planD pl), some (rowD r), some (.int (first : Nat)), some (.int (behind : Nat)), some (.ptr f), some (.int (at_ : Nat)), some (.int ((0 + i : Nat) : Int)), some (.tup (.str (tagOf s) :: restOf s)), some (.int (goal : Nat)), some (.int (backOf s at_ goal : Nat)), some (.ptr bp), some (.int ((at_ + 1 + szp ((partsOf s).take jj) : Nat) : Int)), a12] ∧ m' = up (up μ f (.dic ks2 vs2)) bp (.lst ((begs ((partsOf s).take jj) (at_ + 1) (backOf s at_ goal)).map fun b : Nat => .int b)) ∧ DicF ks2 vs2 (over (layP pl ((partsOf s).take jj) (at_ + 1) (backOf s at_ goal)) (((partsOf s).take jj).map preR).flatten (at_ + 1) (over (layR pl (r.take i) first (bg (r.drop i) at_ behind)) (preR (r.take i)) first φ)) (m0 + szs (r.take i) + szp ((partsOf s).take jj)), ⟨ks1, vs1, a12, ?_, ?_, ?_⟩, ?_, ?_⟩
      · rw [List.take_zero]; rfl
      · rw [List.take_zero]; rfl
      · rw [List.take_zero]
        rw [hat] at dic1
        exact dic1.imp over_nil.symm rfl
      · rintro jj d ρ' m' hd ⟨ks2, vs2, a12, rfl, rfl, dic2⟩
        rw [List.getElem?_map] at hd
        cases htp : (partsOf s)[jj]? with
        | none => rw [htp] at hd; cases hd
        | some p =>
          rw [htp] at hd
          cases hd
          have hps := parts_sz s p (List.mem_of_getElem? htp)
          have hzt := szp_take htp
          have hpl := len_szs p
          have pok := parts_ok s p sok (List.mem_of_getElem? htp)
          have hbl : (begs ((partsOf s).take jj) (at_ + 1) (backOf s at_ goal)).length ≤ 2 := by
            rw [begs_len, List.length_take]; have := len_parts s; omega
          walk_at "g"
          refine ws_append (by assumption) rfl ?_
          walk_at "g"
          refine ⟨⟨_, up_same⟩, ?_⟩
          walk_at "g"
          refine ⟨_, row_eqE ok mok pok (by omega), ?_⟩
          walk_at "g"
          refine ⟨.int (bg p (at_ + 1 + szp ((partsOf s).take jj)) (backOf s at_ goal) : Nat), .l ?_, ?_⟩
          · rw [pick2]
            cases p with
            | nil => rfl
            | cons x y => rfl
          refine ⟨_, up_same, by rw [List.length_map]; omega, ?_⟩
          rw [up_up]
          walk_at "g"
          refine ⟨by omega, pl, ms, p, _, _, f, ks2, vs2, _, _, rfl, by rw [up_ne hfb]; exact up_same, dic2, ok, mok, pok, by omega, by omega, by omega, fun ks3 vs3 dic3 => ?_⟩
          walk_at "g"
          refine ⟨p, rfl, by omega, ?_⟩
          have etk2 : (partsOf s).take (jj + 1) = (partsOf s).take jj ++ [p] := by rw [List.take_succ, htp]; rfl
          have eI : ((at_ + 1 + szp ((partsOf s).take jj) : Nat) : Int) + (szs p : Nat) = ((at_ + 1 + szp ((partsOf s).take (jj + 1)) : Nat) : Int) := by
            rw [etk2]; simp [szp]; omega
          walk_at "g"
          rw [eI]
          refine ⟨ks3, vs3, _, rfl, ?_, ?_⟩
          · rw [up_comm (Ne.symm hfb), up_up, etk2, begs_app, List.map_append]
            rfl
          · refine dic3.imp ?_ ?_
            · rw [etk2, layP_app, List.map_append, List.flatten_append]
              have hl1 : (layP pl ((partsOf s).take jj) (at_ + 1) (backOf s at_ goal)).length = (((partsOf s).take jj).map preR).flatten.length := by rw [layP_len, flat_pre_len]
              rw [over_app hl1, layP_len]
              simp
            · rw [etk2]; simp [szp]; omega
      · rintro ρ' m' ⟨ks2, vs2, a12, rfl, rfl, dic2⟩
        rw [List.length_map, List.take_length] at dic2 ⊢
        have hbn : up μ f (.dic ks2 vs2) bp = none := by rw [up_ne (Ne.symm hfb)]; rw [up_ne (Ne.symm hfb)] at hbp; exact hbp
        refine wb_frz 10 rfl up_same rfl ?_
        rw [dl_up hbn]
        have hzp := szp_parts s
        obtain ⟨dl_, hl1, hl2⟩ := last_of s
        walk_at "g"
        refine ws_dput (by assumption) ?_
        walk_at "g"
        refine w_neg ?_
        walk_at "g"
        refine ⟨_, .t hl1, ?_⟩
        walk_at "g"
        refine ⟨optS (markOf (some s)), .l ?_, ?_⟩
        · rw [pick2, hl2]
        walk_at "g"
        refine ⟨pl, ms, s, _, goal, by rw [lawD_tag]; rfl, ok, sok, by rw [begs_len], ?_⟩
        walk_at "g"
        refine ⟨f, ks2, vs2, .inl (at_ : Nat), rfl, up_same, rfl, dic2.nd, by have := dic2.sz; omega, ?_⟩
        rw [up_up]
        walk_at "g"
        refine ⟨[s], by rw [row_one], by omega, ?_⟩
        have eA : ((at_ : Nat) : Int) + (szs [s] : Nat) = ((first + szs (r.take (i + 1)) : Nat) : Int) := by omega
        walk_at "g"
        rw [eA]
        refine ⟨_, _, _, _, _, _, _, _, _, rfl, rfl, ?_⟩
        refine (dic2.put (at_ : Nat) _).imp ?_ ?_
        · have hfin : layR pl (r.take (i + 1)) first (bg (r.drop (i + 1)) (first + szs (r.take (i + 1))) behind) = layR pl (r.take i) first (bg (r.drop i) at_ behind) ++ layS pl s at_ goal := by
            rw [etk, layR_app, edr, ← etk, hat2, hat, hg]
            congr 1
            simp only [layR, bg, List.append_nil]
          have hpre : preR (r.take (i + 1)) = preR (r.take i) ++ preS s := by
            rw [etk, preR_map, List.map_append, List.flatten_append, ← preR_map]; simp
          have hll : (layR pl (r.take i) first (bg (r.drop i) at_ behind)).length = (preR (r.take i)).length := by rw [layR_len, preR_len]
          rw [hfin, hpre, over_app hll, layR_len, hat, layS_eq, preS_parts, over_cons]
          rfl
        · omega
      all_goals rfl
  · rintro ρ' m' ⟨ks1, vs1, a6, a7, a8, a9, a10, a11, a12, rfl, rfl, dic1⟩
    rw [numD_len, hrl, List.take_length, List.drop_length] at dic1
    walk_at "g"
    exact q ks1 vs1 dic1
theorem ok_law_lay {g : Gb} {k : Nat} (Z : Fx g) (n : Nat) {j : Nat} (hj : j ≤ k) (Fl : FnG g j "_law_length" (spLen 21)) (Fp : FnG g j "_law_parts" spParts) (Fy : FnG g j "_law_lay" (spLawLayS n)) (Fe : FnG g j "_law_exits" spExits) : FnG g (k + 1) "_law_lay" (spLawLay n) :=
  Z.fn 72 46 rfl rfl rfl rfl (fun _ _ _ _ _ _ us hl => match us, hl with | [_, _, _, _, _], _ => rfl) (wk_law_lay Z n hj Fl Fp Fy Fe)
theorem z_law_lay {g : Gb} {k : Nat} (Z : Fx g) : FnG g (k + 1) "_law_lay" (fun _ _ _ => False) :=
  Z.fn 72 46 rfl rfl rfl rfl (fun _ _ _ _ _ _ us hl => match us, hl with | [_, _, _, _, _], _ => rfl) (ps := ["_law_plan_here", "_law_row_here", "_law_first_here", "_law_behind_here", "_law_found"]) (N := N_law_lay) (vis := V_law_lay) (loc := V_law_lay) (gl := G_law_lay) ⟨⟨rfl, rfl, rfl, by decide +kernel, rfl, by decide +kernel, by decide +kernel⟩, by decide +kernel, fun _ _ _ h => h.elim, fun _ _ _ _ _ h => h.elim⟩
end
set_option maxHeartbeats 4000000
section
open PySem PySem.Spec L2
/-- a dict display that is to be changed -/
theorem w_dispM {g : Gb} {X : Cx} {ρ : Ro} {μ : Mu} {Post : AQ} {pos : Pos} {ks : List (Option Expr)} {vs : List Expr} (h : ∀ q, μ q = none → WP g X ks vs ρ (up μ q (.dic [] [])) fun kds m => ∃ m', m = up m' q (.dic [] []) ∧ m' q = none ∧ (kds.map (·.1)).Nodup ∧ kds.length ≤ 15 ∧ Post (.ptr q) (up m' q (.dic (kds.map (·.1)) (kds.map (·.2)))))
    (hall : ks.all (·.isSome) = true := by rfl) (hl : ks.length = vs.length := by rfl) (h0 : ks ≠ [] := by exact fun z => by cases z) (h15 : ks.length ≤ 15 := by decide) : W g X (.Dict ks vs pos) ρ μ Post := fun σ H at_ => by
  refine E.of (pe_disp (pps_of X pos hall hl) hall hl h0 h15) ?_
  intro q hq
  have G0 : Gs μ (up μ q (.dic [] [])) H (upd H q (.dK [])) := gs_alloc hq
  have a0 := at_.go G0 (mk_alloc at_.mu hq ⟨[], upd_same, rfl, rfl⟩)
  refine (h q (at_.mu.new hq)).then a0 fun kds m H1 us G1 a1 r1 ⟨m', em, hm, nd, hz, post⟩ => ?_
  subst em
  obtain ⟨xs, hx, hl0, rx⟩ := a1.mu q _ up_same
  have hxs : H1 q = some (.dK []) := by rw [hx]; rfl
  have lus := rps_length r1
  rw [List.length_map] at lus
  refine ⟨hxs, (kds.map (·.1)).zip us, zipWith_kV kds us, by rw [List.length_zip, List.length_map]; omega, ?_⟩
  have em : mergeK [] ((kds.map (·.1)).zip us) = (kds.map (·.1)).zip us := by
    have := mergeK_apart ((kds.map (·.1)).zip us) [] (by
      rw [List.map_nil, List.nil_append, List.map_fst_zip (by rw [List.length_map]; omega)]
      exact nd)
    simpa using this
  rw [em]
  have G2 := gs_write (μ := up m' q (.dic [] [])) (H := H1) (o := .dK ((kds.map (·.1)).zip us)) (c' := .dic (kds.map (·.1)) (kds.map (·.2))) up_same
  have M2 := mk_write (o := .dK ((kds.map (·.1)).zip us)) (c' := .dic (kds.map (·.1)) (kds.map (·.2))) a1.mu up_same ⟨us, upd_same, by rw [List.length_map]; omega, rps_mono G2 _ _ r1⟩
  rw [up_up] at G2 M2
  exact ⟨.ptr q, _, (G0.trans G1).trans G2, M2, rfl, post⟩
def roomD (pl : Plan) (r : List St) (i : Nat) : D := entD (preR r)[i]? (esAt pl r i)
def lroomsD (pl : Plan) (r : List St) : D := .lst ((List.range (szs r + 1)).map (roomD pl r))
theorem room_at {pl : Plan} {r : List St} {i : Nat} (h : i ≤ szs r) : over (layR pl r 0 (szs r)) (preR r) 0 (fun z => if z = ((szs r : Nat) : Int) then some (.tup [.non, .lst []]) else none) (i : Nat) = some (roomD pl r i) := by
  unfold over
  rw [if_neg (by omega)]
  have e0 : (((i : Nat) : Int) - ((0 : Nat) : Int)).toNat = i := by omega
  rw [e0]
  unfold roomD esAt roomsM
  have hl : (layR pl r 0 (szs r)).length = szs r := layR_len ..
  have hp : (preR r).length = szs r := preR_len ..
  by_cases hi : i < szs r
  · rw [List.getElem?_append_left (by omega), List.getElem?_eq_getElem (by omega)]
    rfl
  · have hi : i = szs r := by omega
    subst hi
    rw [List.getElem?_eq_none (by omega), List.getElem?_append_right (by omega), hl, Nat.sub_self, List.getElem?_eq_none (l := preR r) (by omega)]
    show (if _ then _ else _) = _
    rw [if_pos rfl]
    rfl
def spRooms : ASp := fun ds μ P => ∃ pl ms r, ds = [planD pl, rowD r] ∧ PlanOk pl ∧ MsOk ms ∧ rowOk pl ms r ∧ szs r ≤ 5 ∧ P (lroomsD pl r) μ
abbrev N_law_rooms : List Str := ["_law_plan_here", "_law_row_here", "_law_last", "_law_found", "_law_room"]
abbrev V_law_rooms : List Nat := [0, 1, 2, 3]
abbrev G_law_rooms : List Str := ["_law_length", "_law_lay", "range"]
abbrev V_law_rooms_0 : List Nat := [3, 4]
abbrev L_law_rooms_0 : List Nat := [4]
abbrev G_law_rooms_0 : List Str := []
abbrev O_law_rooms_0 : List (Str × Nat) := [("_law_room", 4)]
theorem wk_law_rooms {g : Gb} {k : Nat} (Z : Fx g) {j : Nat} (hj : j ≤ k) (Fl : FnG g j "_law_length" (spLen 21)) (Fy : FnG g j "_law_lay" (spLawLay 5)) : Wlk g k d_law_rooms N_law_rooms ["_law_plan_here", "_law_row_here"] V_law_rooms V_law_rooms G_law_rooms spRooms := by
  refine ⟨⟨rfl, rfl, rfl, by decide +kernel, rfl, by decide +kernel, by decide +kernel⟩, by decide +kernel, ?_, fun X S ds μ P h => ?_⟩
  · walk_at "sp_len"
  have nn0 : N_law_rooms[0]? = some ("_law_plan_here" : Str) := rfl
  have nn1 : N_law_rooms[1]? = some ("_law_row_here" : Str) := rfl
  have nn2 : N_law_rooms[2]? = some ("_law_last" : Str) := rfl
  have nn3 : N_law_rooms[3]? = some ("_law_found" : Str) := rfl
  have nn4 : N_law_rooms[4]? = some ("_law_room" : Str) := rfl
  have gg0 : G_law_rooms[0]? = some ("_law_length" : Str) := rfl
  have gg1 : G_law_rooms[1]? = some ("_law_lay" : Str) := rfl
  have gg2 : G_law_rooms[2]? = some ("range" : Str) := rfl
  refine wb_cons ?_
  obtain ⟨pl, ms, r, rfl, ok, mok, rok, hs, q⟩ := h
  refine ws_v (by assumption) (by with_reducible assumption) rfl ?_
  walk_at "g"
  refine ⟨r, rfl, by omega, ?_⟩
  refine wb_cons ?_
  refine ws_v (by assumption) (by with_reducible assumption) rfl ?_
  refine w_dispM fun f hf => ?_
  walk_at "g"
  refine ⟨μ, rfl, hf, by simp, by simp, ?_⟩
  walk_at "g"
  refine ⟨pl, ms, r, 0, szs r, f, _, _, fun z => if z = ((szs r : Nat) : Int) then some (.tup [.non, .lst []]) else none, 1, rfl, up_same, ?_, ok, mok, rok, hs, by decide, by omega, fun ks' vs' dic => ?_⟩
  · refine ⟨by simp, rfl, fun z => ?_, by simp⟩
    by_cases h : z = ((szs r : Nat) : Int)
    · subst h; simp [vD]
    · have h' : ¬ ((szs r : Nat) : Int) = z := fun e => h e.symm
      have h'' : ¬ (Sum.inl ((szs r : Nat) : Int) : Key) = .inl z := fun e => h' (Sum.inl.inj e)
      simp [vD, h, h'']
  rw [up_up]
  walk_at "g"
  refine w_post ?_
  refine w_lcM (vis' := V_law_rooms_0) (loc' := L_law_rooms_0) (gl' := G_law_rooms_0) (by assumption) O_law_rooms_0 (by decide +kernel) (by decide +kernel) ?_
  walk_at "g"
  have e1 : rngD 0 (((szs r : Nat) : Int) + 1).toNat = (List.range (szs r + 1)).map fun i : Nat => D.int (0 + (i : Nat)) := by
    have : (((szs r : Nat) : Int) + 1).toNat = szs r + 1 := by omega
    rw [this]; rfl
  refine ⟨Nat, List.range (szs r + 1), fun i : Nat => .int (0 + (i : Nat)), roomD pl r, e1, by rw [List.length_range]; omega, fun i hi p2 acc hp2 => ⟨?_, fun X' S' => ?_, fun X' S' => ?_⟩, ⟨f, ?_⟩⟩
  rotate_left
  · walk_at "g"
  · refine w_dget (by assumption) ?_
    walk_at "g"
    have hfp : f ≠ p2 := mu_ne up_same hp2
    have hi2 : i ≤ szs r := by have := List.mem_range.mp hi; omega
    refine ⟨ks', vs', .inl (0 + (i : Nat)), roomD pl r i, ?_, rfl, ?_, ?_⟩
    · show (match up (up μ f (.dic ks' vs')) p2 (.lst acc) f with | some (.dic ks ds) => some (ks, ds) | _ => none) = _
      rw [up_ne hfp, up_same]
    · rw [dic.at_, Int.zero_add, room_at hi2]
    · exact ⟨rfl, rfl⟩
  · rw [dl_up hf]
    exact q
theorem ok_law_rooms {g : Gb} {k : Nat} (Z : Fx g) {j : Nat} (hj : j ≤ k) (Fl : FnG g j "_law_length" (spLen 21)) (Fy : FnG g j "_law_lay" (spLawLay 5)) : FnG g (k + 1) "_law_rooms" spRooms :=
  Z.fn 73 47 rfl rfl rfl rfl (fun _ _ _ _ _ _ us hl => match us, hl with | [_, _], _ => rfl) (wk_law_rooms Z hj Fl Fy)
def gKs : List Key := [.inr "plan", .inr "rows", .inr "rooms"]
def gVs (pl : Plan) (r0 r1 : List St) : List D := [planD pl, .lst [rowD r0, rowD r1], .lst [lroomsD pl r0, lroomsD pl r1]]
def gD (pl : Plan) (r0 r1 : List St) : D := .dic gKs (gVs pl r0 r1)
def spWorld : ASp := fun ds μ P => ∃ pl ms r0 r1, ds = [planD pl, .lst [rowD r0, rowD r1]] ∧ MsOk ms ∧ GOk pl ms r0 r1 ∧ P (gD pl r0 r1) μ
abbrev N_law_world : List Str := ["_law_plan_here", "_law_rows", "_law_row_here"]
abbrev V_law_world : List Nat := [0, 1]
abbrev G_law_world : List Str := []
abbrev V_law_world_0 : List Nat := [0, 2]
abbrev L_law_world_0 : List Nat := [2]
abbrev G_law_world_0 : List Str := ["_law_rooms"]
abbrev O_law_world_0 : List (Str × Nat) := [("_law_row_here", 2)]
theorem wk_law_world {g : Gb} {k : Nat} (Z : Fx g) {j : Nat} (hj : j ≤ k) (Fr : FnG g j "_law_rooms" spRooms) : Wlk g k d_law_world N_law_world ["_law_plan_here", "_law_rows"] V_law_world V_law_world G_law_world spWorld := by
  refine ⟨⟨rfl, rfl, rfl, by decide +kernel, rfl, by decide +kernel, by decide +kernel⟩, by decide +kernel, ?_, fun X S ds μ P h => ?_⟩
  · walk_at "sp_len"
  have nn0 : N_law_world[0]? = some ("_law_plan_here" : Str) := rfl
  have nn1 : N_law_world[1]? = some ("_law_rows" : Str) := rfl
  have nn2 : N_law_world[2]? = some ("_law_row_here" : Str) := rfl
  have gc0_0 : G_law_world_0[0]? = some ("_law_rooms" : Str) := rfl
  refine wb_cons ?_
  obtain ⟨pl, ms, r0, r1, rfl, mok, gok, q⟩ := h
  refine ws_ret ?_
  refine w_disp fun q0 hq0 => ?_
  walk_at "g"
  refine w_lcM (vis' := V_law_world_0) (loc' := L_law_world_0) (gl' := G_law_world_0) (by assumption) O_law_world_0 (by decide +kernel) (by decide +kernel) ?_
  refine wi_lst (by assumption) ?_
  walk_at "g"
  refine ⟨List St, [r0, r1], rowD, lroomsD pl, rfl, by show 2 ≤ 100000; decide, fun r hr p2 acc hp2 => ⟨?_, fun X' S' => ?_, fun X' S' => ?_⟩, ?_⟩
  rotate_left
  · walk_at "g"
  · walk_at "g"
    have hr2 : rowOk pl ms r ∧ szs r ≤ 5 := by
      have := gok.z0
      have := gok.z1
      rcases List.mem_cons.mp hr with e | e
      · subst e; exact ⟨gok.k0, by omega⟩
      · have : r = r1 := by simpa using e
        subst this; exact ⟨gok.k1, by omega⟩
    refine ⟨pl, ms, r, rfl, gok.ok, mok, hr2.1, hr2.2, ?_⟩
    exact ⟨rfl, rfl⟩
  walk_at "g"
  exact ⟨μ, rfl, hq0, by show List.Nodup [(Sum.inr "plan" : Key), .inr "rows", .inr "rooms"]; decide +kernel, by show 3 ≤ 15; decide, q⟩
theorem ok_law_world {g : Gb} {k : Nat} (Z : Fx g) {j : Nat} (hj : j ≤ k) (Fr : FnG g j "_law_rooms" spRooms) : FnG g (k + 1) "_law_world" spWorld :=
  Z.fn 74 48 rfl rfl rfl rfl (fun _ _ _ _ _ _ us hl => match us, hl with | [_, _], _ => rfl) (wk_law_world Z hj Fr)
end
set_option maxHeartbeats 4000000
section
open PySem PySem.Spec L2
theorem g_plan (pl : Plan) (r0 r1 : List St) : vD gKs (gVs pl r0 r1) (.inr "plan") = some (planD pl) := by with_unfolding_all rfl
theorem g_rows (pl : Plan) (r0 r1 : List St) : vD gKs (gVs pl r0 r1) (.inr "rows") = some (.lst [rowD r0, rowD r1]) := by with_unfolding_all rfl
theorem g_rooms (pl : Plan) (r0 r1 : List St) : vD gKs (gVs pl r0 r1) (.inr "rooms") = some (.lst [lroomsD pl r0, lroomsD pl r1]) := by with_unfolding_all rfl
section
variable {g : Gb} {k : Nat} {N : List Str} {vis loc : List Nat} {gl : List Str} {sc : Scope} {X : Cx} {ρ : Ro} {μ : Mu} {Post : AQ} {pos p : Pos} {o : Expr}
theorem w_gP (S : Sit g k N vis loc gl sc X) {j} (h : W g X o ρ μ fun x m => ∃ pl r0 r1, x = gD pl r0 r1 ∧ Post (planD pl) m) : W g X (.Subscript o (.Constant (.str "plan") j p) pos) ρ μ Post :=
  w_dget S (h.mono fun x m ⟨pl, r0, r1, e, q⟩ => w_str ⟨gKs, gVs pl r0 r1, .inr "plan", planD pl, by rw [e]; rfl, rfl, g_plan pl r0 r1, q⟩)
theorem w_gR (S : Sit g k N vis loc gl sc X) {j} (h : W g X o ρ μ fun x m => ∃ pl r0 r1, x = gD pl r0 r1 ∧ Post (.lst [rowD r0, rowD r1]) m) : W g X (.Subscript o (.Constant (.str "rows") j p) pos) ρ μ Post :=
  w_dget S (h.mono fun x m ⟨pl, r0, r1, e, q⟩ => w_str ⟨gKs, gVs pl r0 r1, .inr "rows", _, by rw [e]; rfl, rfl, g_rows pl r0 r1, q⟩)
theorem w_gS (S : Sit g k N vis loc gl sc X) {j} (h : W g X o ρ μ fun x m => ∃ pl r0 r1, x = gD pl r0 r1 ∧ Post (.lst [lroomsD pl r0, lroomsD pl r1]) m) : W g X (.Subscript o (.Constant (.str "rooms") j p) pos) ρ μ Post :=
  w_dget S (h.mono fun x m ⟨pl, r0, r1, e, q⟩ => w_str ⟨gKs, gVs pl r0 r1, .inr "rooms", _, by rw [e]; rfl, rfl, g_rooms pl r0 r1, q⟩)
end
theorem okn_m : OkN "m" := okn_one (ch := 109) (by decide +kernel)
def spDrawn : ASp := fun ds μ P => ∃ p b c, ds = [.ptr p, .int 2, .lst [.int 3, .int 2]] ∧ μ p = some c ∧ Well (b + 1000) c ∧ ∀ pl ms r0 r1 c', MsOk ms → GOk pl ms r0 r1 → Well b c' → P (gD pl r0 r1) (up μ p c')
abbrev N_law_drawn : List Str := ["_law_well_here", "_law_cells", "_law_sizes", "_law_plan_here", "_law_marks_here", "_law_rows", "_law_most"]
abbrev V_law_drawn : List Nat := [0, 1, 2, 3, 4, 5, 6]
abbrev G_law_drawn : List Str := ["_law_plan", "_law_word", "_law_row", "max", "_law_draw", "_law_world"]
theorem wk_law_drawn {g : Gb} {k : Nat} (Z : Fx g) {j : Nat} (hj : j ≤ k) (Fp : FnG g j "_law_plan" spPlan) (Fw : FnG g j "_law_word" spWord) (Fr : FnG g j "_law_row" (spRow 3)) (Fd : FnG g j "_law_draw" spDraw) (Fo : FnG g j "_law_world" spWorld) : Wlk g k d_law_drawn N_law_drawn ["_law_well_here", "_law_cells", "_law_sizes"] V_law_drawn V_law_drawn G_law_drawn spDrawn := by
  refine ⟨⟨rfl, rfl, rfl, by decide +kernel, rfl, by decide +kernel, by decide +kernel⟩, by decide +kernel, ?_, fun X S ds μ P h => ?_⟩
  · walk_at "sp_len"
  have nn0 : N_law_drawn[0]? = some ("_law_well_here" : Str) := rfl
  have nn1 : N_law_drawn[1]? = some ("_law_cells" : Str) := rfl
  have nn2 : N_law_drawn[2]? = some ("_law_sizes" : Str) := rfl
  have nn3 : N_law_drawn[3]? = some ("_law_plan_here" : Str) := rfl
  have nn4 : N_law_drawn[4]? = some ("_law_marks_here" : Str) := rfl
  have nn5 : N_law_drawn[5]? = some ("_law_rows" : Str) := rfl
  have nn6 : N_law_drawn[6]? = some ("_law_most" : Str) := rfl
  have gg0 : G_law_drawn[0]? = some ("_law_plan" : Str) := rfl
  have gg1 : G_law_drawn[1]? = some ("_law_word" : Str) := rfl
  have gg2 : G_law_drawn[2]? = some ("_law_row" : Str) := rfl
  have gg3 : G_law_drawn[3]? = some ("max" : Str) := rfl
  have gg4 : G_law_drawn[4]? = some ("_law_draw" : Str) := rfl
  have gg5 : G_law_drawn[5]? = some ("_law_world" : Str) := rfl
  refine wb_cons ?_
  obtain ⟨p, b, c, rfl, hp, w, q⟩ := h
  walk_at "g"
  refine ⟨p, b + 880, c, rfl, hp, w.weak (by omega), fun pl c1 pok w1 => ?_⟩
  refine wb_cons ?_
  refine ws_v (by assumption) (by with_reducible assumption) rfl ?_
  walk_at "g"
  refine ⟨p, b + 860, c1, _, [], rfl, up_same, w1.weak (by omega), .inl rfl, by decide, fun nm c2 okn _ w2 => ?_⟩
  rw [up_up]
  walk_at "g"
  refine ws_setL (by assumption) 5 rfl rfl ?_
  walk_at "g"
  intro f hf
  have hpf : p ≠ f := mu_ne up_same hf
  have mok : MsOk [nm, "m"] := ⟨by simp, by simp, fun z hz => by
    rcases List.mem_cons.mp hz with e | e
    · subst e; exact okn
    · have : z = "m" := by simpa using e
      subst this; exact okn_m⟩
  walk_at "g"
  refine ws_for (by assumption) ?_
  refine wi_lst (by assumption) ?_
  walk_at "g"
  refine ⟨fun i ρ' m' => ∃ (rs : List (List St)) (c3 : MC) (a6 : Option D), ρ' = [some (.ptr p), some (.int 2), some (.lst [.int 3, .int 2]), some (planD pl), some (.lst [.str nm, .str "m"]), some (.ptr f), a6] ∧ m' = up (up μ p c3) f (.lst (rs.map rowD)) ∧ Well (b + 860 - 400 * i) c3 ∧ rs.length = i ∧ (∀ r, r ∈ rs → rowOk pl [nm, "m"] r) ∧ ∀ x r, rs[x]? = some r → szs r ≤ 3 - x, ⟨[], c2, _, rfl, rfl, w2, rfl, (fun _ h => by cases h), fun x r h => by cases h⟩, ?_, ?_⟩
  · rintro i d ρ' m' hd ⟨rs, c3, a6, rfl, rfl, w3, hl, hrs, hsz⟩
    have hi : i < 2 := (List.getElem?_eq_some_iff.mp hd).1
    have hd2 : d = .int ((3 - i : Nat) : Int) := by
      have : i = 0 ∨ i = 1 := by omega
      rcases this with e | e <;> subst e <;> exact (Option.some.inj hd).symm
    subst hd2
    walk_at "g"
    refine ws_append (by assumption) rfl ?_
    walk_at "g"
    refine ⟨⟨_, up_same⟩, ?_⟩
    refine w_call (by assumption) Fr hj _ (by with_reducible assumption) ?_
    walk_at "g"
    refine w_max2 (by assumption) _ (by with_reducible assumption) (Fx.free (by assumption) 71 rfl) ?_
    walk_at "g"
    have hp3 : up (up μ p c3) f (.lst (rs.map rowD)) p = some c3 := by rw [up_ne hpf]; exact up_same
    refine ⟨p, b + 859 - 400 * i, c3, _, rfl, hp3, w3.weak (by omega), by omega, by omega, fun x1 c4 x10 x11 w4 => ?_⟩
    have hmu : ∀ c c', up (up (up μ p c) f (.lst (rs.map rowD))) p c' = up (up μ p c') f (.lst (rs.map rowD)) := fun c c' => by rw [up_comm (Ne.symm hpf), up_up]
    rw [hmu]
    walk_at "g"
    refine ⟨p, b + 858 - 400 * i, c4, _, rfl, by rw [up_ne hpf]; exact up_same, w4.weak (by omega), by omega, by omega, fun x2 c5 x20 x21 w5 => ?_⟩
    rw [hmu]
    refine ⟨x1, x2, rfl, rfl, ?_⟩
    have hsz0 : ∃ z : Nat, (if x2 > x1 then x2 else x1) = (z : Int) ∧ z ≤ 3 - i := by
      refine ⟨(if x2 > x1 then x2 else x1).toNat, ?_, ?_⟩
      · split <;> omega
      · split <;> omega
    obtain ⟨z, ez, hz⟩ := hsz0
    rw [ez]
    walk_at "g"
    refine ⟨p, b + 500 - 400 * i, c5, pl, [nm, "m"], z, rfl, by rw [up_ne hpf]; exact up_same, w5.weak (by show b + 500 - 400 * i + 312 ≤ _; omega), pok, mok, by omega, by decide, fun r c6 rok rsz w6 => ?_⟩
    rw [hmu]
    refine ⟨_, up_same, by rw [List.length_map]; omega, ?_⟩
    refine ⟨rs ++ [r], c6, _, rfl, by rw [up_up, List.map_append]; rfl, w6.weak (by omega), by simp [hl], fun r' hr' => ?_, fun x r' hx => ?_⟩
    · rcases List.mem_append.mp hr' with e | e
      · exact hrs r' e
      · have : r' = r := by simpa using e
        subst this; exact rok
    · by_cases hxl : x < rs.length
      · rw [List.getElem?_append_left hxl] at hx
        exact hsz x r' hx
      · rw [List.getElem?_append_right (by omega)] at hx
        have hx0 : x - rs.length = 0 := by
          have := (List.getElem?_eq_some_iff.mp hx).1
          simp at this; omega
        rw [hx0] at hx
        have : r = r' := by simpa using hx
        subst this; omega
  · rintro ρ' m' ⟨rs, c3, a6, rfl, rfl, w3, hl, hrs, hsz⟩
    have hl : rs.length = 2 := hl
    match rs, hl with
    | [r0, r1], _ =>
      refine wb_frz 5 rfl up_same rfl ?_
      rw [dl_up (by rw [up_ne (Ne.symm hpf)]; rw [up_ne (Ne.symm hpf)] at hf; exact hf)]
      have gok : GOk pl [nm, "m"] r0 r1 := ⟨pok, hrs r0 (by simp), hrs r1 (by simp), hsz 0 r0 rfl, hsz 1 r1 rfl⟩
      walk_at "g"
      refine ⟨pl, _, r0, r1, rfl, mok, gok, ?_⟩
      exact q pl _ r0 r1 c3 mok gok (w3.weak (by omega))
theorem ok_law_drawn {g : Gb} {k : Nat} (Z : Fx g) {j : Nat} (hj : j ≤ k) (Fp : FnG g j "_law_plan" spPlan) (Fw : FnG g j "_law_word" spWord) (Fr : FnG g j "_law_row" (spRow 3)) (Fd : FnG g j "_law_draw" spDraw) (Fo : FnG g j "_law_world" spWorld) : FnG g (k + 1) "_law_drawn" spDrawn :=
  Z.fn 75 49 rfl rfl rfl rfl (fun _ _ _ _ _ _ us hl => match us, hl with | [_, _, _], _ => rfl) (wk_law_drawn Z hj Fp Fw Fr Fd Fo)
def spOwn (g : Gb) : ASp := fun ds μ P => ∃ pl ms r0 r1, ds = [gD pl r0 r1] ∧ MsOk ms ∧ GOk pl ms r0 r1 ∧ P (gameD g pl r0 r1) μ
abbrev N_law_own : List Str := ["_law_g", "_law_board", "_law_cell", "_law_values"]
abbrev V_law_own : List Nat := [0, 1]
abbrev G_law_own : List Str := ["Board", "Game", "_law_made"]
abbrev V_law_own_0 : List Nat := [2, 3]
abbrev L_law_own_0 : List Nat := [2, 3]
abbrev G_law_own_0 : List Str := ["list"]
abbrev O_law_own_0 : List (Str × Nat) := [("_law_cell", 2), ("_law_values", 3)]
theorem wk_law_own {g : Gb} {k : Nat} (Z : Fx g) {j : Nat} (hj : j + 1 ≤ k) (Fm : FnG g j "_law_made" (spMade g 5)) (Fb : MkG g j "Board" (cl g "Board") (spBoardI g)) (Fg : MkG g j "Game" (cl g "Game") (spGameI g)) : Wlk g k d_law_own N_law_own ["_law_g"] V_law_own V_law_own G_law_own (spOwn g) := by
  refine ⟨⟨rfl, rfl, rfl, by decide +kernel, rfl, by decide +kernel, by decide +kernel⟩, by decide +kernel, ?_, fun X S ds μ P h => ?_⟩
  · walk_at "sp_len"
  have nn0 : N_law_own[0]? = some ("_law_g" : Str) := rfl
  have nn1 : N_law_own[1]? = some ("_law_board" : Str) := rfl
  have nn2 : N_law_own[2]? = some ("_law_cell" : Str) := rfl
  have nn3 : N_law_own[3]? = some ("_law_values" : Str) := rfl
  have gg0 : G_law_own[0]? = some ("Board" : Str) := rfl
  have gg1 : G_law_own[1]? = some ("Game" : Str) := rfl
  have gg2 : G_law_own[2]? = some ("_law_made" : Str) := rfl
  have gc0_0 : G_law_own_0[0]? = some ("list" : Str) := rfl
  refine wb_cons ?_
  obtain ⟨pl, ms, r0, r1, rfl, mok, gok, q⟩ := h
  have z0 := gok.z0
  have z1 := gok.z1
  have l2 := gok.ok.l2
  refine ws_v (by assumption) (by with_reducible assumption) rfl ?_
  refine w_make (by assumption) Fb hj _ (by with_reducible assumption) ?_
  refine wa_cons ?_
  refine w_lcM (vis' := V_law_own_0) (loc' := L_law_own_0) (gl' := G_law_own_0) (by assumption) O_law_own_0 (by decide +kernel) (by decide +kernel) ?_
  refine wi_lst (by assumption) ?_
  refine w_gP (by assumption) ?_
  walk_at "g"
  refine ⟨pl, r0, r1, rfl, ?_⟩
  refine ⟨_, rfl, ?_⟩
  refine ⟨Str × List Str, pl, cellD, cellD, rfl, by omega, fun c hc p2 acc hp2 => ⟨?_, fun X' S' => ?_, fun X' S' => ?_⟩, ?_⟩
  rotate_left
  · walk_at "g"
  · walk_at "g"
    refine ⟨_, .inl rfl, ?_⟩
    walk_at "g"
    exact ⟨rfl, rfl⟩
  walk_at "g"
  intro a ha
  refine ⟨pl, a, rfl, up_same, gok.ok, rfl, _, _, up_same, ?_⟩
  rw [up_up, dl_up ha]
  refine wb_cons ?_
  refine ws_ret ?_
  refine w_make (by assumption) Fg hj _ (by with_reducible assumption) ?_
  refine wa_cons ?_
  walk_at "v"
  refine wa_cons ?_
  refine w_call (by assumption) Fm (by omega) _ (by with_reducible assumption) ?_
  refine wa_cons ?_
  refine w_sub1 (by assumption) ?_
  refine w_gR (by assumption) ?_
  walk_at "g"
  refine ⟨pl, r0, r1, rfl, ?_⟩
  walk_at "g"
  refine ⟨r0, pl, ms, rfl, gok.ok, mok, gok.k0, by omega, by decide, ?_⟩
  refine wa_cons ?_
  refine w_call (by assumption) Fm (by omega) _ (by with_reducible assumption) ?_
  refine wa_cons ?_
  refine w_sub1 (by assumption) ?_
  refine w_gR (by assumption) ?_
  walk_at "g"
  refine ⟨pl, r0, r1, rfl, ?_⟩
  walk_at "g"
  refine ⟨r1, pl, ms, rfl, gok.ok, mok, gok.k1, by omega, by decide, ?_⟩
  walk_at "g"
  intro a2 ha2
  refine ⟨a2, pl, ms, r0, r1, rfl, up_same, gok.ok, gok.k0, gok.k1, by omega, by omega, rfl, _, _, up_same, ?_⟩
  rw [up_up, dl_up ha2]
  exact q
theorem ok_law_own {g : Gb} {k : Nat} (Z : Fx g) {j : Nat} (hj : j + 1 ≤ k) (Fm : FnG g j "_law_made" (spMade g 5)) (Fb : MkG g j "Board" (cl g "Board") (spBoardI g)) (Fg : MkG g j "Game" (cl g "Game") (spGameI g)) : FnG g (k + 1) "_law_own" (spOwn g) :=
  Z.fn 76 50 rfl rfl rfl rfl (fun _ _ _ _ _ _ us hl => match us, hl with | [_], _ => rfl) (wk_law_own Z hj Fm Fb Fg)
end
set_option maxHeartbeats 4000000
section
open PySem PySem.Spec L2
def spLB : ASp := fun ds μ P => ∃ pl r0 r1 st a, ds = [gD pl r0 r1, stD st, actD a] ∧ PlanOk pl ∧ st.length = pl.length ∧ actOk pl a ∧ P (optD (behindM pl st a)) μ
abbrev N_law_behind : List Str := ["_law_g", "_law_state", "_law_act", "_law_at", "_law_cell", "_law_values"]
abbrev V_law_behind : List Nat := [0, 1, 2, 3]
abbrev G_law_behind : List Str := ["int"]
abbrev V_law_behind_0 : List Nat := [4, 5]
abbrev L_law_behind_0 : List Nat := [4, 5]
abbrev G_law_behind_0 : List Str := []
abbrev O_law_behind_0 : List (Str × Nat) := [("_law_cell", 4), ("_law_values", 5)]
theorem wk_law_behind {g : Gb} {k : Nat} (Z : Fx g)  : Wlk g k d_law_behind N_law_behind ["_law_g", "_law_state", "_law_act"] V_law_behind V_law_behind G_law_behind (spLB) := by
  refine ⟨⟨rfl, rfl, rfl, by decide +kernel, rfl, by decide +kernel, by decide +kernel⟩, by decide +kernel, ?_, fun X S ds μ P h => ?_⟩
  · walk_at "sp_len"
  have nn0 : N_law_behind[0]? = some ("_law_g" : Str) := rfl
  have nn1 : N_law_behind[1]? = some ("_law_state" : Str) := rfl
  have nn2 : N_law_behind[2]? = some ("_law_act" : Str) := rfl
  have nn3 : N_law_behind[3]? = some ("_law_at" : Str) := rfl
  have nn4 : N_law_behind[4]? = some ("_law_cell" : Str) := rfl
  have nn5 : N_law_behind[5]? = some ("_law_values" : Str) := rfl
  have gg0 : G_law_behind[0]? = some ("int" : Str) := rfl
  refine wb_cons ?_
  obtain ⟨pl, r0, r1, st, a, rfl, ok, hl, hok, q⟩ := h
  have l2 := ok.l2
  cases a with
  | go =>
    walk_at "i"
    rw [if_pos (by decide +kernel)]
    walk_at "g"
    exact q
  | put c v =>
    obtain ⟨i1, i2, i3⟩ := ix_spec (cv_name hok)
    have i3' : cix pl c < st.length := by rw [List.length_map] at i3; unfold cix; omega
    walk_at "i"
    rw [if_neg (by decide +kernel)]
    walk_at "e"
    walk_at "e"
    refine ws_v (by assumption) (by with_reducible assumption) rfl ?_
    refine w_lindex (by assumption) rfl ?_
    refine w_lcM (vis' := V_law_behind_0) (loc' := L_law_behind_0) (gl' := G_law_behind_0) (by assumption) O_law_behind_0 (by decide +kernel) (by decide +kernel) ?_
    refine wi_lst (by assumption) ?_
    refine w_gP (by assumption) ?_
    walk_at "g"
    refine ⟨pl, r0, r1, rfl, ?_⟩
    refine ⟨_, rfl, ?_⟩
    refine ⟨Str × List Str, pl, cellD, fun c => .str c.1, rfl, by omega, fun c hc p2 acc hp2 => ⟨?_, fun X' S' => ?_, fun X' S' => ?_⟩, ?_⟩
    rotate_left
    · walk_at "g"
    · walk_at "g"
    refine ⟨pl.map (·.1), by rw [plan_names], ?_⟩
    walk_at "g"
    refine ⟨c, cix pl c, rfl, i1, i2, ?_⟩
    walk_at "g"
    walk_at "i"
    rw [if_pos (by decide +kernel)]
    have e1 : cutD (st.map D.str) none (some (cix pl c : Nat)) = (st.map D.str).take (cix pl c) := cut_take (by rw [List.length_map]; omega)
    have e2 : cutD (st.map D.str) (some ((cix pl c : Nat) + 1)) none = (st.map D.str).drop (cix pl c + 1) := cut_drop (n := cix pl c + 1) (by rw [List.length_map]; omega)
    walk_at "g"
    · rw [e1, e2, List.length_append, List.length_take, List.length_drop, List.length_map]
      show _ + 1 + _ ≤ _
      omega
    · rw [e1, e2, set_cut (by rw [List.length_map]; omega)]
      have e3 : (st.map D.str).set (cix pl c) (.str v) = (st.set (cix pl c) v).map D.str := by rw [List.map_set]
      rw [e3]
      exact q
    · rw [e1, List.length_take, List.length_map]
      show _ + 1 ≤ _
      omega
  | look c v =>
    obtain ⟨i1, i2, i3⟩ := ix_spec (cv_name hok)
    have i3' : cix pl c < st.length := by rw [List.length_map] at i3; unfold cix; omega
    walk_at "i"
    rw [if_neg (by decide +kernel)]
    walk_at "e"
    walk_at "e"
    refine ws_v (by assumption) (by with_reducible assumption) rfl ?_
    refine w_lindex (by assumption) rfl ?_
    refine w_lcM (vis' := V_law_behind_0) (loc' := L_law_behind_0) (gl' := G_law_behind_0) (by assumption) O_law_behind_0 (by decide +kernel) (by decide +kernel) ?_
    refine wi_lst (by assumption) ?_
    refine w_gP (by assumption) ?_
    walk_at "g"
    refine ⟨pl, r0, r1, rfl, ?_⟩
    refine ⟨_, rfl, ?_⟩
    refine ⟨Str × List Str, pl, cellD, fun c => .str c.1, rfl, by omega, fun c hc p2 acc hp2 => ⟨?_, fun X' S' => ?_, fun X' S' => ?_⟩, ?_⟩
    rotate_left
    · walk_at "g"
    · walk_at "g"
    refine ⟨pl.map (·.1), by rw [plan_names], ?_⟩
    walk_at "g"
    refine ⟨c, cix pl c, rfl, i1, i2, ?_⟩
    walk_at "g"
    walk_at "i"
    rw [if_neg (by decide +kernel)]
    walk_at "g"
    refine ⟨_, .t (d := .str st[cix pl c]) ?_, ?_⟩
    · unfold atI
      rw [ix3 (by omega) (by rw [List.length_map]; omega)]
      show (st.map D.str)[cix pl c]? = _
      rw [List.getElem?_map, List.getElem?_eq_getElem i3']; rfl
    walk_at "g"
    have eb : behindM pl st (.look c v) = if st[cix pl c] = v then some st else none := by
      show (if st[cix pl c]? = some v then some st else none) = _
      rw [List.getElem?_eq_getElem i3']
      by_cases h : st[cix pl c] = v
      · rw [if_pos h, if_pos (by rw [h])]
      · rw [if_neg h, if_neg (fun z => h (Option.some.inj z))]
    rw [eb] at q
    refine ⟨_, .l pick2, ?_⟩
    by_cases h : st[cix pl c] = v
    · rw [if_pos h] at q
      rw [if_pos (decide_eq_true h)]
      exact q
    · rw [if_neg h] at q
      rw [if_neg (by simpa using h)]
      exact q
theorem ok_law_behind {g : Gb} {k : Nat} (Z : Fx g)  : FnG g (k + 1) "_law_behind" (spLB) :=
  Z.fn 77 51 rfl rfl rfl rfl (fun _ _ _ _ _ _ us hl => match us, hl with | [_, _, _], _ => rfl) (wk_law_behind Z)
def spLOpen : ASp := fun ds μ P => ∃ pl ms r0 r1 w i st, ds = [gD pl r0 r1, .int (w : Nat), .int (i : Nat), stD st] ∧ w ≤ 1 ∧ GOk pl ms r0 r1 ∧ i ≤ szs (pick w r0 r1) ∧ st.length = pl.length ∧ P (.lst ((openM pl st 0 (esAt pl (pick w r0 r1) i)).map tripD)) μ
theorem lrooms_at {pl : Plan} {r : List St} {i : Nat} (h : i ≤ szs r) : atI ((List.range (szs r + 1)).map (roomD pl r)) ((i : Nat) : Int) = some (roomD pl r i) := by
  unfold atI
  rw [ix3 (by omega) (by rw [List.length_map, List.length_range]; omega)]
  show ((List.range (szs r + 1)).map (roomD pl r))[i]? = _
  rw [List.getElem?_map, List.getElem?_range (by omega)]; rfl
abbrev N_law_open : List Str := ["_law_g", "_law_which", "_law_room", "_law_state", "_law_found", "_law_number", "_law_act", "_law_goal", "_law_later"]
abbrev V_law_open : List Nat := [0, 1, 2, 3, 4, 5, 6, 7, 8]
abbrev G_law_open : List Str := ["enumerate", "_law_behind"]
theorem wk_law_open {g : Gb} {k : Nat} (Z : Fx g) {j : Nat} (hj : j ≤ k) (Fb : FnG g j "_law_behind" spLB) : Wlk g k d_law_open N_law_open ["_law_g", "_law_which", "_law_room", "_law_state"] V_law_open V_law_open G_law_open (spLOpen) := by
  refine ⟨⟨rfl, rfl, rfl, by decide +kernel, rfl, by decide +kernel, by decide +kernel⟩, by decide +kernel, ?_, fun X S ds μ P h => ?_⟩
  · walk_at "sp_len"
  have nn0 : N_law_open[0]? = some ("_law_g" : Str) := rfl
  have nn1 : N_law_open[1]? = some ("_law_which" : Str) := rfl
  have nn2 : N_law_open[2]? = some ("_law_room" : Str) := rfl
  have nn3 : N_law_open[3]? = some ("_law_state" : Str) := rfl
  have nn4 : N_law_open[4]? = some ("_law_found" : Str) := rfl
  have nn5 : N_law_open[5]? = some ("_law_number" : Str) := rfl
  have nn6 : N_law_open[6]? = some ("_law_act" : Str) := rfl
  have nn7 : N_law_open[7]? = some ("_law_goal" : Str) := rfl
  have nn8 : N_law_open[8]? = some ("_law_later" : Str) := rfl
  have gg0 : G_law_open[0]? = some ("enumerate" : Str) := rfl
  have gg1 : G_law_open[1]? = some ("_law_behind" : Str) := rfl
  refine wb_cons ?_
  obtain ⟨pl, ms, r0, r1, w, i, st, rfl, hw, gok, hi, hst, q⟩ := h
  have rok : rowOk pl ms (pick w r0 r1) := by
    have hw : w = 0 ∨ w = 1 := by omega
    rcases hw with e | e <;> subst e
    · exact gok.k0
    · exact gok.k1
  have hes := esAt_some (pl := pl) hi
  generalize hesg : esAt pl (pick w r0 r1) i = es at hes q
  have eok := rooms_ok gok.ok rok (List.mem_of_getElem? hes)
  have hel := rooms_sz gok.ok (List.mem_of_getElem? hes)
  refine ws_setL (by assumption) 4 rfl rfl (wa_nil ⟨by decide, fun f hf => ?_⟩)
  walk_at "g"
  refine ws_for (by assumption) ?_
  refine wi_enumL (by assumption) (by with_reducible assumption) (Fx.free (by assumption) 66 rfl) ?_
  refine w_sub1 (by assumption) ?_
  refine w_sub1 (by assumption) ?_
  refine w_sub1 (by assumption) ?_
  refine w_gS (by assumption) ?_
  walk_at "g"
  refine ⟨pl, r0, r1, rfl, ?_⟩
  walk_at "g"
  refine ⟨lroomsD pl (pick w r0 r1), .l ?_, ?_⟩
  · have hw : w = 0 ∨ w = 1 := by omega
    rcases hw with e | e <;> subst e <;> rfl
  walk_at "g"
  refine ⟨roomD pl (pick w r0 r1) i, .l (lrooms_at hi), ?_⟩
  walk_at "g"
  rw [hesg]
  refine ⟨fun jj ρ' m' => ∃ a5 a6 a7 a8, ρ' = [some (gD pl r0 r1), some (.int (w : Nat)), some (.int (i : Nat)), some (stD st), some (.ptr f), a5, a6, a7, a8] ∧ m' = up μ f (.lst ((openM pl st 0 (es.take jj)).map tripD)), ⟨_, _, _, _, rfl, rfl⟩, ?_, ?_⟩
  · rintro jj d ρ' m' hd ⟨a5, a6, a7, a8, rfl, rfl⟩
    obtain ⟨d0, hd0, ed⟩ := numD_at hd
    subst ed
    rw [List.getElem?_map] at hd0
    cases ht : es[jj]? with
    | none => rw [ht] at hd0; cases hd0
    | some e =>
      rw [ht] at hd0
      cases hd0
      obtain ⟨aok, gle⟩ := eok e (List.mem_of_getElem? ht)
      have hjl : jj < es.length := (List.getElem?_eq_some_iff.mp ht).1
      have htk : openM pl st 0 (es.take (jj + 1)) = openM pl st 0 (es.take jj) ++ (match behindM pl st e.1 with | none => [] | some st' => [(jj, e.2, st')]) := by
        rw [List.take_succ, ht, openM_app]
        simp only [Option.toList_some, openM, List.append_nil, List.length_take]
        rw [show 0 + min jj es.length = jj by omega]
        all_goals (cases behindM pl st e.1 <;> rfl)
      obtain ⟨act, goal⟩ := e
      walk_at "g"
      refine ⟨pl, r0, r1, st, act, rfl, gok.ok, hst, aok, ?_⟩
      walk_at "g"
      walk_at "i"
      have htk' := htk
      cases hb : behindM pl st act with
      | none =>
        have hb' : behindM pl st (act, goal).1 = none := hb
        rw [hb'] at htk
        rw [if_neg (by exact Bool.false_ne_true)]
        refine wb_nil ⟨_, _, _, _, rfl, ?_⟩
        rw [htk, List.append_nil]
      | some st' =>
        have hb' : behindM pl st (act, goal).1 = some st' := hb
        rw [hb'] at htk
        rw [if_pos (by exact rfl)]
        walk_at "g"
        refine ws_append (by assumption) rfl ?_
        walk_at "g"
        refine ⟨⟨_, up_same⟩, ?_⟩
        walk_at "g"
        have hol := openM_len (pl := pl) (st := st) (es.take jj) 0
        rw [List.length_take] at hol
        refine ⟨_, up_same, by rw [List.length_map]; omega, _, _, _, _, rfl, ?_⟩
        rw [up_up, htk, List.map_append]
        have e0 : ((0 + jj : Nat) : Int) = (jj : Nat) := by omega
        rw [e0]
        rfl
  · rintro ρ' m' ⟨a5, a6, a7, a8, rfl, rfl⟩
    rw [numD_len, List.length_map, List.take_length]
    refine wb_frz 4 rfl up_same rfl ?_
    rw [dl_up hf]
    walk_at "g"
    exact q
theorem ok_law_open {g : Gb} {k : Nat} (Z : Fx g) {j : Nat} (hj : j ≤ k) (Fb : FnG g j "_law_behind" spLB) : FnG g (k + 1) "_law_open" (spLOpen) :=
  Z.fn 78 52 rfl rfl rfl rfl (fun _ _ _ _ _ _ us hl => match us, hl with | [_, _, _, _], _ => rfl) (wk_law_open Z hj Fb)
end
set_option maxHeartbeats 4000000
section
open PySem PySem.Spec L2
abbrev Next := (Nat × Nat) × Spot
def nextD (x : Next) : D := .tup [moveD x.1, spotD x.2]
def nxt0 (pl : Plan) (r0 : List St) (s : Spot) : List Next := (openM pl s.st 0 (esAt pl r0 s.room)).map fun t => ((0, t.1), ⟨t.2.1, t.2.2, s.rooms⟩)
def nxtF (pl : Plan) (r1 : List St) (s : Spot) (i r : Nat) : List Next := (openM pl s.st 0 (esAt pl r1 r)).map fun t => ((i + 1, t.1), ⟨s.room, t.2.2, s.rooms.set i t.2.1⟩)
def nxtsF (pl : Plan) (r1 : List St) (s : Spot) : Nat → List Nat → List Next
  | _, [] => []
  | i, r :: rs => nxtF pl r1 s i r ++ nxtsF pl r1 s (i + 1) rs
theorem nxtsF_app {pl : Plan} {r1 : List St} {s : Spot} : ∀ (a : List Nat) (r i : Nat), nxtsF pl r1 s i (a ++ [r]) = nxtsF pl r1 s i a ++ nxtF pl r1 s (i + a.length) r
  | [], r, i => by simp [nxtsF]
  | x :: a, r, i => by
    rw [List.cons_append]
    simp only [nxtsF, nxtsF_app a r, List.append_assoc, List.length_cons]
    rw [show i + 1 + a.length = i + (a.length + 1) by omega]
def nextsM (pl : Plan) (r0 r1 : List St) (s : Spot) : List Next := nxt0 pl r0 s ++ nxtsF pl r1 s 0 s.rooms
theorem nxtsF_mem {pl : Plan} {r1 : List St} {s : Spot} {x : Next} : ∀ {rs : List Nat} {i : Nat}, x ∈ nxtsF pl r1 s i rs → ∃ h r, rs[h]? = some r ∧ x ∈ nxtF pl r1 s (i + h) r
  | [], _, h => by cases h
  | r :: rs, i, h => by
    simp only [nxtsF, List.mem_append] at h
    rcases h with h | h
    · exact ⟨0, r, rfl, h⟩
    · obtain ⟨h', r', a, b⟩ := nxtsF_mem h
      exact ⟨h' + 1, r', by simpa using a, by rw [show i + (h' + 1) = i + 1 + h' by omega]; exact b⟩
theorem nexts_moved {pl : Plan} {r0 r1 : List St} {s : Spot} (ok : SpotOk pl r0 r1 s) {x : Next} (h : x ∈ nextsM pl r0 r1 s) : movedM pl r0 r1 s x.1.1 x.1.2 = some x.2 := by
  unfold nextsM at h
  rcases List.mem_append.mp h with h | h
  · obtain ⟨t, h1, h2⟩ := List.mem_map.mp h
    subst h2
    obtain ⟨i, e, a1, a2, a3, a4⟩ := openM_mem.mp h1
    have : t.1 = i := by omega
    simp only [movedM, step_es ok.room, this, a1, a2, a4, Option.bind_some, Option.map_some]
  · obtain ⟨h', r, hr, h⟩ := nxtsF_mem h
    obtain ⟨t, h1, h2⟩ := List.mem_map.mp h
    subst h2
    obtain ⟨i, e, a1, a2, a3, a4⟩ := openM_mem.mp h1
    have : t.1 = i := by omega
    have hr2 := ok.rooms r (List.mem_of_getElem? hr)
    simp only [movedM, Nat.zero_add, hr, step_es hr2, this, a1, a2, a4, Option.bind_some, Option.map_some]
theorem nxt_len {pl : Plan} (ok : PlanOk pl) {r : List St} {st : List Str} {i : Nat} (h : i ≤ szs r) : (openM pl st 0 (esAt pl r i)).length ≤ 5 := by
  have := openM_len (pl := pl) (st := st) (esAt pl r i) 0
  have := rooms_sz ok (List.mem_of_getElem? (esAt_some (pl := pl) h))
  omega
theorem nxtsF_len {pl : Plan} (ok : PlanOk pl) {r1 : List St} {s : Spot} : ∀ (rs : List Nat) (i : Nat), (∀ r, r ∈ rs → r ≤ szs r1) → (nxtsF pl r1 s i rs).length ≤ 5 * rs.length
  | [], _, _ => Nat.zero_le _
  | r :: rs, i, h => by
    have h1 := nxt_len ok (st := s.st) (h r (List.mem_cons_self ..))
    have h2 := nxtsF_len ok (s := s) rs (i + 1) fun x hx => h x (List.mem_cons_of_mem _ hx)
    simp only [nxtsF, List.length_append, nxtF, List.length_map, List.length_cons]
    omega
def spNexts : ASp := fun ds μ P => ∃ pl ms r0 r1 s, ds = [gD pl r0 r1, spotD s] ∧ GOk pl ms r0 r1 ∧ SpotOk pl r0 r1 s ∧ P (.lst ((nextsM pl r0 r1 s).map nextD)) μ
abbrev N_law_nexts : List Str := ["_law_g", "_law_spot", "_law_room", "_law_state", "_law_rooms_here", "_law_found", "_law_at", "_law_here", "_law_number", "_law_goal", "_law_later"]
abbrev V_law_nexts : List Nat := [0, 1, 2, 3, 4, 5, 6, 7, 8, 9, 10]
abbrev G_law_nexts : List Str := ["_law_open", "enumerate"]
abbrev V_law_nexts_0 : List Nat := [4, 8, 9, 10]
abbrev L_law_nexts_0 : List Nat := [8, 9, 10]
abbrev G_law_nexts_0 : List Str := []
abbrev O_law_nexts_0 : List (Str × Nat) := [("_law_number", 8), ("_law_goal", 9), ("_law_later", 10)]
theorem wk_law_nexts {g : Gb} {k : Nat} (Z : Fx g) {j : Nat} (hj : j ≤ k) (Fo : FnG g j "_law_open" spLOpen) : Wlk g k d_law_nexts N_law_nexts ["_law_g", "_law_spot"] V_law_nexts V_law_nexts G_law_nexts (spNexts) := by
  refine ⟨⟨rfl, rfl, rfl, by decide +kernel, rfl, by decide +kernel, by decide +kernel⟩, by decide +kernel, ?_, fun X S ds μ P h => ?_⟩
  · walk_at "sp_len"
  have nn0 : N_law_nexts[0]? = some ("_law_g" : Str) := rfl
  have nn1 : N_law_nexts[1]? = some ("_law_spot" : Str) := rfl
  have nn2 : N_law_nexts[2]? = some ("_law_room" : Str) := rfl
  have nn3 : N_law_nexts[3]? = some ("_law_state" : Str) := rfl
  have nn4 : N_law_nexts[4]? = some ("_law_rooms_here" : Str) := rfl
  have nn5 : N_law_nexts[5]? = some ("_law_found" : Str) := rfl
  have nn6 : N_law_nexts[6]? = some ("_law_at" : Str) := rfl
  have nn7 : N_law_nexts[7]? = some ("_law_here" : Str) := rfl
  have nn8 : N_law_nexts[8]? = some ("_law_number" : Str) := rfl
  have nn9 : N_law_nexts[9]? = some ("_law_goal" : Str) := rfl
  have nn10 : N_law_nexts[10]? = some ("_law_later" : Str) := rfl
  have gg0 : G_law_nexts[0]? = some ("_law_open" : Str) := rfl
  have gg1 : G_law_nexts[1]? = some ("enumerate" : Str) := rfl
  refine wb_cons ?_
  obtain ⟨pl, ms, r0, r1, s, rfl, gok, sok, q⟩ := h
  have hol := nxt_len gok.ok (st := s.st) sok.room
  have hrl := sok.l
  walk_at "g"
  refine ws_setLcMm (vis' := V_law_nexts_0) (loc' := L_law_nexts_0) (gl' := G_law_nexts_0) (by assumption) (by with_reducible assumption) (by rfl) (by rfl) (by rfl) (by rfl) O_law_nexts_0 (by decide +kernel) (by decide +kernel) ?_
  refine wi_lst (by assumption) ?_
  walk_at "g"
  refine ⟨pl, ms, r0, r1, 0, s.room, s.st, rfl, by decide, gok, sok.room, sok.st, ?_⟩
  refine ⟨_, rfl, ?_⟩
  refine ⟨Trip, openM pl s.st 0 (esAt pl r0 s.room), tripD, fun t => nextD ((0, t.1), ⟨t.2.1, t.2.2, s.rooms⟩), rfl, by omega, fun t ht p2 acc hp2 => ⟨?_, fun X' S' => ?_, fun X' S' => ?_⟩, ?_⟩
  rotate_left
  · walk_at "g"
  · walk_at "g"
    exact ⟨rfl, rfl⟩
  rintro acc hacc f hf
  cases hacc
  walk_at "g"
  refine ws_for (by assumption) ?_
  refine wi_enumT (by assumption) (by with_reducible assumption) (Fx.free (by assumption) 66 rfl) ?_
  walk_at "g"
  refine ⟨fun i ρ' m' => ∃ a6 a7 a8 a9 a10, ρ' = [some (gD pl r0 r1), some (spotD s), some (.int (s.room : Nat)), some (stD s.st), some (roomsD s.rooms), some (.ptr f), a6, a7, a8, a9, a10] ∧ m' = up μ f (.lst ((nxt0 pl r0 s ++ nxtsF pl r1 s 0 (s.rooms.take i)).map nextD)), ⟨_, _, _, _, _, rfl, ?_⟩, ?_, ?_⟩
  · rw [List.take_zero]
    show _ = up μ f (.lst ((nxt0 pl r0 s ++ []).map nextD))
    rw [List.append_nil]
    unfold nxt0
    rw [List.map_map]; rfl
  · rintro i d ρ' m' hd ⟨a6, a7, a8, a9, a10, rfl, rfl⟩
    obtain ⟨d0, hd0, ed⟩ := numD_at hd
    subst ed
    rw [List.getElem?_map] at hd0
    cases ht : s.rooms[i]? with
    | none => rw [ht] at hd0; cases hd0
    | some r =>
      rw [ht] at hd0
      cases hd0
      have hi : i < s.rooms.length := (List.getElem?_eq_some_iff.mp ht).1
      have hr1 := sok.rooms r (List.mem_of_getElem? ht)
      have hol1 := nxt_len gok.ok (st := s.st) hr1
      have hfl := nxtsF_len gok.ok (s := s) (s.rooms.take i) 0 fun x hx => sok.rooms x (List.mem_of_mem_take hx)
      rw [List.length_take] at hfl
      have hn0 : (nxt0 pl r0 s).length ≤ 5 := by unfold nxt0; rw [List.length_map]; exact hol
      have etk : nxtsF pl r1 s 0 (s.rooms.take (i + 1)) = nxtsF pl r1 s 0 (s.rooms.take i) ++ nxtF pl r1 s i r := by
        rw [List.take_succ, ht]
        simp only [Option.toList_some]
        rw [nxtsF_app, List.length_take, show 0 + min i s.rooms.length = i by omega]
      walk_at "g"
      refine ws_for (by assumption) ?_
      refine wi_lst (by assumption) ?_
      walk_at "g"
      refine ⟨pl, ms, r0, r1, 1, r, s.st, rfl, by decide, gok, hr1, sok.st, ?_⟩
      refine ⟨_, rfl, ?_⟩
      refine ⟨fun jj ρ' m' => ∃ a8 a9 a10, ρ' = [some (gD pl r0 r1), some (spotD s), some (.int (s.room : Nat)), some (stD s.st), some (roomsD s.rooms), some (.ptr f), some (.int ((0 + i : Nat) : Int)), some (.int (r : Nat)), a8, a9, a10] ∧ m' = up μ f (.lst ((nxt0 pl r0 s ++ (nxtsF pl r1 s 0 (s.rooms.take i) ++ (nxtF pl r1 s i r).take jj)).map nextD)), ⟨a8, a9, a10, rfl, ?_⟩, ?_, ?_⟩
      · rw [List.take_zero, List.append_nil]
      · rintro jj d ρ' m' hd ⟨a8, a9, a10, rfl, rfl⟩
        replace hd : ((openM pl s.st 0 (esAt pl r1 r)).map tripD)[jj]? = some d := hd
        rw [List.getElem?_map] at hd
        cases htt : (openM pl s.st 0 (esAt pl r1 r))[jj]? with
        | none => rw [htt] at hd; cases hd
        | some t =>
          rw [htt] at hd
          cases hd
          have hn : (nxtF pl r1 s i r)[jj]? = some ((i + 1, t.1), ⟨s.room, t.2.2, s.rooms.set i t.2.1⟩) := by unfold nxtF; rw [List.getElem?_map, htt]; rfl
          have e1 : cutD (s.rooms.map fun r : Nat => D.int r) none (some ((0 + i : Nat) : Int)) = (s.rooms.map fun r : Nat => D.int r).take (0 + i) := cut_take (n := 0 + i) (by rw [List.length_map]; omega)
          have e2 : cutD (s.rooms.map fun r : Nat => D.int r) (some (((0 + i : Nat) : Int) + 1)) none = (s.rooms.map fun r : Nat => D.int r).drop (i + 1) := by
            have := cut_drop (ds := s.rooms.map fun r : Nat => D.int r) (n := i + 1) (by rw [List.length_map]; omega)
            rw [← this]; congr 2; omega
          have hnl : (nxtF pl r1 s i r).length ≤ 5 := by unfold nxtF; rw [List.length_map]; exact hol1
          walk_at "g"
          refine ws_append (by assumption) rfl ?_
          walk_at "g"
          refine ⟨⟨_, up_same⟩, ?_⟩
          walk_at "g"
          · rw [e1, e2, List.length_append, List.length_take, List.length_drop, List.length_map]
            show _ + 1 + _ ≤ _
            omega
          · walk_at "g"
            refine ⟨_, up_same, by rw [List.length_map, List.length_append, List.length_append, List.length_take]; omega, ?_⟩
            refine ⟨_, _, _, rfl, ?_⟩
            rw [up_up, List.take_succ, hn]
            simp only [Option.toList_some]
            have key : ∀ (A B C : List Next) (x : Next), (A ++ (B ++ (C ++ [x]))).map nextD = (A ++ (B ++ C)).map nextD ++ [nextD x] := fun A B C x => by simp [List.map_append]
            rw [key, e1, e2, Nat.zero_add, set_cut (by rw [List.length_map]; omega)]
            have e3 : (s.rooms.map fun r : Nat => D.int r).set i (.int (t.2.1 : Nat)) = (s.rooms.set i t.2.1).map fun r : Nat => D.int r := by rw [List.map_set]
            rw [e3]
            rfl
          · rw [e1, List.length_take, List.length_map]
            show _ + 1 ≤ _
            omega
      · rintro ρ' m' ⟨a8, a9, a10, rfl, rfl⟩
        have hnl : (List.map tripD (openM pl s.st 0 (esAt pl (pick 1 r0 r1) r))).length = (nxtF pl r1 s i r).length := by
          show (List.map tripD (openM pl s.st 0 (esAt pl r1 r))).length = _
          unfold nxtF; rw [List.length_map, List.length_map]
        rw [hnl, List.take_length]
        refine ⟨_, _, _, _, _, rfl, ?_⟩
        rw [etk]
  · rintro ρ' m' ⟨a6, a7, a8, a9, a10, rfl, rfl⟩
    rw [numD_len, List.length_map, List.take_length]
    refine wb_frz 5 rfl up_same rfl ?_
    rw [dl_up hf]
    walk_at "g"
    exact q
theorem ok_law_nexts {g : Gb} {k : Nat} (Z : Fx g) {j : Nat} (hj : j ≤ k) (Fo : FnG g j "_law_open" spLOpen) : FnG g (k + 1) "_law_nexts" (spNexts) :=
  Z.fn 79 53 rfl rfl rfl rfl (fun _ _ _ _ _ _ us hl => match us, hl with | [_, _], _ => rfl) (wk_law_nexts Z hj Fo)
end
set_option maxHeartbeats 4000000
section
open PySem PySem.Spec L2
def namesM (r : List St) : List Str := (List.range (szs r + 1)).filterMap fun i => markOf (preR r)[i]?
theorem names_mem {r : List St} {n : Str} (h : n ∈ namesM r) : St.mark n ∈ preR r := by
  obtain ⟨i, _, e⟩ := List.mem_filterMap.mp h
  cases hs : (preR r)[i]? with
  | none => rw [hs] at e; cases e
  | some s =>
    rw [hs] at e
    cases s <;> simp [markOf] at e
    subst e
    exact List.mem_of_getElem? hs
theorem names_eq (r : List St) : ((List.range (szs r + 1)).filter fun i => (markOf (preR r)[i]?).isSome).map (fun i => optS (markOf (preR r)[i]?)) = (namesM r).map D.str := by
  unfold namesM
  induction List.range (szs r + 1) with
  | nil => rfl
  | cons i l ih =>
    cases hm : markOf (preR r)[i]? with
    | none => simp [hm, ih]
    | some n =>
      simp only [List.filter_cons, hm, Option.isSome_some, if_true, List.map_cons, List.filterMap_cons]
      rw [ih]
      rfl
def spMarksL : ASp := fun ds μ P => ∃ pl ms r0 r1 w, ds = [gD pl r0 r1, .int (w : Nat)] ∧ w ≤ 1 ∧ GOk pl ms r0 r1 ∧ ∀ ns : List Str, (∀ n, n ∈ ns → St.mark n ∈ preR (pick w r0 r1)) → ns.length ≤ 40 → P (.lst (ns.map .str)) μ
abbrev N_law_marks : List Str := ["_law_g", "_law_which", "_law_mark", "_law_some"]
abbrev V_law_marks : List Nat := [0, 1]
abbrev G_law_marks : List Str := ["sorted", "set"]
abbrev V_law_marks_0 : List Nat := [2, 3]
abbrev L_law_marks_0 : List Nat := [2, 3]
abbrev G_law_marks_0 : List Str := []
abbrev O_law_marks_0 : List (Str × Nat) := [("_law_mark", 2), ("_law_some", 3)]
theorem wk_law_marks {g : Gb} {k : Nat} (Z : Fx g)  : Wlk g k d_law_marks N_law_marks ["_law_g", "_law_which"] V_law_marks V_law_marks G_law_marks (spMarksL) := by
  refine ⟨⟨rfl, rfl, rfl, by decide +kernel, rfl, by decide +kernel, by decide +kernel⟩, by decide +kernel, ?_, fun X S ds μ P h => ?_⟩
  · walk_at "sp_len"
  have nn0 : N_law_marks[0]? = some ("_law_g" : Str) := rfl
  have nn1 : N_law_marks[1]? = some ("_law_which" : Str) := rfl
  have nn2 : N_law_marks[2]? = some ("_law_mark" : Str) := rfl
  have nn3 : N_law_marks[3]? = some ("_law_some" : Str) := rfl
  have gg0 : G_law_marks[0]? = some ("sorted" : Str) := rfl
  have gg1 : G_law_marks[1]? = some ("set" : Str) := rfl
  refine wb_cons ?_
  obtain ⟨pl, ms, r0, r1, w, rfl, hw, gok, q⟩ := h
  have hz : szs (pick w r0 r1) ≤ 3 := by
    have := gok.z0
    have := gok.z1
    have hw : w = 0 ∨ w = 1 := by omega
    rcases hw with e | e <;> subst e
    · show szs r0 ≤ 3; omega
    · show szs r1 ≤ 3; omega
  refine ws_ret ?_
  refine w_sortSet (by assumption) (by with_reducible assumption) (Fx.free (by assumption) 74 rfl) (by with_reducible assumption) (Fx.free (by assumption) 73 rfl) ?_
  refine w_lcP (vis' := V_law_marks_0) (loc' := L_law_marks_0) (gl' := G_law_marks_0) (by assumption) O_law_marks_0 (by decide +kernel) (by decide +kernel) ?_
  refine wi_lst (by assumption) ?_
  refine w_sub1 (by assumption) ?_
  refine w_gS (by assumption) ?_
  walk_at "g"
  refine ⟨pl, r0, r1, rfl, ?_⟩
  walk_at "g"
  refine ⟨lroomsD pl (pick w r0 r1), .l ?_, ?_⟩
  · have hw : w = 0 ∨ w = 1 := by omega
    rcases hw with e | e <;> subst e <;> rfl
  refine ⟨_, rfl, ?_⟩
  refine ⟨Nat, List.range (szs (pick w r0 r1) + 1), roomD pl (pick w r0 r1), fun i => optS (markOf (preR (pick w r0 r1))[i]?), fun i => (markOf (preR (pick w r0 r1))[i]?).isSome, rfl, by rw [List.length_range]; omega, fun i hi p2 acc hp2 => ?_, ?_⟩
  · refine ⟨?_, fun X' S' => ?_, fun X' S' => ?_, fun hk X' S' => ?_⟩
    rotate_left
    · unfold roomD entD
      walk_at "g"
    · show WT _ _ _ _ _ _
      walk_at "g"
      refine ⟨?_, rfl⟩
      show (!isN (optS (markOf (preR (pick w r0 r1))[i]?))) = (markOf (preR (pick w r0 r1))[i]?).isSome
      cases markOf (preR (pick w r0 r1))[i]? <;> rfl
    · walk_at "g"
  rw [names_eq]
  have hnl : (namesM (pick w r0 r1)).length ≤ 4 := by
    unfold namesM
    refine Nat.le_trans (List.length_filterMap_le _ _) ?_
    rw [List.length_range]; omega
  refine ⟨_, rfl, by omega, fun ys hy hl => ?_⟩
  exact q ys (fun n hn => names_mem ((hy n).mp hn)) (by omega)
theorem ok_law_marks {g : Gb} {k : Nat} (Z : Fx g)  : FnG g (k + 1) "_law_marks" (spMarksL) :=
  Z.fn 80 54 rfl rfl rfl rfl (fun _ _ _ _ _ _ us hl => match us, hl with | [_, _], _ => rfl) (wk_law_marks Z)
theorem strs_eqE {ns : List Str} (h : ∀ n, n ∈ ns → OkN n) : EqD (.lst (ns.map .str)) (.lst []) (decide (ns = [])) := by
  have hx : pdD (.lst (ns.map .str)) = some (.list (ns.map .str)) := by simp [pdD, pd_strs ns]
  have hl : ∀ ns : List Str, (∀ n, n ∈ ns → OkN n) → PyData.canLayAll0 (ns.map .str) = true := fun ns => by
    induction ns with
    | nil => intro _; simp [PyData.canLayAll0]
    | cons n ns ih => intro h; simp [PyData.canLayAll0, PyData.canLay0, strOk_of (h n (List.mem_cons_self ..)), ih fun x hx => h x (List.mem_cons_of_mem _ hx)]
  have sa : SeqAt.shaped (.list (ns.map .str)) = true := by
    show (PyData.canLay0 (.list (ns.map .str)) && decide (PyData.depth (.list (ns.map .str)) ≤ 64)) = true
    rw [Bool.and_eq_true]
    exact ⟨by simp [PyData.canLay0, hl ns h], decide_eq_true (by simp [PyData.depth, dp_strs])⟩
  have e : PyData.eqv (.list (ns.map .str)) (.list []) = decide (ns = []) := by
    cases ns with
    | nil => simp [PyData.eqv, PyData.eqvAll]
    | cons n ns => simp [PyData.eqv, PyData.eqvAll]
  rw [← e]
  exact .deep hx rfl sa (by decide)
def lqD (q : Ask) : D := .tup [optS q.lead, .lst (q.follows.map .str), .lst (q.holds.map holdD)]
def spAskedL : ASp := fun ds μ P => ∃ p b c pl ms r0 r1, ds = [.ptr p, gD pl r0 r1] ∧ μ p = some c ∧ Well (b + 20) c ∧ MsOk ms ∧ GOk pl ms r0 r1 ∧ ∀ q c', AskOk pl r0 r1 q → QOk q → Well b c' → P (lqD q) (up μ p c')
theorem six_at {r : Int} (h0 : 0 ≤ r) (h1 : r < 6) : ∃ v : Nat, v ≤ 3 ∧ atI [D.int 0, D.int 1, D.int 1, D.int 2, D.int 2, D.int 3] r = some (.int (v : Nat)) := by
  have : r = 0 ∨ r = 1 ∨ r = 2 ∨ r = 3 ∨ r = 4 ∨ r = 5 := by omega
  rcases this with e | e | e | e | e | e <;> subst e
  · exact ⟨0, by decide, rfl⟩
  · exact ⟨1, by decide, rfl⟩
  · exact ⟨1, by decide, rfl⟩
  · exact ⟨2, by decide, rfl⟩
  · exact ⟨2, by decide, rfl⟩
  · exact ⟨3, by decide, rfl⟩
theorem cmul_ok {v : Nat} {b : Bool} (h : v ≤ 3) : CMul (v : Int) (if b = true then 1 else 0) := .inl ⟨by omega, by omega⟩
abbrev N_law_asked : List Str := ["_law_well_here", "_law_g", "_law_leads", "_law_follows", "_law_lead", "_law_some", "_law_k", "_law_holds", "_law_cell", "_law_values"]
abbrev V_law_asked : List Nat := [0, 1, 2, 3, 4, 5, 6, 7, 8, 9]
abbrev G_law_asked : List Str := ["_law_marks", "_law_draw", "_law_of", "range", "int"]
theorem wk_law_asked {g : Gb} {k : Nat} (Z : Fx g) {j : Nat} (hj : j ≤ k) (Fm : FnG g j "_law_marks" spMarksL) (Fd : FnG g j "_law_draw" spDraw) (Fo : FnG g j "_law_of" spOf) : Wlk g k d_law_asked N_law_asked ["_law_well_here", "_law_g"] V_law_asked V_law_asked G_law_asked (spAskedL) := by
  refine ⟨⟨rfl, rfl, rfl, by decide +kernel, rfl, by decide +kernel, by decide +kernel⟩, by decide +kernel, ?_, fun X S ds μ P h => ?_⟩
  · walk_at "sp_len"
  have nn0 : N_law_asked[0]? = some ("_law_well_here" : Str) := rfl
  have nn1 : N_law_asked[1]? = some ("_law_g" : Str) := rfl
  have nn2 : N_law_asked[2]? = some ("_law_leads" : Str) := rfl
  have nn3 : N_law_asked[3]? = some ("_law_follows" : Str) := rfl
  have nn4 : N_law_asked[4]? = some ("_law_lead" : Str) := rfl
  have nn5 : N_law_asked[5]? = some ("_law_some" : Str) := rfl
  have nn6 : N_law_asked[6]? = some ("_law_k" : Str) := rfl
  have nn7 : N_law_asked[7]? = some ("_law_holds" : Str) := rfl
  have nn8 : N_law_asked[8]? = some ("_law_cell" : Str) := rfl
  have nn9 : N_law_asked[9]? = some ("_law_values" : Str) := rfl
  have gg0 : G_law_asked[0]? = some ("_law_marks" : Str) := rfl
  have gg1 : G_law_asked[1]? = some ("_law_draw" : Str) := rfl
  have gg2 : G_law_asked[2]? = some ("_law_of" : Str) := rfl
  have gg3 : G_law_asked[3]? = some ("range" : Str) := rfl
  have gg4 : G_law_asked[4]? = some ("int" : Str) := rfl
  refine wb_cons ?_
  obtain ⟨p, b, c, pl, ms, r0, r1, rfl, hp, w, mok, gok, q⟩ := h
  have l2 := gok.ok.l2
  have mk0 : ∀ n, St.mark n ∈ preR r0 → OkN n := fun n h => mok.ok n (preR_ok r0 gok.k0 _ h)
  have mk1 : ∀ n, St.mark n ∈ preR r1 → OkN n := fun n h => mok.ok n (preR_ok r1 gok.k1 _ h)
  walk_at "g"
  refine ⟨pl, ms, r0, r1, 0, rfl, by decide, gok, fun ls hls hll => ?_⟩
  walk_at "g"
  refine ⟨pl, ms, r0, r1, 1, rfl, by decide, gok, fun fs hfs hfl => ?_⟩
  walk_at "g"
  refine ws_join (fun ρ' m' => ∃ lead c1, (∀ z, lead = some z → St.mark z ∈ preR r0) ∧ Well (b + 18) c1 ∧ ρ' = [some (.ptr p), some (gD pl r0 r1), some (.lst (ls.map .str)), some (.lst (fs.map .str)), some (optS lead), none, none, none, none, none] ∧ m' = up μ p c1) ?_ ?_
  · refine ws_ifc (fun t m' => ∃ c1, Well (b + 19) c1 ∧ m' = up μ p c1 ∧ (t = true → ls ≠ [])) ?_ ?_ ?_
    · walk_at "g"
      refine ⟨_, strs_eqE fun n hn => mk0 n (hls n hn), ?_⟩
      by_cases hne : ls = []
      · rw [decide_eq_true hne]
        exact ⟨c, w.weak (by omega), (up_id hp).symm, fun z => by cases z⟩
      · rw [decide_eq_false hne]
        rw [if_pos (by rfl)]
        walk_at "g"
        refine ⟨p, b + 19, c, 2, rfl, hp, w.weak (by omega), by decide, by decide, fun r c1 h0 h1 w1 => ?_⟩
        walk_at "g"
        exact ⟨c1, w1, rfl, fun _ => hne⟩
    · rintro m' ⟨c1, w1, rfl, hne⟩
      have hne := hne rfl
      walk_at "g"
      refine ⟨p, b + 18, c1, _, _, rfl, up_same, w1.weak (by omega), .inl rfl, by rw [List.length_map]; exact List.length_pos_iff.mpr hne, by rw [List.length_map]; omega, fun d c2 hd w2 => ?_⟩
      rw [up_up]
      obtain ⟨z, hz, ed⟩ := List.mem_map.mp hd
      subst ed
      exact ⟨some z, c2, fun y hy => by cases hy; exact hls _ hz, w2, rfl, rfl⟩
    · rintro m' ⟨c1, w1, rfl, _⟩
      walk_at "g"
      exact ⟨none, c1, (fun _ h => by cases h), w1.weak (by omega), rfl, rfl⟩
  rintro _ _ ⟨lead, c1, hlead, w1, rfl, rfl⟩
  walk_at "g"
  refine ws_setL (by assumption) 5 rfl rfl ?_
  walk_at "g"
  intro f hf
  have hpf : p ≠ f := mu_ne up_same hf
  have hmu : ∀ c c' l, up (up (up μ p c) f l) p c' = up (up μ p c') f l := fun c c' l => by rw [up_comm (Ne.symm hpf), up_up]
  walk_at "g"
  refine ws_for (by assumption) ?_
  walk_at "g"
  refine ⟨p, b + 17, c1, 6, rfl, by rw [up_ne hpf]; exact up_same, w1.weak (by omega), by decide, by decide, fun r c2 h0 h1 w2 => ?_⟩
  rw [hmu]
  obtain ⟨v, hv3, hv⟩ := six_at h0 h1
  refine ⟨_, .l hv, ?_⟩
  walk_at "g"
  refine ⟨_, strs_eqE fun n hn => mk1 n (hfs n hn), ?_⟩
  have hcnt : ∃ cnt : Nat, (v : Int) * (if (!decide (fs = [])) = true then 1 else 0) = (cnt : Nat) ∧ cnt ≤ 3 ∧ (0 < cnt → fs ≠ []) := by
    by_cases hne : fs = []
    · exact ⟨0, by rw [decide_eq_true hne]; simp, by decide, fun z => absurd z (by decide)⟩
    · exact ⟨v, by rw [decide_eq_false hne]; simp, hv3, fun _ => hne⟩
  obtain ⟨cnt, hc1, hc3, hcn⟩ := hcnt
  refine ⟨_, rfl, _, _, rfl, rfl, ?_, ?_⟩
  · exact cmul_ok hv3
  rw [hc1]
  walk_at "g"
  refine ⟨fun i ρ' m' => ∃ (ss : List Str) (c3 : MC) (a6 : Option D), ρ' = [some (.ptr p), some (gD pl r0 r1), some (.lst (ls.map .str)), some (.lst (fs.map .str)), some (optS lead), some (.ptr f), a6, none, none, none] ∧ m' = up (up μ p c3) f (.lst (ss.map .str)) ∧ Well (b + 16 - i) c3 ∧ ss.length = i ∧ ∀ z, z ∈ ss → z ∈ fs, ⟨[], c2, _, rfl, rfl, w2.weak (by omega), rfl, fun _ h => by cases h⟩, ?_, ?_⟩
  · rintro i d ρ' m' hd ⟨ss, c3, a6, rfl, rfl, w3, hl, hss⟩
    have hi : i < cnt := by
      have := (List.getElem?_eq_some_iff.mp hd).1
      rw [rngD_len] at this; omega
    walk_at "g"
    refine ws_append (by assumption) rfl ?_
    walk_at "g"
    refine ⟨⟨_, up_same⟩, ?_⟩
    walk_at "g"
    refine ⟨p, b + 15 - i, c3, _, _, rfl, by rw [up_ne hpf]; exact up_same, w3.weak (by omega), .inl rfl, by rw [List.length_map]; exact List.length_pos_iff.mpr (hcn (by omega)), by rw [List.length_map]; omega, fun d c4 hd4 w4 => ?_⟩
    rw [hmu]
    obtain ⟨z, hz, ed⟩ := List.mem_map.mp hd4
    subst ed
    refine ⟨_, up_same, by rw [List.length_map]; omega, ?_⟩
    refine ⟨ss ++ [z], c4, _, rfl, by rw [up_up, List.map_append]; rfl, w4.weak (by omega), by simp [hl], fun y hy => ?_⟩
    rcases List.mem_append.mp hy with e | e
    · exact hss y e
    · have : y = z := by simpa using e
      subst this; exact hz
  rintro ρ' m' ⟨ss, c3, a6, rfl, rfl, w3, hl, hss⟩
  rw [rngD_len] at hl w3
  have hf0 : μ f = none := by rw [up_ne (Ne.symm hpf)] at hf; exact hf
  refine wb_frz 5 rfl up_same rfl ?_
  rw [dl_up (by rw [up_ne (Ne.symm hpf)]; exact hf0)]
  walk_at "g"
  refine ws_setL (by assumption) 7 rfl rfl ?_
  walk_at "g"
  intro f2 hf2
  have hpf2 : p ≠ f2 := mu_ne up_same hf2
  have hmu2 : ∀ c c' l, up (up (up μ p c) f2 l) p c' = up (up μ p c') f2 l := fun c c' l => by rw [up_comm (Ne.symm hpf2), up_up]
  walk_at "g"
  refine ws_for (by assumption) ?_
  refine wi_lst (by assumption) ?_
  refine w_gP (by assumption) ?_
  walk_at "g"
  refine ⟨pl, r0, r1, rfl, ?_⟩
  refine ⟨_, rfl, ?_⟩
  refine ⟨fun i ρ' m' => ∃ (hs : List (Str × Str)) (c4 : MC) (a6 a8 a9 : Option D), ρ' = [some (.ptr p), some (gD pl r0 r1), some (.lst (ls.map .str)), some (.lst (fs.map .str)), some (optS lead), some (.lst (ss.map .str)), a6, some (.ptr f2), a8, a9] ∧ m' = up (up μ p c4) f2 (.lst (hs.map holdD)) ∧ Well (b + 10 - 2 * i) c4 ∧ hs.length ≤ i ∧ (∀ h, h ∈ hs → CV pl h.1 h.2) ∧ (hs.map (·.1)).Sublist ((pl.take i).map (·.1)), ⟨[], c3, _, _, _, rfl, rfl, w3.weak (by omega), Nat.le_refl _, (fun _ h => by cases h), by simp⟩, ?_, ?_⟩
  · rintro i d ρ' m' hd ⟨hs, c4, a6, a8, a9, rfl, rfl, w4, hhl, hcv, hsub⟩
    rw [List.getElem?_map] at hd
    cases ht : pl[i]? with
    | none => rw [ht] at hd; cases hd
    | some cc =>
      rw [ht] at hd
      cases hd
      have hi : i < pl.length := (List.getElem?_eq_some_iff.mp ht).1
      have cok := gok.ok.ok cc (List.mem_of_getElem? ht)
      have cl2 := cok.l2
      have cl3 := cok.l3
      have etk : (pl.take (i + 1)).map (·.1) = (pl.take i).map (·.1) ++ [cc.1] := by rw [List.take_succ, ht]; simp
      walk_at "g"
      refine ws_ifc (fun t m' => ∃ c5, Well (b + 9 - 2 * i) c5 ∧ m' = up (up μ p c5) f2 (.lst (hs.map holdD))) ?_ ?_ ?_
      · walk_at "g"
        refine ⟨p, b + 9 - 2 * i, c4, 3, rfl, by rw [up_ne hpf2]; exact up_same, w4.weak (by omega), by decide, by decide, fun r c5 h0 h1 w5 => ?_⟩
        rw [hmu2]
        walk_at "g"
        exact ⟨c5, w5, rfl⟩
      · rintro m' ⟨c5, w5, rfl⟩
        walk_at "g"
        refine ws_append (by assumption) rfl ?_
        walk_at "g"
        refine ⟨⟨_, up_same⟩, ?_⟩
        walk_at "g"
        refine ⟨p, b + 8 - 2 * i, c5, _, _, rfl, by rw [up_ne hpf2]; exact up_same, w5.weak (by omega), .inl rfl, by rw [List.length_map]; omega, by rw [List.length_map]; omega, fun d c6 hd6 w6 => ?_⟩
        rw [hmu2]
        obtain ⟨v6, hv6, ed⟩ := List.mem_map.mp hd6
        subst ed
        walk_at "g"
        refine ⟨_, up_same, by rw [List.length_map]; omega, ?_⟩
        refine ⟨hs ++ [(cc.1, v6)], c6, _, _, _, rfl, by rw [up_up, List.map_append]; rfl, w6.weak (by omega), by simp; omega, fun h hh => ?_, ?_⟩
        · rcases List.mem_append.mp hh with e | e
          · exact hcv h e
          · have : h = (cc.1, v6) := by simpa using e
            subst this
            exact ⟨cc.2, List.mem_of_getElem? ht, hv6⟩
        · rw [etk, List.map_append]
          exact hsub.append (List.Sublist.refl _)
      · rintro m' ⟨c5, w5, rfl⟩
        walk_at "g"
        refine ⟨hs, c5, _, _, _, rfl, rfl, w5.weak (by omega), by omega, hcv, ?_⟩
        rw [etk]
        exact hsub.trans (List.sublist_append_left ..)
  · rintro ρ' m' ⟨hs, c4, a6, a8, a9, rfl, rfl, w4, hhl, hcv, hsub⟩
    rw [List.length_map] at w4 hhl
    rw [List.length_map, List.take_length] at hsub
    refine wb_frz 7 rfl up_same rfl ?_
    have hf20 : μ f2 = none := by rw [up_ne (Ne.symm hpf2)] at hf2; exact hf2
    rw [dl_up (by rw [up_ne (Ne.symm hpf2)]; exact hf20)]
    walk_at "g"
    refine q ⟨lead, ss, hs⟩ c4 ⟨hlead, fun z hz => hfs z (hss z hz), by show ss.length ≤ 6; omega, hcv, by show hs.length ≤ 10; omega⟩ ⟨fun z hz => mk0 z (hlead z hz), by show ss.length ≤ 6; omega, fun z hz => mk1 z (hfs z (hss z hz)), by show hs.length ≤ 10; omega, fun h hh => cv_ok gok.ok (hcv h hh), hsub.nodup gok.ok.nd⟩ (w4.weak (by omega))
theorem ok_law_asked {g : Gb} {k : Nat} (Z : Fx g) {j : Nat} (hj : j ≤ k) (Fm : FnG g j "_law_marks" spMarksL) (Fd : FnG g j "_law_draw" spDraw) (Fo : FnG g j "_law_of" spOf) : FnG g (k + 1) "_law_asked" (spAskedL) :=
  Z.fn 81 55 rfl rfl rfl rfl (fun _ _ _ _ _ _ us hl => match us, hl with | [_, _], _ => rfl) (wk_law_asked Z hj Fm Fd Fo)
def spPutAs (g : Gb) : ASp := fun ds μ P => ∃ q, ds = [lqD q] ∧ QOk q ∧ P (askD g q) μ
abbrev N_law_put_as : List Str := ["_law_q"]
abbrev V_law_put_as : List Nat := [0]
abbrev G_law_put_as : List Str := ["Question", "list"]
theorem wk_law_put_as {g : Gb} {k : Nat} (Z : Fx g) {j : Nat} (hj : j + 1 ≤ k) (Fq : MkG g j "Question" (cl g "Question") (spQI g)) : Wlk g k d_law_put_as N_law_put_as ["_law_q"] V_law_put_as V_law_put_as G_law_put_as (spPutAs g) := by
  refine ⟨⟨rfl, rfl, rfl, by decide +kernel, rfl, by decide +kernel, by decide +kernel⟩, by decide +kernel, ?_, fun X S ds μ P h => ?_⟩
  · walk_at "sp_len"
  have nn0 : N_law_put_as[0]? = some ("_law_q" : Str) := rfl
  have gg0 : G_law_put_as[0]? = some ("Question" : Str) := rfl
  have gg1 : G_law_put_as[1]? = some ("list" : Str) := rfl
  refine wb_cons ?_
  obtain ⟨q, rfl, qok, post⟩ := h
  refine ws_ret ?_
  refine w_make (by assumption) Fq hj _ (by with_reducible assumption) ?_
  walk_at "g"
  refine ⟨_, .inl rfl, ?_⟩
  walk_at "g"
  refine ⟨_, .inl rfl, ?_⟩
  walk_at "g"
  intro a ha
  refine ⟨a, q, rfl, up_same, qok, rfl, _, _, up_same, ?_⟩
  rw [up_up, dl_up ha]
  exact post
theorem ok_law_put_as {g : Gb} {k : Nat} (Z : Fx g) {j : Nat} (hj : j + 1 ≤ k) (Fq : MkG g j "Question" (cl g "Question") (spQI g)) : FnG g (k + 1) "_law_put_as" (spPutAs g) :=
  Z.fn 82 56 rfl rfl rfl rfl (fun _ _ _ _ _ _ us hl => match us, hl with | [_], _ => rfl) (wk_law_put_as Z hj Fq)
end
set_option maxHeartbeats 4000000
section
open PySem PySem.Spec L2
abbrev N_law_all : List Str := ["_law_own_here", "_law_count"]
abbrev V_law_all : List Nat := [0, 1]
abbrev G_law_all : List Str := ["standings", "Wide"]
theorem wk_law_all {g : Gb} {k : Nat} (Z : Fx g) {j : Nat} (hj : j ≤ k) (Fs : FnG g j "standings" (spStandings g)) : Wlk g k d_law_all N_law_all ["_law_own_here", "_law_count"] V_law_all V_law_all G_law_all (spStandings g) := by
  refine ⟨⟨rfl, rfl, rfl, by decide +kernel, rfl, by decide +kernel, by decide +kernel⟩, by decide +kernel, ?_, fun X S ds μ P h => ?_⟩
  · walk_at "sp_len"
  have nn0 : N_law_all[0]? = some ("_law_own_here" : Str) := rfl
  have nn1 : N_law_all[1]? = some ("_law_count" : Str) := rfl
  have gg0 : G_law_all[0]? = some ("standings" : Str) := rfl
  have gg1 : G_law_all[1]? = some ("Wide" : Str) := rfl
  refine wb_cons ?_
  obtain ⟨pl, ms, r0, r1, n, rfl, gok, hn, q⟩ := h
  refine ws_try (by assumption) ?_
  walk_at "g"
  exact ⟨pl, ms, r0, r1, n, rfl, gok, hn, q⟩
theorem ok_law_all {g : Gb} {k : Nat} (Z : Fx g) {j : Nat} (hj : j ≤ k) (Fs : FnG g j "standings" (spStandings g)) : FnG g (k + 1) "_law_all" (spStandings g) :=
  Z.fn 83 57 rfl rfl rfl rfl (fun _ _ _ _ _ _ us hl => match us, hl with | [_, _], _ => rfl) (wk_law_all Z hj Fs)
def spWithin : ASp := fun ds μ P => ∃ R R' : List Spot, ds = [.lst (R.map spotD), .lst (R'.map spotD)] ∧ R.length ≤ 1000 ∧ R'.length ≤ 1000 ∧ R'.Nodup ∧ (∀ s, s ∈ R → s.rooms.length ≤ 10) ∧ (∀ s, s ∈ R → insM s ∈ R') ∧ P (.bl true) μ
theorem rooms_zero (rs : List Nat) : D.tup ((rs.map fun r : Nat => D.int r) ++ [.int 0]) = .tup (((rs ++ [0]).map fun r : Nat => (r : Int)).map .int) := by
  rw [List.map_append, List.map_append, List.map_map]; rfl
abbrev N_law_within : List Str := ["_law_some", "_law_more", "_law_known", "_law_room", "_law_state", "_law_rooms_here", "_law_spot"]
abbrev V_law_within : List Nat := [0, 1, 2, 3, 4, 5]
abbrev G_law_within : List Str := ["dict", "tuple", "sorted"]
abbrev V_law_within_0 : List Nat := [6]
abbrev L_law_within_0 : List Nat := [6]
abbrev G_law_within_0 : List Str := []
abbrev O_law_within_0 : List (Str × Nat) := [("_law_spot", 6)]
theorem wk_law_within {g : Gb} {k : Nat} (Z : Fx g)  : Wlk g k d_law_within N_law_within ["_law_some", "_law_more"] V_law_within V_law_within G_law_within (spWithin) := by
  refine ⟨⟨rfl, rfl, rfl, by decide +kernel, rfl, by decide +kernel, by decide +kernel⟩, by decide +kernel, ?_, fun X S ds μ P h => ?_⟩
  · walk_at "sp_len"
  have nn0 : N_law_within[0]? = some ("_law_some" : Str) := rfl
  have nn1 : N_law_within[1]? = some ("_law_more" : Str) := rfl
  have nn2 : N_law_within[2]? = some ("_law_known" : Str) := rfl
  have nn3 : N_law_within[3]? = some ("_law_room" : Str) := rfl
  have nn4 : N_law_within[4]? = some ("_law_state" : Str) := rfl
  have nn5 : N_law_within[5]? = some ("_law_rooms_here" : Str) := rfl
  have nn6 : N_law_within[6]? = some ("_law_spot" : Str) := rfl
  have gg0 : G_law_within[0]? = some ("dict" : Str) := rfl
  have gg1 : G_law_within[1]? = some ("tuple" : Str) := rfl
  have gg2 : G_law_within[2]? = some ("sorted" : Str) := rfl
  refine wb_cons ?_
  obtain ⟨R, R', rfl, hl, hl', nd, hr, hin, q⟩ := h
  refine ws_v (by assumption) (by with_reducible assumption) rfl ?_
  refine w_dictN (by assumption) (by with_reducible assumption) (Fx.free (by assumption) 65 rfl) ?_
  refine w_lcM (vis' := V_law_within_0) (loc' := L_law_within_0) (gl' := G_law_within_0) (by assumption) O_law_within_0 (by decide +kernel) (by decide +kernel) ?_
  refine wi_lst (by assumption) ?_
  walk_at "g"
  refine ⟨Spot, R', spotD, fun s => .tup [spotD s, .bl true], rfl, by omega, fun s hs p2 acc hp2 => ⟨?_, fun X' S' => ?_, fun X' S' => ?_⟩, ?_⟩
  rotate_left
  · walk_at "g"
  · walk_at "g"
  refine ⟨R'.map fun s => (spotD s, .bl true), by rw [List.map_map]; rfl, by rw [List.length_map]; omega, fun kd hkd => ?_, ?_, fun f hf => ?_⟩
  · obtain ⟨s, _, e⟩ := List.mem_map.mp hkd
    subst e; exact ky_spot s
  · rw [List.map_map]
    exact List.nodup_iff_pairwise_ne.mpr (List.pairwise_map.mpr ((List.nodup_iff_pairwise_ne.mp nd).imp fun h e => h (nk_inj e)))
  have eks : (R'.map fun s => (spotD s, D.bl true)).map (·.1) = R'.map spotD := by rw [List.map_map]; rfl
  rw [eks]
  walk_at "g"
  refine ws_for (by assumption) ?_
  refine wi_lst (by assumption) ?_
  walk_at "g"
  refine ⟨fun i ρ' m' => ∃ a3 a4 a5 a6, ρ' = [some (.lst (R.map spotD)), some (.lst (R'.map spotD)), some (.ptr f), a3, a4, a5, a6] ∧ m' = up μ f (.nst (R'.map spotD) []), ⟨_, _, _, _, rfl, rfl⟩, ?_, ?_⟩
  · rintro i d ρ' m' hd ⟨a3, a4, a5, a6, rfl, rfl⟩
    rw [List.getElem?_map] at hd
    cases ht : R[i]? with
    | none => rw [ht] at hd; cases hd
    | some s =>
      rw [ht] at hd
      cases hd
      have hsm := List.mem_of_getElem? ht
      have hrl := hr s hsm
      walk_at "g"
      refine ws_ifc (fun t m' => t = false ∧ m' = up μ f (.nst (R'.map spotD) [])) ?_ (fun _ h => by cases h.1) ?_
      · refine wt_nnin (by assumption) ?_
        walk_at "g"
        refine w_tupOfP (by assumption) _ (by with_reducible assumption) (Fx.free (by assumption) 77 rfl) ?_
        refine w_sortedT (by assumption) (by with_reducible assumption) (Fx.free (by assumption) 74 rfl) ?_
        walk_at "g"
        · show (s.rooms.map fun r : Nat => D.int r).length + 1 ≤ 100000
          rw [List.length_map]; omega
        walk_at "g"
        refine ⟨(s.rooms ++ [0]).map fun r : Nat => (r : Int), rooms_zero s.rooms, by rw [List.length_map, List.length_append]; show _ + 1 ≤ _; omega, fun ys pm pw => ?_⟩
        rw [srt_ints pm pw]
        walk_at "g"
        have e : D.tup [.int (s.room : Nat), stD s.st, .tup (((srt (s.rooms ++ [0])).map fun r : Nat => (r : Int)).map .int)] = spotD (insM s) := by
          rw [← rooms_ints]; rfl
        rw [e]
        refine ⟨f, _, _, rfl, up_same, ky_spot _, ?_, rfl⟩
        rw [decide_eq_true (nk_mem.mpr (hin s hsm))]
        rfl
      rintro _ ⟨_, rfl⟩
      walk_at "g"
      exact ⟨_, _, _, _, rfl, rfl⟩
  · rintro ρ' m' ⟨a3, a4, a5, a6, rfl, rfl⟩
    refine wb_one (ws_ret (w_post (w_bl ⟨f, ?_⟩)))
    rw [dl_up hf]
    exact q
theorem ok_law_within {g : Gb} {k : Nat} (Z : Fx g)  : FnG g (k + 1) "_law_within" (spWithin) :=
  Z.fn 84 58 rfl rfl rfl rfl (fun _ _ _ _ _ _ us hl => match us, hl with | [_, _], _ => rfl) (wk_law_within Z)
def spMetC (g : Gb) : ASp := fun ds μ P => ∃ (pl : Plan) (ms : List Str) (r0 r1 : List St) (q : Ask) (R : List Spot), ds = [gameD g pl r0 r1, askD g q, .lst (R.map spotD)] ∧ GOk pl ms r0 r1 ∧ AskOk pl r0 r1 q ∧ R.length ≤ 1000 ∧ (∀ s, s ∈ R → SpotOk pl r0 r1 s) ∧ P (.int ((R.filter (metM q pl r0 r1)).length : Nat)) μ
abbrev N_law_met_count : List Str := ["_law_own_here", "_law_ask", "_law_spots", "_law_spot"]
abbrev V_law_met_count : List Nat := [0, 1, 2]
abbrev G_law_met_count : List Str := ["len"]
abbrev V_law_met_count_0 : List Nat := [0, 1, 3]
abbrev L_law_met_count_0 : List Nat := [3]
abbrev G_law_met_count_0 : List Str := ["met"]
abbrev O_law_met_count_0 : List (Str × Nat) := [("_law_spot", 3)]
theorem wk_law_met_count {g : Gb} {k : Nat} (Z : Fx g) {j : Nat} (hj : j ≤ k) (Fm : FnG g j "met" (spMet g)) : Wlk g k d_law_met_count N_law_met_count ["_law_own_here", "_law_ask", "_law_spots"] V_law_met_count V_law_met_count G_law_met_count (spMetC g) := by
  refine ⟨⟨rfl, rfl, rfl, by decide +kernel, rfl, by decide +kernel, by decide +kernel⟩, by decide +kernel, ?_, fun X S ds μ P h => ?_⟩
  · walk_at "sp_len"
  have nn0 : N_law_met_count[0]? = some ("_law_own_here" : Str) := rfl
  have nn1 : N_law_met_count[1]? = some ("_law_ask" : Str) := rfl
  have nn2 : N_law_met_count[2]? = some ("_law_spots" : Str) := rfl
  have nn3 : N_law_met_count[3]? = some ("_law_spot" : Str) := rfl
  have gg0 : G_law_met_count[0]? = some ("len" : Str) := rfl
  have gc0_0 : G_law_met_count_0[0]? = some ("met" : Str) := rfl
  refine wb_cons ?_
  obtain ⟨pl, ms, r0, r1, q, R, rfl, gok, aok, hl, hs, post⟩ := h
  have z0 := gok.z0
  have z1 := gok.z1
  refine ws_ret ?_
  refine w_len (by assumption) _ (by with_reducible assumption) (Fx.free (by assumption) 69 rfl) ?_
  refine w_lcP (vis' := V_law_met_count_0) (loc' := L_law_met_count_0) (gl' := G_law_met_count_0) (by assumption) O_law_met_count_0 (by decide +kernel) (by decide +kernel) ?_
  refine wi_lst (by assumption) ?_
  walk_at "g"
  refine ⟨Spot, R, spotD, spotD, metM q pl r0 r1, rfl, by omega, fun s hsm p2 acc hp2 => ?_, ?_⟩
  · refine ⟨?_, fun X' S' => ?_, fun X' S' => ?_, fun hk X' S' => ?_⟩
    rotate_left
    · walk_at "g"
    · show WT _ _ _ _ _ _
      walk_at "g"
      refine ⟨pl, r0, r1, q, s, rfl, gok.ok, by omega, by omega, aok, hs s hsm, ?_⟩
      exact ⟨_, rfl, rfl, rfl⟩
    · walk_at "g"
  refine ⟨_, rfl, ?_⟩
  rw [List.length_map]
  exact post
theorem ok_law_met_count {g : Gb} {k : Nat} (Z : Fx g) {j : Nat} (hj : j ≤ k) (Fm : FnG g j "met" (spMet g)) : FnG g (k + 1) "_law_met_count" (spMetC g) :=
  Z.fn 85 59 rfl rfl rfl rfl (fun _ _ _ _ _ _ us hl => match us, hl with | [_, _, _], _ => rfl) (wk_law_met_count Z hj Fm)
end
set_option maxHeartbeats 4000000
section
open PySem PySem.Spec L2
theorem st_okn {pl : Plan} (ok : PlanOk pl) {st : List Str} (h : st ∈ prods (pl.map (·.2))) : ∀ v, v ∈ st → OkN v := fun v hv => by
  obtain ⟨h1, h2⟩ := prods_mem.mp h
  obtain ⟨i, hi⟩ := List.mem_iff_getElem?.mp hv
  have hlt := (List.getElem?_eq_some_iff.mp hi).1
  rw [List.length_map] at h1
  have hp : i < pl.length := by omega
  have hvs := h2 i v pl[i].2 hi (by rw [List.getElem?_map, List.getElem?_eq_getElem hp]; rfl)
  exact (ok.ok _ (List.getElem_mem hp)).ok v hvs
theorem lay_strs : ∀ ns : List Str, (∀ n, n ∈ ns → OkN n) → PyData.canLayAll0 (ns.map .str) = true
  | [], _ => by simp [PyData.canLayAll0]
  | n :: ns, h => by simp [PyData.canLayAll0, PyData.canLay0, strOk_of (h n (List.mem_cons_self ..)), lay_strs ns fun x hx => h x (List.mem_cons_of_mem _ hx)]
theorem lay_ints : ∀ ns : List Nat, PyData.canLayAll0 (ns.map fun r : Nat => PyData.int r) = true
  | [] => by simp [PyData.canLayAll0]
  | n :: ns => by simp [PyData.canLayAll0, PyData.canLay0, lay_ints ns]
def pdSp (s : Spot) : PyData := .tuple [.int s.room, .tuple (s.st.map .str), .tuple (s.rooms.map fun r : Nat => .int r)]
theorem sp_lay {s : Spot} (h : ∀ v, v ∈ s.st → OkN v) : (pdSp s).canLay0 = true := by simp [pdSp, PyData.canLay0, PyData.canLayAll0, lay_strs _ h, lay_ints]
theorem sp_dep (s : Spot) : (pdSp s).depth ≤ 3 := by simp [pdSp, PyData.depth, PyData.depthAll, dp_ints, dp_strs]
theorem sp_shaped {s : Spot} (h : ∀ v, v ∈ s.st → OkN v) : SeqAt.shaped (pdSp s) = true := by
  have := sp_dep s
  show ((pdSp s).canLay0 && decide ((pdSp s).depth ≤ 64)) = true
  rw [Bool.and_eq_true]
  exact ⟨sp_lay h, decide_eq_true (by omega)⟩
theorem eqv_ints : ∀ ns : List Nat, PyData.eqvAll (ns.map fun r : Nat => PyData.int r) (ns.map fun r : Nat => PyData.int r) = true
  | [] => by simp [PyData.eqvAll]
  | n :: ns => by simp [PyData.eqvAll, PyData.eqv, eqv_ints ns]
theorem eqv_strs : ∀ ns : List Str, PyData.eqvAll (ns.map PyData.str) (ns.map PyData.str) = true
  | [] => by simp [PyData.eqvAll]
  | n :: ns => by simp [PyData.eqvAll, PyData.eqv, eqv_strs ns]
theorem sp_eqE {s : Spot} (h : ∀ v, v ∈ s.st → OkN v) : EqD (spotD s) (spotD s) true := by
  have e : PyData.eqv (pdSp s) (pdSp s) = true := by simp [pdSp, PyData.eqv, PyData.eqvAll, eqv_ints, eqv_strs]
  rw [← e]
  exact .deep (pd_spot s) (pd_spot s) (sp_shaped h) (sp_shaped h)
def pdNx (x : Next) : PyData := .tuple [.tuple [.int x.1.1, .int x.1.2], pdSp x.2]
theorem pd_nx (x : Next) : pdD (nextD x) = some (pdNx x) := by
  have h := pd_spot x.2
  simp only [nextD, moveD, pdD, pdDs, h, pdNx, pdSp]
theorem pd_nxs : ∀ l : List Next, pdDs (l.map nextD) = some (l.map pdNx)
  | [] => rfl
  | x :: l => by simp only [List.map_cons, pdDs, pd_nx x, pd_nxs l]
theorem nxs_eqE {l : List Next} (h : ∀ x, x ∈ l → ∀ v, v ∈ x.2.st → OkN v) : EqD (.lst (l.map nextD)) (.lst []) (decide (l = [])) := by
  have hx : pdD (.lst (l.map nextD)) = some (.list (l.map pdNx)) := by simp [pdD, pd_nxs l]
  have hl : ∀ l : List Next, (∀ x, x ∈ l → ∀ v, v ∈ x.2.st → OkN v) → PyData.canLayAll0 (l.map pdNx) = true ∧ PyData.depthAll (l.map pdNx) ≤ 10 := fun l => by
    induction l with
    | nil => intro _; simp [PyData.canLayAll0, PyData.depthAll]
    | cons x l ih =>
      intro h
      obtain ⟨i1, i2⟩ := ih fun y hy => h y (List.mem_cons_of_mem _ hy)
      have := sp_dep x.2
      refine ⟨by simp [PyData.canLayAll0, pdNx, PyData.canLay0, sp_lay (h x (List.mem_cons_self ..)), i1], ?_⟩
      simp [PyData.depthAll, pdNx, PyData.depth]
      omega
  have sa : SeqAt.shaped (.list (l.map pdNx)) = true := by
    obtain ⟨i1, i2⟩ := hl l h
    show (PyData.canLay0 (.list (l.map pdNx)) && decide (PyData.depth (.list (l.map pdNx)) ≤ 64)) = true
    rw [Bool.and_eq_true]
    exact ⟨by simp [PyData.canLay0, i1], decide_eq_true (by simp [PyData.depth]; omega)⟩
  have e : PyData.eqv (.list (l.map pdNx)) (.list []) = decide (l = []) := by
    cases l with
    | nil => simp [PyData.eqv, PyData.eqvAll]
    | cons n ns => simp [PyData.eqv, PyData.eqvAll]
  rw [← e]
  exact .deep hx rfl sa (by decide)
theorem nexts_len {pl : Plan} (ok : PlanOk pl) {r0 r1 : List St} {s : Spot} (sok : SpotOk pl r0 r1 s) : (nextsM pl r0 r1 s).length ≤ 60 := by
  have h1 := nxt_len ok (st := s.st) sok.room
  have h2 := nxtsF_len ok (s := s) s.rooms 0 sok.rooms
  have h3 := sok.l
  unfold nextsM nxt0
  rw [List.length_append, List.length_map]
  omega
structure SpFull (pl : Plan) (r0 r1 : List St) (n : Nat) (s : Spot) : Prop where
  room : s.room ≤ szs r0
  st : s.st ∈ prods (pl.map (·.2))
  l : s.rooms.length = n
  rooms : ∀ r, r ∈ s.rooms → r ≤ szs r1
theorem SpFull.spot {pl : Plan} {r0 r1 : List St} {n : Nat} {s : Spot} (h : SpFull pl r0 r1 n s) (hn : n ≤ 10) : SpotOk pl r0 r1 s := ⟨h.room, by have := (prods_mem.mp h.st).1; rwa [List.length_map] at this, h.rooms, by rw [h.l]; exact hn⟩
def spIdle (g : Gb) : ASp := fun ds μ P => ∃ p b c pl ms r0 r1 n, ds = [.ptr p, gameD g pl r0 r1, gD pl r0 r1, .int (n : Nat)] ∧ μ p = some c ∧ Well (b + 20) c ∧ GOk pl ms r0 r1 ∧ n ≤ 3 ∧ ∀ c', Well b c' → P (.bl true) (up μ p c')
abbrev N_law_idle : List Str := ["_law_well_here", "_law_own_here", "_law_g", "_law_count", "_law_spot", "_law_deeds", "_law_k", "_law_some", "_law_move", "_law_room", "_law_state", "_law_rooms_here"]
abbrev V_law_idle : List Nat := [0, 1, 2, 3, 4, 5, 6, 7, 8, 9, 10, 11]
abbrev G_law_idle : List Str := ["range", "_law_draw", "_law_nexts", "_law_of"]
theorem wk_law_idle {g : Gb} {k : Nat} (Z : Fx g) {j : Nat} (hj : j ≤ k) (Fb : MeG g j (cl g "Game") "begin" (spBegin g)) (Fd : FnG g j "_law_draw" spDraw) (Fn : FnG g j "_law_nexts" spNexts) (Fo : FnG g j "_law_of" spOf) (Fp : MeG g j (cl g "Game") "played" (spPlayed g)) : Wlk g k d_law_idle N_law_idle ["_law_well_here", "_law_own_here", "_law_g", "_law_count"] V_law_idle V_law_idle G_law_idle (spIdle g) := by
  refine ⟨⟨rfl, rfl, rfl, by decide +kernel, rfl, by decide +kernel, by decide +kernel⟩, by decide +kernel, ?_, fun X S ds μ P h => ?_⟩
  · walk_at "sp_len"
  have nn0 : N_law_idle[0]? = some ("_law_well_here" : Str) := rfl
  have nn1 : N_law_idle[1]? = some ("_law_own_here" : Str) := rfl
  have nn2 : N_law_idle[2]? = some ("_law_g" : Str) := rfl
  have nn3 : N_law_idle[3]? = some ("_law_count" : Str) := rfl
  have nn4 : N_law_idle[4]? = some ("_law_spot" : Str) := rfl
  have nn5 : N_law_idle[5]? = some ("_law_deeds" : Str) := rfl
  have nn6 : N_law_idle[6]? = some ("_law_k" : Str) := rfl
  have nn7 : N_law_idle[7]? = some ("_law_some" : Str) := rfl
  have nn8 : N_law_idle[8]? = some ("_law_move" : Str) := rfl
  have nn9 : N_law_idle[9]? = some ("_law_room" : Str) := rfl
  have nn10 : N_law_idle[10]? = some ("_law_state" : Str) := rfl
  have nn11 : N_law_idle[11]? = some ("_law_rooms_here" : Str) := rfl
  have gg0 : G_law_idle[0]? = some ("range" : Str) := rfl
  have gg1 : G_law_idle[1]? = some ("_law_draw" : Str) := rfl
  have gg2 : G_law_idle[2]? = some ("_law_nexts" : Str) := rfl
  have gg3 : G_law_idle[3]? = some ("_law_of" : Str) := rfl
  refine wb_cons ?_
  obtain ⟨p, b, c, pl, ms, r0, r1, n, rfl, hp, w, gok, hn, q⟩ := h
  refine ws_v (by assumption) (by with_reducible assumption) rfl ?_
  refine w_meth (by assumption) Fb hj ?_
  walk_at "g"
  refine ⟨_, _, rfl, rfl, ?_⟩
  walk_at "g"
  refine ⟨pl, r0, r1, n, rfl, by omega, gok.ok, ?_⟩
  walk_at "g"
  refine ws_setL (by assumption) 5 rfl rfl ?_
  walk_at "g"
  intro f hf
  have hpf : p ≠ f := mu_ne hp hf
  have hmu : ∀ c' l, up (up μ f l) p c' = up (up μ p c') f l := fun c' l => up_comm (Ne.symm hpf)
  have hmu2 : ∀ c c' l, up (up (up μ p c) f l) p c' = up (up μ p c') f l := fun c c' l => by rw [up_comm (Ne.symm hpf), up_up]
  walk_at "g"
  refine ws_for (by assumption) ?_
  walk_at "g"
  refine ⟨p, b + 19, c, 9, rfl, by rw [up_ne hpf]; exact hp, w.weak (by omega), by decide, by decide, fun r c1 h0 h1 w1 => ?_⟩
  rw [hmu]
  walk_at "g"
  refine ⟨fun i ρ' m' => ∃ (mv : List (Nat × Nat)) (s : Spot) (c2 : MC) (a6 a7 a8 : Option D), ρ' = [some (.ptr p), some (gameD g pl r0 r1), some (gD pl r0 r1), some (.int (n : Nat)), some (spotD s), some (.ptr f), a6, a7, a8, none, none, none] ∧ m' = up (up μ p c2) f (.lst (mv.map moveD)) ∧ Well (b + 10 - i) c2 ∧ mv.length ≤ i ∧ SpFull pl r0 r1 n s ∧ playM pl r0 r1 (beginM pl n) mv = some s, ⟨[], beginM pl n, c1, _, _, _, rfl, rfl, w1.weak (by omega), Nat.le_refl _, ⟨Nat.zero_le _, first_in gok.ok, List.length_replicate, fun r hr => by rw [List.eq_of_mem_replicate hr]; exact Nat.zero_le _⟩, rfl⟩, ?_, ?_⟩
  · rintro i d ρ' m' hd ⟨mv, s, c2, a6, a7, a8, rfl, rfl, w2, hml, sf, hpm⟩
    have hi : i < 9 := by
      have := (List.getElem?_eq_some_iff.mp hd).1
      rw [rngD_len] at this; omega
    have sok := sf.spot (by omega)
    have hnl := nexts_len gok.ok sok
    walk_at "g"
    refine ⟨pl, ms, r0, r1, s, rfl, gok, sok, ?_⟩
    walk_at "g"
    have hok : ∀ x, x ∈ nextsM pl r0 r1 s → ∀ v, v ∈ x.2.st → OkN v := fun x hx => by
      have := moved_ok gok.ok gok.k0 gok.k1 (nexts_moved sok hx) sf.room sf.st sf.rooms
      exact st_okn gok.ok this.2.1
    refine ws_ifc (fun t m' => t = (!decide (nextsM pl r0 r1 s = [])) ∧ m' = up (up μ p c2) f (.lst (mv.map moveD))) ?_ ?_ ?_
    · walk_at "g"
      exact ⟨_, nxs_eqE hok, rfl, rfl⟩
    · rintro _ ⟨e, rfl⟩
      have hne : nextsM pl r0 r1 s ≠ [] := fun z => by rw [decide_eq_true z] at e; cases e
      refine wb_cons (ws_unp ?_)
      walk_at "g"
      refine ⟨p, b + 9 - i, c2, _, _, rfl, by rw [up_ne hpf]; exact up_same, w2.weak (by omega), .inl rfl, by rw [List.length_map]; exact List.length_pos_iff.mpr hne, by rw [List.length_map]; omega, fun d c3 hd3 w3 => ?_⟩
      rw [hmu2]
      obtain ⟨x, hx, ed⟩ := List.mem_map.mp hd3
      subst ed
      have hmv := nexts_moved sok hx
      have hm2 := moved_ok gok.ok gok.k0 gok.k1 hmv sf.room sf.st sf.rooms
      unfold nextD
      walk_at "g"
      refine ws_append (by assumption) rfl ?_
      walk_at "g"
      refine ⟨⟨_, up_same⟩, ?_⟩
      walk_at "g"
      refine ⟨_, up_same, by rw [List.length_map]; omega, ?_⟩
      refine ⟨mv ++ [x.1], x.2, c3, _, _, _, rfl, by rw [up_up, List.map_append]; rfl, w3.weak (by omega), by simp; omega, ⟨hm2.1, hm2.2.1, by rw [hm2.2.2.1]; exact sf.l, hm2.2.2.2⟩, play_app hpm hmv⟩
    · rintro _ ⟨e, rfl⟩
      walk_at "g"
      exact ⟨mv, s, c2, _, _, _, rfl, rfl, w2.weak (by omega), by omega, sf, hpm⟩
  · rintro ρ' m' ⟨mv, s, c2, a6, a7, a8, rfl, rfl, w2, hml, sf, hpm⟩
    rw [rngD_len] at w2
    have hf0 : μ f = none := hf
    refine wb_frz 5 rfl up_same rfl ?_
    rw [dl_up (by rw [up_ne (Ne.symm hpf)]; exact hf0)]
    have okv := st_okn gok.ok sf.st
    refine wb_cons (ws_unp ?_)
    refine w_meth (by assumption) Fp hj ?_
    walk_at "g"
    refine ⟨_, _, rfl, rfl, ?_⟩
    walk_at "g"
    refine ⟨pl, ms, r0, r1, n + 1, mv, more s, rfl, gok.ok, gok.k0, gok.k1, by omega, play_begin hpm, ?_⟩
    unfold spotD
    walk_at "g"
    refine w_meth (by assumption) Fp hj ?_
    walk_at "g"
    refine ⟨_, _, rfl, rfl, ?_⟩
    walk_at "g"
    refine ⟨pl, ms, r0, r1, n, mv, s, rfl, gok.ok, gok.k0, gok.k1, by omega, hpm, ?_⟩
    walk_at "g"
    refine ⟨_, sp_eqE okv, ?_⟩
    refine ⟨true, rfl, ?_⟩
    rw [if_pos rfl]
    walk_at "g"
    · rw [List.length_map, sf.l]
      show n + 1 ≤ 100000
      omega
    have ecut : cutD [D.int (s.room : Nat), stD s.st, roomsD s.rooms] none (some 2) = [D.int (s.room : Nat), stD s.st] := cut_take (n := 2) (by show 2 ≤ 3; decide)
    have efin : D.tup ([D.int (s.room : Nat), stD s.st] ++ [D.tup ((s.rooms.map fun r : Nat => D.int r) ++ [.int 0])]) = spotD (more s) := by
      show D.tup [D.int (s.room : Nat), stD s.st, D.tup ((s.rooms.map fun r : Nat => D.int r) ++ [.int 0])] = D.tup [D.int (s.room : Nat), stD s.st, roomsD (s.rooms ++ [0])]
      unfold roomsD
      rw [List.map_append]
      rfl
    walk_at "g"
    · rw [ecut]
      show 2 + 1 ≤ 100000
      decide
    rw [ecut, efin]
    refine ⟨_, sp_eqE (s := more s) okv, ?_⟩
    exact q c2 (w2.weak (by omega))
theorem ok_law_idle {g : Gb} {k : Nat} (Z : Fx g) {j : Nat} (hj : j ≤ k) (Fb : MeG g j (cl g "Game") "begin" (spBegin g)) (Fd : FnG g j "_law_draw" spDraw) (Fn : FnG g j "_law_nexts" spNexts) (Fo : FnG g j "_law_of" spOf) (Fp : MeG g j (cl g "Game") "played" (spPlayed g)) : FnG g (k + 1) "_law_idle" (spIdle g) :=
  Z.fn 86 60 rfl rfl rfl rfl (fun _ _ _ _ _ _ us hl => match us, hl with | [_, _, _, _], _ => rfl) (wk_law_idle Z hj Fb Fd Fn Fo Fp)
end
set_option maxHeartbeats 4000000
section
open PySem PySem.Spec L2
def spLaw : ASp := fun ds μ P => ∃ ns : List Int, ds = [.frl (ns.map .int)] ∧ P (.bl true) μ
theorem reach_spot {pl : Plan} {ms : List Str} {r0 r1 : List St} (gok : GOk pl ms r0 r1) {n : Nat} (hn : n ≤ 4) {R : List Spot} (F : Found pl r0 r1 n R) {s : Spot} (h : s ∈ R) : SpotOk pl r0 r1 s := (reach_ok gok.ok gok.k0 gok.k1 (F.come s h)).spot (by omega)
theorem met_more {pl : Plan} {r0 r1 : List St} {n : Nat} {R R' : List Spot} {q : Ask} (F : Found pl r0 r1 n R) (F' : Found pl r0 r1 (n + 1) R') (h : 0 < (R.filter (metM q pl r0 r1)).length) : 0 < (R'.filter (metM q pl r0 r1)).length := by
  obtain ⟨s, hs⟩ := List.exists_mem_of_length_pos h
  obtain ⟨h1, h2⟩ := List.mem_filter.mp hs
  exact List.length_pos_of_mem (List.mem_filter.mpr ⟨ins_found F' (F.come s h1), met_ins h2⟩)
abbrev N_law : List Str := ["_law_script", "_law_cell", "_law_well_here", "_law_g", "_law_own_here", "_law_asks", "_law_some", "_law_count", "_law_more", "_law_ask", "_law_k"]
abbrev V_law : List Nat := [0, 1, 2, 3, 4, 5, 6, 7, 8, 9]
abbrev G_law : List Str := ["_law_cell_at", "_law_well", "_law_drawn", "_law_own", "range", "_law_all", "_law_idle", "_law_within", "_law_met_count"]
abbrev V_law_0 : List Nat := [2, 3, 10]
abbrev L_law_0 : List Nat := [10]
abbrev G_law_0 : List Str := ["_law_put_as", "_law_asked"]
abbrev O_law_0 : List (Str × Nat) := [("_law_k", 10)]
theorem wk_law {g : Gb} {k : Nat} (Z : Fx g) {j : Nat} (hj : j ≤ k) (Fc : FnG g j "_law_cell_at" spCellAt) (Fw : FnG g j "_law_well" spWell) (Fd : FnG g j "_law_drawn" spDrawn) (Fo : FnG g j "_law_own" (spOwn g)) (Fp : FnG g j "_law_put_as" (spPutAs g)) (Fa : FnG g j "_law_asked" spAskedL) (Fl : FnG g j "_law_all" (spStandings g)) (Fi : FnG g j "_law_idle" (spIdle g)) (Fn : FnG g j "_law_within" spWithin) (Fm : FnG g j "_law_met_count" (spMetC g)) : Wlk g k d_law N_law ["_law_script"] V_law V_law G_law spLaw := by
  refine ⟨⟨rfl, rfl, rfl, by decide +kernel, rfl, by decide +kernel, by decide +kernel⟩, by decide +kernel, ?_, fun X S ds μ P h => ?_⟩
  · walk_at "sp_len"
  have nn0 : N_law[0]? = some ("_law_script" : Str) := rfl
  have nn1 : N_law[1]? = some ("_law_cell" : Str) := rfl
  have nn2 : N_law[2]? = some ("_law_well_here" : Str) := rfl
  have nn3 : N_law[3]? = some ("_law_g" : Str) := rfl
  have nn4 : N_law[4]? = some ("_law_own_here" : Str) := rfl
  have nn5 : N_law[5]? = some ("_law_asks" : Str) := rfl
  have nn6 : N_law[6]? = some ("_law_some" : Str) := rfl
  have nn7 : N_law[7]? = some ("_law_count" : Str) := rfl
  have nn8 : N_law[8]? = some ("_law_more" : Str) := rfl
  have nn9 : N_law[9]? = some ("_law_ask" : Str) := rfl
  have nn10 : N_law[10]? = some ("_law_k" : Str) := rfl
  have gg0 : G_law[0]? = some ("_law_cell_at" : Str) := rfl
  have gg1 : G_law[1]? = some ("_law_well" : Str) := rfl
  have gg2 : G_law[2]? = some ("_law_drawn" : Str) := rfl
  have gg3 : G_law[3]? = some ("_law_own" : Str) := rfl
  have gg4 : G_law[4]? = some ("range" : Str) := rfl
  have gg5 : G_law[5]? = some ("_law_all" : Str) := rfl
  have gg6 : G_law[6]? = some ("_law_idle" : Str) := rfl
  have gg7 : G_law[7]? = some ("_law_within" : Str) := rfl
  have gg8 : G_law[8]? = some ("_law_met_count" : Str) := rfl
  have gc0_0 : G_law_0[0]? = some ("_law_put_as" : Str) := rfl
  have gc0_1 : G_law_0[1]? = some ("_law_asked" : Str) := rfl
  refine wb_cons ?_
  obtain ⟨ns, rfl, q⟩ := h
  refine ws_for (by assumption) ?_
  refine wi_lst (by assumption) ?_
  walk_at "g"
  refine ⟨ns, 0, rfl, by decide, fun cc => ?_⟩
  walk_at "g"
  refine ⟨fun i ρ' m' => (i = 0 ∧ m' = μ ∧ ρ' = ini N_law [.frl (ns.map .int)]) ∨ (0 < i ∧ ∃ p c, μ p = none ∧ m' = up μ p c), .inl ⟨rfl, rfl, rfl⟩, ?_, ?_⟩
  · rintro i d ρ' m' hd hI
    have hi : i < 1 := (List.getElem?_eq_some_iff.mp hd).1
    obtain ⟨rfl, rfl, rfl⟩ : i = 0 ∧ m' = μ ∧ ρ' = ini N_law [.frl (ns.map .int)] := by
      rcases hI with h | ⟨h, _⟩
      · exact h
      · omega
    cases hd
    walk_at "g"
    refine ⟨cc, rfl, fun p c hp w => ?_⟩
    walk_at "g"
    refine ⟨p, 900000, c, rfl, up_same, w.weak (by decide), fun pl ms r0 r1 c1 mok gok w1 => ?_⟩
    rw [up_up]
    walk_at "g"
    refine ⟨pl, ms, r0, r1, rfl, mok, gok, ?_⟩
    refine wb_cons ?_
    refine ws_setLc (vis' := V_law_0) (loc' := L_law_0) (gl' := G_law_0) (by assumption) 5 rfl rfl rfl rfl rfl O_law_0 (by decide +kernel) (by decide +kernel) ?_
    walk_at "g"
    refine ⟨by rw [rngD_len]; decide, fun i acc m => ∃ (qs : List Ask) (c2 : MC), acc = qs.map (askD g) ∧ m = up m' p c2 ∧ Well (900000 - 20 * i) c2 ∧ ∀ q, q ∈ qs → AskOk pl r0 r1 q, ⟨[], c1, rfl, rfl, w1, fun _ h => by cases h⟩, ?_, ?_⟩
    · rintro i d acc m hd ⟨qs, c2, rfl, rfl, w2, hqs⟩ hl p2 hp2
      have hi : i < 2 := by
        have := (List.getElem?_eq_some_iff.mp hd).1
        rw [rngD_len] at this; exact this
      have hpp : p ≠ p2 := mu_ne up_same hp2
      refine ⟨?_, true, fun X' S' => ?_, fun X' S' => ⟨rfl, rfl⟩, ?_⟩
      rotate_left
      · walk_at "g"
      · rw [if_pos rfl]
        intro X' S'
        walk_at "g"
        refine ⟨p, 900000 - 20 * (i + 1), c2, pl, ms, r0, r1, rfl, by rw [up_ne hpp]; exact up_same, w2.weak (by omega), mok, gok, fun qq c3 aok qok w3 => ?_⟩
        walk_at "g"
        refine ⟨qq, rfl, qok, ?_⟩
        refine ⟨up m' p c3, by rw [up_comm (Ne.symm hpp), up_up], by rw [up_ne (Ne.symm hpp)]; rw [up_ne (Ne.symm hpp)] at hp2; exact hp2, qs ++ [qq], c3, by rw [List.map_append]; rfl, rfl, w3, fun q hq => ?_⟩
        rcases List.mem_append.mp hq with e | e
        · exact hqs q e
        · have : q = qq := by simpa using e
          subst this; exact aok
    · rintro acc m ⟨qs, c2, rfl, rfl, w2, hqs⟩ hl
      rw [rngD_len] at w2
      rw [List.length_map, rngD_len] at hl
      walk_at "g"
      refine ⟨pl, ms, r0, r1, 0, rfl, gok, by decide, fun R0 nd0 F0 => ?_⟩
      walk_at "g"
      refine ws_for (by assumption) ?_
      walk_at "g"
      refine ⟨fun i ρ' m => ∃ (R : List Spot) (c3 : MC) (a7 a8 a9 : Option D), ρ' = [some (.frl (ns.map .int)), some (.int cc), some (.ptr p), some (gD pl r0 r1), some (gameD g pl r0 r1), some (.lst (qs.map (askD g))), some (.lst (R.map spotD)), a7, a8, a9, none] ∧ m = up m' p c3 ∧ Well (800000 - 100 * i) c3 ∧ R.Nodup ∧ Found pl r0 r1 i R, ⟨R0, c2, _, _, _, rfl, rfl, w2.weak (by decide), nd0, F0⟩, ?_, ?_⟩
      · rintro i d ρ' m hd ⟨R, c3, a7, a8, a9, rfl, rfl, w3, nd, F⟩
        have hi : i < 4 := by
          have := (List.getElem?_eq_some_iff.mp hd).1
          rw [rngD_len] at this; exact this
        have hdi : d = .int ((i : Nat) : Int) := by
          have e := rngD_get (lo := 0) (n := 4) hi
          have := Option.some.inj (hd.symm.trans e)
          rw [this, Int.zero_add]
        subst hdi
        have hRl := found_len gok.ok gok.k0 gok.k1 gok.z0 gok.z1 (by omega) nd F.come
        walk_at "g"
        refine ⟨pl, ms, r0, r1, i + 1, rfl, gok, by omega, fun R' nd' F' => ?_⟩
        have hRl' := found_len gok.ok gok.k0 gok.k1 gok.z0 gok.z1 (by omega) nd' F'.come
        walk_at "g"
        refine ws_ifc (fun t m => t = false ∧ ∃ c4, m = up m' p c4 ∧ Well (800000 - 100 * (i + 1)) c4) ?_ (fun _ h => by cases h.1) ?_
        · walk_at "g"
          refine ⟨p, 800000 - 100 * (i + 1), c3, pl, ms, r0, r1, i, rfl, up_same, w3.weak (by omega), gok, by omega, fun c4 w4 => ?_⟩
          rw [up_up]
          exact ⟨true, rfl, rfl, c4, rfl, w4⟩
        rintro _ ⟨_, c4, rfl, w4⟩
        walk_at "g"
        refine ws_join (fun ρ' m => ∃ a9, ρ' = [some (.frl (ns.map .int)), some (.int cc), some (.ptr p), some (gD pl r0 r1), some (gameD g pl r0 r1), some (.lst (qs.map (askD g))), some (.lst (R.map spotD)), some (.int ((i : Nat) : Int)), some (.lst (R'.map spotD)), a9, none] ∧ m = up m' p c4) ?_ ?_
        · refine ws_ifc (fun t m => t = true ∧ m = up m' p c4) ?_ ?_ (fun _ h => by cases h.1)
          · walk_at "g"
            rw [if_pos (by rfl)]
            walk_at "g"
            exact ⟨rfl, rfl⟩
          rintro _ ⟨_, rfl⟩
          walk_at "g"
          refine ws_ifc (fun t m => t = false ∧ m = up m' p c4) ?_ (fun _ h => by cases h.1) ?_
          · walk_at "g"
            refine ⟨R, R', rfl, by omega, by omega, nd', fun s hs => (reach_spot gok (by omega) F hs).l, fun s hs => ins_found F' (F.come s hs), ?_⟩
            exact ⟨true, rfl, rfl, rfl⟩
          rintro _ ⟨_, rfl⟩
          walk_at "g"
          refine ws_for (by assumption) ?_
          refine wi_lst (by assumption) ?_
          walk_at "g"
          refine ⟨fun jj ρ' m => ∃ a9, ρ' = [some (.frl (ns.map .int)), some (.int cc), some (.ptr p), some (gD pl r0 r1), some (gameD g pl r0 r1), some (.lst (qs.map (askD g))), some (.lst (R.map spotD)), some (.int ((i : Nat) : Int)), some (.lst (R'.map spotD)), a9, none] ∧ m = up m' p c4, ⟨_, rfl, rfl⟩, ?_, ?_⟩
          · rintro jj d ρ' m hd ⟨a9, rfl, rfl⟩
            rw [List.getElem?_map] at hd
            cases ht : qs[jj]? with
            | none => rw [ht] at hd; cases hd
            | some qq =>
              rw [ht] at hd
              cases hd
              have aok := hqs qq (List.mem_of_getElem? ht)
              walk_at "g"
              refine ws_ifc (fun t m => t = false ∧ m = up m' p c4) ?_ (fun _ h => by cases h.1) ?_
              · walk_at "g"
                refine ⟨pl, ms, r0, r1, qq, R, rfl, gok, aok, by omega, fun s hs => reach_spot gok (by omega) F hs, ?_⟩
                walk_at "g"
                by_cases hpos : 0 < (R.filter (metM qq pl r0 r1)).length
                · rw [decide_eq_true (show (((R.filter (metM qq pl r0 r1)).length : Nat) : Int) > 0 by omega)]
                  rw [if_pos rfl]
                  walk_at "g"
                  refine ⟨pl, ms, r0, r1, qq, R', rfl, gok, aok, by omega, fun s hs => reach_spot gok (by omega) F' hs, ?_⟩
                  walk_at "g"
                  have := met_more F F' hpos
                  exact ⟨decide_eq_false (by omega), rfl⟩
                · rw [decide_eq_false (show ¬ (((R.filter (metM qq pl r0 r1)).length : Nat) : Int) > 0 by omega)]
                  rw [if_neg (by exact Bool.false_ne_true)]
                  exact ⟨rfl, rfl⟩
              rintro _ ⟨_, rfl⟩
              walk_at "g"
              exact ⟨_, rfl, rfl⟩
          · rintro ρ' m ⟨a9, rfl, rfl⟩
            exact ⟨_, rfl, rfl⟩
        rintro _ _ ⟨a9, rfl, rfl⟩
        walk_at "g"
        exact ⟨R', c4, _, _, _, rfl, rfl, w4, nd', F'⟩
      · rintro ρ' m ⟨R, c3, a7, a8, a9, rfl, rfl, w3, nd, F⟩
        exact .inr ⟨Nat.succ_pos _, p, c3, hp, rfl⟩
  · rintro ρ' m' hI
    rcases hI with ⟨h, _⟩ | ⟨_, p, c, hp, rfl⟩
    · cases h
    refine wb_drop p ?_
    rw [dl_up hp]
    walk_at "g"
    exact q
end
set_option maxHeartbeats 4000000
section
open PySem PySem.Spec L2
theorem MkG.mono {g : Gb} {j k : Nat} {x : Str} {C : Addr} {asp : ASp} (F : MkG g j x C asp) (h : j ≤ k) : MkG g k x C asp := let ⟨f, fd, ps, a, r⟩ := F.ex; ⟨f, fd, ps, FnOk.mono a h, r⟩
theorem ClG.mono {g : Gb} {j k : Nat} {x m : Str} {asp : ASp} (F : ClG g j x m asp) (h : j ≤ k) : ClG g k x m asp := let ⟨f, fd, ps, a, r⟩ := F.ex; ⟨f, fd, ps, FnOk.mono a h, r⟩
theorem ok_law_cell_at {g : Gb} {k : Nat} (Z : Fx g)  : FnG g (k + 1) "_law_cell_at" spCellAt :=
  Z.fn 59 33 rfl rfl rfl rfl (fun _ _ _ _ _ _ us hl => match us, hl with | [_, _], _ => rfl) (wk_law_cell_at Z)
theorem ok_law_plan {g : Gb} {k : Nat} (Z : Fx g) {j : Nat} (hj : j ≤ k) (Fd : FnG g j "_law_draw" spDraw) (Fw : FnG g j "_law_word" spWord) : FnG g (k + 1) "_law_plan" spPlan :=
  Z.fn 64 38 rfl rfl rfl rfl (fun _ _ _ _ _ _ us hl => match us, hl with | [_, _], _ => rfl) (wk_law_plan Z hj Fd Fw)
theorem ok_law_made {g : Gb} {k : Nat} (Z : Fx g) (n : Nat) {j : Nat} (hj : j + 1 ≤ k) (Fb : FnG g j "_law_built" (spBuilt g n)) (Fp : MkG g j "Program" (cl g "Program") (spProgInit g)) : FnG g (k + 1) "_law_made" (spMade g n) :=
  Z.fn 70 44 rfl rfl rfl rfl (fun _ _ _ _ _ _ us hl => match us, hl with | [_], _ => rfl) (wk_law_made Z n hj Fb Fp)
theorem ok_law_built {g : Gb} {k : Nat} (Z : Fx g) (n : Nat) {j : Nat} (hj : j + 1 ≤ k) (Fq : FnG g j "_law_parts" spParts) (Fm : FnG g j "_law_made" (spMade g (n - 1))) (Mw : MkG g j "Write" (cl g "Write") (spOnCell (cl g "Write"))) (Mi : MkG g j "Wait" (cl g "Wait") (spOnCell (cl g "Wait"))) (Mm : MkG g j "Mark" (cl g "Mark") (spMarkI g)) (Mf : MkG g j "If" (cl g "If") (spIfI g)) (Ml : MkG g j "While" (cl g "While") (spWhileI g)) (Mc : MkG g j "Choose" (cl g "Choose") (spChooseI g)) (Mo : MkG g j "Loop" (cl g "Loop") (spLoopI g)) : FnG g (k + 1) "_law_built" (spBuilt g n) :=
  Z.fn 69 43 rfl rfl rfl rfl (fun _ _ _ _ _ _ us hl => match us, hl with | [_], _ => rfl) (wk_law_built Z n hj Fq Fm Mw Mi Mm Mf Ml Mc Mo)
theorem ok_Machine_number_row {g : Gb} {k : Nat} (Z : Fx g) (n : Nat) {j : Nat} (hj : j ≤ k) (Fp : ∀ s, MeG g j (cl g (nameOf s)) "parts" (spPartsN g (nameOf s))) (Fn : MeG g j (cl g "Machine") "number_row" (spNum g n)) : MeG g (k + 1) (cl g "Machine") "number_row" (spNum g (n + 1)) :=
  Z.me 21 145 139 rfl rfl rfl rfl rfl rfl (fun _ _ _ _ _ _ us hl => match us, hl with | [_, _], _ => rfl) (wk_Machine_number_row Z n hj Fp Fn)
theorem z_law_statement {g : Gb} {k : Nat} (Z : Fx g) : FnG g (k + 1) "_law_statement" (fun _ _ _ => False) :=
  Z.fn 67 41 rfl rfl rfl rfl (fun _ _ _ _ _ _ us hl => match us, hl with | [_, _, _, _], _ => rfl) (ps := ["_law_well_here", "_law_plan_here", "_law_marks_here", "_law_size"]) (N := N_law_statement) (vis := V_law_statement) (loc := V_law_statement) (gl := G_law_statement) ⟨⟨rfl, rfl, rfl, by decide +kernel, rfl, by decide +kernel, by decide +kernel⟩, by decide +kernel, fun _ _ _ h => h.elim, fun _ _ _ _ _ h => h.elim⟩
theorem z_law_built {g : Gb} {k : Nat} (Z : Fx g) : FnG g (k + 1) "_law_built" (fun _ _ _ => False) :=
  Z.fn 69 43 rfl rfl rfl rfl (fun _ _ _ _ _ _ us hl => match us, hl with | [_], _ => rfl) (ps := ["_law_one"]) (N := N_law_built) (vis := V_law_built) (loc := V_law_built) (gl := G_law_built) ⟨⟨rfl, rfl, rfl, by decide +kernel, rfl, by decide +kernel, by decide +kernel⟩, by decide +kernel, fun _ _ _ h => h.elim, fun _ _ _ _ _ h => h.elim⟩
section
variable {g : Gb}
theorem rows_all (Z : Fx g) : ∀ n, FnG g (24 + 2 * n) "_law_statement" (spStmt n) ∧ FnG g (25 + 2 * n) "_law_row" (spRow n)
  | 0 => by
    have h0 : FnG g 24 "_law_statement" (spStmt 0) := (z_law_statement (k := 23) Z).imp fun ds μ P ⟨p, b, c, pl, ms, size, _, _, _, _, _, h1, h2, _⟩ => by omega
    exact ⟨h0, ok_law_row (k := 24) Z 0 (j := 24) (Nat.le_refl _) ((len_all Z 20 0 (by omega)).mono (by omega)) h0⟩
  | n + 1 => by
    have ih := (rows_all Z n).2
    have h1 : FnG g (24 + 2 * (n + 1)) "_law_statement" (spStmt (n + 1)) := (ok_law_statement (k := 25 + 2 * n) Z (n + 1) (j := 25 + 2 * n) (Nat.le_refl _) ((ok_law_draw (k := 0) Z).mono (by omega)) ((ok_law_of (k := 0) Z (j := 1) (by omega) (ok_law_draw (k := 0) Z)).mono (by omega)) ih).mono (by omega)
    exact ⟨h1, (ok_law_row (k := 24 + 2 * (n + 1)) Z (n + 1) (j := 24 + 2 * (n + 1)) (Nat.le_refl _) ((len_all Z 20 0 (by omega)).mono (by omega)) h1).mono (by omega)⟩
theorem lv_names (Z : Fx g) : FnG g 2 "asked_names" spAskedNames := ok_asked_names (k := 1) Z (j := 1) (Nat.le_refl _) (ok_is_name (k := 0) Z)
theorem lv_prog (Z : Fx g) : MkG g 46 "Program" (cl g "Program") (spProgInit g) := by
  have hs : MeG g 45 (cl g "Program") "size" (spSizeQ g) := ok_Program_size_q (k := 44) Z (j := 44) (Nat.le_refl _) (size_all Z 20 0).1
  have hd : MeG g 26 (cl g "Program") "deep" (spDeepQ g) := ok_Program_deep_q (k := 25) Z (j := 25) (Nat.le_refl _) (fun s => (parts_all (k := 0) Z s).mono (by omega)) (deep_all Z 21 0)
  exact ok_Program_mk (k := 45) Z (j := 45) (Nat.le_refl _) hs (hd.mono (by omega)) ((ok_asked_size (k := 0) Z).mono (by omega))
theorem built_all (Z : Fx g) : ∀ n, FnG g (50 + 4 * n) "_law_built" (spBuilt g n) ∧ FnG g (52 + 4 * n) "_law_made" (spMade g n)
  | 0 => by
    have h0 : FnG g 50 "_law_built" (spBuilt g 0) := (z_law_built (k := 49) Z).imp fun ds μ P ⟨s, pl, ms, _, _, _, _, h, _⟩ => by have := sz_pos s; omega
    exact ⟨h0, ok_law_made (k := 51) Z 0 (j := 50) (by omega) h0 ((lv_prog Z).mono (by omega))⟩
  | n + 1 => by
    have ih := (built_all Z n).2
    have hn := lv_names Z
    have h1 : FnG g (50 + 4 * (n + 1)) "_law_built" (spBuilt g (n + 1)) := (ok_law_built (k := 53 + 4 * n) Z (n + 1) (j := 52 + 4 * n) (by omega) ((ok_law_parts (k := 0) Z).mono (by omega)) ih
      ((ok_Write_mk (k := 2) Z (j := 2) (by omega) hn).mono (by omega)) ((ok_Wait_mk (k := 2) Z (j := 2) (by omega) hn).mono (by omega)) ((ok_Mark_mk (k := 2) Z (j := 2) (by omega) hn).mono (by omega))
      ((ok_If_mk (k := 3) Z (j := 3) (by omega) (ok_OnCell_init_cls (k := 2) Z _ (Z.cls 108) (Z.na 110) (Z.na 111) (j := 2) (by omega) hn)).mono (by omega))
      ((ok_While_mk (k := 3) Z (j := 3) (by omega) (ok_OnCell_init_cls (k := 2) Z _ (Z.cls 116) (Z.na 118) (Z.na 119) (j := 2) (by omega) hn)).mono (by omega))
      ((ok_Choose_mk (k := 0) Z).mono (by omega)) ((ok_Loop_mk (k := 0) Z).mono (by omega))).mono (by omega)
    exact ⟨h1, (ok_law_made (k := 51 + 4 * (n + 1)) Z (n + 1) (j := 50 + 4 * (n + 1)) (by omega) h1 ((lv_prog Z).mono (by omega))).mono (by omega)⟩
theorem num_all (Z : Fx g) : ∀ n, MeG g (1 + n) (cl g "Machine") "number_row" (spNum g n)
  | 0 => ((z_Machine_number_row (k := 0) Z).imp fun ds μ P ⟨r, a, x, y, pp, acc, _, h, _⟩ => absurd h (Nat.not_lt_zero _))
  | n + 1 => (ok_Machine_number_row (k := 1 + n) Z n (j := 1 + n) (Nat.le_refl _) (fun s => (parts_all (k := 0) Z s).mono (by omega)) (num_all Z n)).mono (by omega)
theorem lv_values (Z : Fx g) : MeG g 1 (cl g "Board") "values_of" (spValues g) := ok_Board_values_of (k := 0) Z
theorem lv_basked (Z : Fx g) : MeG g 2 (cl g "Board") "asked" (spAsked g) := ok_Board_asked (k := 1) Z (j := 1) (by omega) (lv_values Z)
theorem lv_stepsof (Z : Fx g) : MeG g 4 (cl g "Machine") "steps_of" (spSteps g) :=
  ok_Machine_steps_of (k := 3) Z 108 63 rfl rfl (j := 3) (by omega) (ok_looks (k := 2) Z (j := 2) (by omega) (ok_Board_others (k := 1) Z (j := 1) (by omega) (lv_values Z)))
theorem lay_all (Z : Fx g) : ∀ n, MeG g (45 + 2 * n) (cl g "Machine") "lay" (spLay g n) ∧ MeG g (46 + 2 * n) (cl g "Machine") "lay_row" (spLayRow g n)
  | 0 => by
    have h0 : MeG g 45 (cl g "Machine") "lay" (spLay g 0) := (z_Machine_lay (k := 44) Z).imp fun ds μ P ⟨a, s, at_, goal, pl, ms, x, y, ex, E, _, _, _, _, _, h, _⟩ => by have := sz_pos s; omega
    exact ⟨h0, ok_Machine_lay_row (k := 45) Z 0 (j := 45) (Nat.le_refl _) (fun s => ((size_all Z 20 0).1 s).mono (by omega)) h0⟩
  | n + 1 => by
    have ih := (lay_all Z n).2
    have h1 : MeG g (45 + 2 * (n + 1)) (cl g "Machine") "lay" (spLay g (n + 1)) := (ok_Machine_lay (k := 46 + 2 * n) Z (n + 1) (j := 46 + 2 * n) (Nat.le_refl _) (fun s => (parts_all (k := 0) Z s).mono (by omega)) ((ok_Machine_begin_of (k := 0) Z).mono (by omega)) ih (((size_all Z 20 0).2).mono (by omega)) ((lv_stepsof Z).mono (by omega))).mono (by omega)
    exact ⟨h1, (ok_Machine_lay_row (k := 45 + 2 * (n + 1)) Z (n + 1) (j := 45 + 2 * (n + 1)) (Nat.le_refl _) (fun s => ((size_all Z 20 0).1 s).mono (by omega)) h1).mono (by omega)⟩
theorem lv_game (Z : Fx g) : MkG g 59 "Game" (cl g "Game") (spGameI g) :=
  ok_Game_mk (k := 58) Z (j := 57) (by omega) (ok_Machine_mk (k := 56) Z (j := 56) (by omega) ((num_all Z 6).mono (by omega)) (lay_all Z 5).2 ((lv_basked Z).mono (by omega)))
theorem lv_lay (Z : Fx g) : ∀ n, FnG g (24 + n) "_law_lay" (spLawLay n)
  | 0 => ok_law_lay (k := 23) Z 0 (j := 23) (by omega) (len_all Z 21 0 (by omega)) ((ok_law_parts (k := 0) Z).mono (by omega)) ((z_law_lay (k := 22) Z).imp fun ds μ P ⟨h, _⟩ => absurd h (by omega)) ((ok_law_exits (k := 0) Z).mono (by omega))
  | n + 1 => (ok_law_lay (k := 24 + n) Z (n + 1) (j := 24 + n) (by omega) ((len_all Z 21 0 (by omega)).mono (by omega)) ((ok_law_parts (k := 0) Z).mono (by omega)) ((lv_lay Z n).imp fun ds μ P ⟨_, h⟩ => h) ((ok_law_exits (k := 0) Z).mono (by omega))).mono (by omega)
theorem lv_draw (Z : Fx g) : FnG g 1 "_law_draw" spDraw := ok_law_draw (k := 0) Z
theorem lv_of (Z : Fx g) : FnG g 2 "_law_of" spOf := ok_law_of (k := 0) Z (j := 1) (by omega) (lv_draw Z)
theorem lv_word (Z : Fx g) : FnG g 3 "_law_word" spWord := ok_law_word (k := 1) Z (j := 2) (by omega) ((lv_draw Z).mono (by omega)) (lv_of Z)
theorem lv_plan (Z : Fx g) : FnG g 4 "_law_plan" spPlan := ok_law_plan (k := 3) Z (j := 3) (by omega) ((lv_draw Z).mono (by omega)) (lv_word Z)
theorem lv_world (Z : Fx g) : FnG g 31 "_law_world" spWorld := ok_law_world (k := 30) Z (j := 30) (by omega) (ok_law_rooms (k := 29) Z (j := 29) (by omega) ((len_all Z 21 0 (by omega)).mono (by omega)) (lv_lay Z 5))
theorem lv_drawn (Z : Fx g) : FnG g 32 "_law_drawn" spDrawn := ok_law_drawn (k := 31) Z (j := 31) (by omega) ((lv_plan Z).mono (by omega)) ((lv_word Z).mono (by omega)) (rows_all Z 3).2 ((lv_draw Z).mono (by omega)) (lv_world Z)
theorem lv_board (Z : Fx g) : MkG g 4 "Board" (cl g "Board") (spBoardI g) := ok_Board_mk (k := 3) Z (j := 3) (by omega) (ok_asked_cells (k := 2) Z (j := 2) (by omega) (lv_names Z) ((ok_asked_once (k := 0) Z).mono (by omega)))
theorem lv_own (Z : Fx g) : FnG g 74 "_law_own" (spOwn g) := ok_law_own (k := 73) Z (j := 72) (by omega) (built_all Z 5).2 ((lv_board Z).mono (by omega)) ((lv_game Z).mono (by omega))
theorem lv_steps (Z : Fx g) : MeG g 2 (cl g "Machine") "steps" (spSteps1 g) := ok_Machine_steps (k := 1) Z (j := 1) (by omega) (ok_Machine_asked (k := 0) Z)
theorem lv_markof (Z : Fx g) : MeG g 2 (cl g "Machine") "mark_of" (spMarkOf g) := ok_Machine_mark_of (k := 1) Z (j := 1) (by omega) (ok_Machine_asked (k := 0) Z)
theorem lv_begin (Z : Fx g) : MeG g 2 (cl g "Game") "begin" (spBegin g) := ok_Game_begin (k := 1) Z (j := 1) (by omega) (ok_asked_many (k := 0) Z) (ok_Board_first (k := 0) Z)
theorem lv_open (Z : Fx g) : MeG g 3 (cl g "Game") "open_steps" (spOpen g) := ok_Game_open_steps (k := 2) Z (j := 2) (by omega) (lv_steps Z) ((ok_Board_behind (k := 0) Z).mono (by omega))
theorem lv_moved (Z : Fx g) : MeG g 4 (cl g "Game") "moved" (spMoved g) := ok_Game_moved (k := 3) Z (j := 3) (by omega) (ok_step_of (k := 2) Z (j := 2) (by omega) (lv_steps Z)) ((ok_state_behind (k := 1) Z (j := 1) (by omega) (ok_Board_behind (k := 0) Z)).mono (by omega))
theorem lv_played (Z : Fx g) : MeG g 5 (cl g "Game") "played" (spPlayed g) := ok_Game_played (k := 4) Z (j := 4) (by omega) ((lv_begin Z).mono (by omega)) (lv_moved Z)
theorem lv_moves (Z : Fx g) : MeG g 4 (cl g "Game") "moves" (spMoves g) := ok_Game_moves (k := 3) Z (j := 3) (by omega) (lv_open Z)
theorem lv_met (Z : Fx g) : FnG g 4 "met" (spMet g) := by
  have hm : MeG g 2 (cl g "Game") "machine" (spGMach g) := (ok_Game_machine (k := 0) Z).mono (by omega)
  have hb : MeG g 2 (cl g "Game") "board" (spGBoard g) := (ok_Game_board (k := 0) Z).mono (by omega)
  refine ok_met (k := 3) Z (j := 3) (by omega) ?_ ?_ ?_ ?_
  · exact ok_asked_of (k := 2) Z (j := 2) (by omega) hm ((ok_Machine_marks (k := 0) Z).mono (by omega)) hb (lv_basked Z)
  · exact ok_is_led (k := 2) Z (j := 2) (by omega) hm (lv_markof Z)
  · exact (ok_is_held (k := 2) Z (j := 2) (by omega) hb ((ok_Board_value_at (k := 0) Z).mono (by omega)))
  · exact ok_marks_at (k := 2) Z (j := 2) (by omega) hm (lv_markof Z)
theorem lv_quest (Z : Fx g) : MkG g 3 "Question" (cl g "Question") (spQI g) := ok_Question_mk (k := 2) Z (j := 2) (by omega) (lv_names Z) ((ok_asked_once (k := 0) Z).mono (by omega))
theorem lv_tally (Z : Fx g) : MkG g 6 "Tally" (cl g "Tally") (spTallyI g) := ok_Tally_mk (k := 5) Z 0 (j := 5) (by omega) ((ok_asked_many (k := 0) Z).mono (by omega)) ((lv_begin Z).mono (by omega)) (fun n => ok_Tally_go_on (k := 4) Z n (j := 4) (by omega) (lv_moves Z) (lv_moved Z) ((ok_in_order (k := 0) Z).mono (by omega)))
theorem lv_stand (Z : Fx g) : FnG g 8 "standings" (spStandings g) := ok_standings (k := 7) Z (j := 6) (by omega) (lv_tally Z)
theorem lv_nexts (Z : Fx g) : FnG g 3 "_law_nexts" spNexts := ok_law_nexts (k := 2) Z (j := 2) (by omega) (ok_law_open (k := 1) Z (j := 1) (by omega) (ok_law_behind (k := 0) Z))
theorem lv_asked (Z : Fx g) : FnG g 3 "_law_asked" spAskedL := ok_law_asked (k := 2) Z (j := 2) (by omega) ((ok_law_marks (k := 0) Z).mono (by omega)) ((lv_draw Z).mono (by omega)) (lv_of Z)
theorem lv_put (Z : Fx g) : FnG g 5 "_law_put_as" (spPutAs g) := ok_law_put_as (k := 4) Z (j := 3) (by omega) (lv_quest Z)
theorem lv_idle (Z : Fx g) : FnG g 6 "_law_idle" (spIdle g) := ok_law_idle (k := 5) Z (j := 5) (by omega) ((lv_begin Z).mono (by omega)) ((lv_draw Z).mono (by omega)) ((lv_nexts Z).mono (by omega)) ((lv_of Z).mono (by omega)) (lv_played Z)
/-- the law's own function, at one room for all it calls -/
theorem law_wlk (Z : Fx g) : Wlk g 74 d_law N_law ["_law_script"] V_law V_law G_law spLaw :=
  wk_law (k := 74) Z (j := 74) (Nat.le_refl _) ((ok_law_cell_at (k := 0) Z).mono (by omega)) ((ok_law_well (k := 0) Z).mono (by omega)) ((lv_drawn Z).mono (by omega)) (lv_own Z) ((lv_put Z).mono (by omega)) ((lv_asked Z).mono (by omega))
    ((ok_law_all (k := 8) Z (j := 8) (by omega) (lv_stand Z)).mono (by omega)) ((lv_idle Z).mono (by omega)) ((ok_law_within (k := 0) Z).mono (by omega)) ((ok_law_met_count (k := 4) Z (j := 4) (by omega) (lv_met Z)).mono (by omega))
end
end
end Mb
set_option maxHeartbeats 0
namespace Mb
open PySem PySem.Spec PyProof.Rows L2
def hk : PySem.W.Hook where
  α := Al
  obs := fun s => obsK (He.frG s.heap.get? asx)
  val := fun _ => (true, He.valD fn)
  says := fun _ h => ∃ K : PySem.W.Frag, K.In h ∧ obsK K = (true, He.valD fn)
  of := fun _ _ e => ⟨_, He.frG_in, e⟩
  keeps := fun _ _ _ ⟨K, hK, c⟩ k => ⟨K, PySem.W.Frag.In.keeps hK k, c⟩
def hob (s : PySem.W.SharedT) : Al := obsK (He.frG (HandSHeadRun.getT s) asx)
theorem hob_eq (s : PySem.W.SharedT) : hob s = hk.obs s.abs := by
  have e : HandSHeadRun.getT s = s.abs.heap.get? := funext (HandSHeadRun.getT_eq s)
  show obsK (He.frG (HandSHeadRun.getT s) asx) = obsK (He.frG s.abs.heap.get? asx)
  rw [e]
theorem pair3 {α β γ : Type} {a a' : α} {b b' : β} {c c' : γ} (h : (a, b) = (a', b')) (k : c = c') : (a, b, c) = (a', b', c') := by
  cases h; cases k; rfl
theorem both {α β γ δ : Type} {o : Option δ} {f : δ → α} {f2 : δ → β} {g : δ → γ} {a : α} {b : β} {c : γ} (h1 : o.map (fun s => (f s, f2 s)) = some (a, b)) (h2 : o.map g = some c) : o.map (fun s => (f s, f2 s, g s)) = some (a, b, c) := by
  cases o with
  | none => cases h1
  | some s => exact congrArg some (pair3 (Option.some.inj h1) (Option.some.inj h2))
theorem run_all (w : World) : HandSHeadRun.RunEq R qv hk hob 12000 loose w := fun os => both (run_looks w os) (run_facts w os)
/-- the law at a base -/
theorem law_at {P : Program} {w : World} {K : PySem.W.Frag} {mg : Str → Option Value} {h : Heap} {fa : Addr} (X : K.In h) (G : h.Ns mainGlobals mg) (hfa : mg ("law" : Str) = some (.ref fa)) (c : obsK K = (true, He.valD fn)) :
    ∃ (fd : FuncData) (sp : Sp), (∀ (s : Shared) (u : Value), BindsTo s fd ⟨[u], []⟩ [("_law_script", u)]) ∧
      (∀ (H : Hp) (a : Addr) (ns : List Int), Only H → SqL K H a (ns.map V.int) → sp [.ref a] H (fun v _ => v = .bl true) fun _ _ _ => False) ∧
      ∀ base : Heap, K.In base → base.Ns mainGlobals mg → FnOk P w K mg base CX0 75 fa fd ["_law_script"] sp := by
  have ce : (exs.all fun f => f K) = true := congrArg Prod.fst c
  have cs : He.SaysD Mb.fa fn K := congrArg Prod.snd c
  have hd : Mb.fn[87]? = some d_law := rfl
  obtain ⟨fd, F⟩ := cs.def_ 87 hd
  have b := FunD.bindsA (ps := ["_law_script"]) F fun _ _ _ _ _ _ us hl => match us, hl with | [_], _ => rfl
  refine ⟨fd, toSp ⟨P, w, K, mg, h⟩ spLaw, fun s u => b s [u] rfl, fun H a ns hO hS => ?_, fun base X' G' => ?_⟩
  · refine ⟨[.frl (ns.map .int)], fun _ => none, fun d _ => d = .bl true, ⟨.ref a, [], rfl, ⟨a, ns.map V.int, rfl, ?_, ?_⟩, rfl⟩, (fun _ _ e => by cases e), ⟨ns, rfl, rfl⟩, ?_⟩
    · rcases hS with hS | hS
      · exact .inl ⟨hS, rfl⟩
      · exact .inr hS
    · clear hS
      induction ns with
      | nil => exact (rfl : ([] : List V) = [])
      | cons i r ih => exact ⟨.int i, r.map V.int, rfl, rfl, ih⟩
    · rintro v H' ⟨d, μ', _, _, r, rfl⟩
      exact r
  · have Z : Fx ⟨P, w, K, mg, base⟩ := ⟨cs, ce, base, X', G'⟩
    have wl := law_wlk Z
    have A := fnA_of F wl.sc wl.hs wl.len wl.run
    have e : He.fAd K d_law.at_ = fa := by
      have e1 := Z.glo (x := "law") 61
      have e2 : He.fAd K d_law.at_ = He.ga K "law" := rfl
      rw [e2]
      have e3 := hfa.symm.trans e1
      cases e3
      rfl
    rw [e] at A
    exact A
end Mb
open PySem PySem.W PySem.Calls PyProof.Rows
theorem PySem.Challenge.cw_manyboard_k66_whole_more_never_do_less_holds : PySem.Challenge.rw_manyboard_k66_whole_more_never_do_less.Holds := by
  w_on; o_law
  refine HandSHeadRun.head_any (r := OpenLaw.row PySem.Challenge.rw_manyboard_k66_whole_more_never_do_less) (q := Mb.qv) (H := Mb.hk) (ob := Mb.hob) (M := 12000) (loose := Mb.loose) (d := HandSHeadRun.topDef (OpenLaw.row PySem.Challenge.rw_manyboard_k66_whole_more_never_do_less).prog 100) (kwd := []) Mb.hob_eq
    (by kernel_rfl) (fun s => by kernel_rfl) Mb.run_all (by kernel_rfl) (by kernel_rfl) (by kernel_rfl) (by rfl) (by first | assumption | decide +kernel) (by decide +kernel) ⟨rfl, rfl, rfl, rfl, rfl, by decide +kernel⟩ ?hw ?hc
  case hw => w_witness2
  case hc =>
    refine L2.walk_ofE (l := PySem.Challenge.rw_manyboard_k66_whole_more_never_do_less) (n := 63) (k := 75) (x := "_law_script") (CX := L2.CX0) rfl (by decide) (by kernel_rfl) ⟨rfl, by decide, by decide⟩ ?F (fun _ _ _ _ z => z)
    intro w mg fa h Y G hmg0
    obtain ⟨K, KX, c⟩ := Y
    have hmg : mg ("law" : PySem.Str) = some (.ref fa) := by
      have e : (HandSHeadRun.topDef (OpenLaw.row PySem.Challenge.rw_manyboard_k66_whole_more_never_do_less).prog 100).name = ("law" : PySem.Str) := by kernel_rfl
      rw [← e]
      exact hmg0
    obtain ⟨fd, sp, hb, hs, hF⟩ := Mb.law_at (P := (PySem.Challenge.rw_manyboard_k66_whole_more_never_do_less).prog) (w := w) KX G hmg c
    exact ⟨K, fd, sp, KX, hb, fun H a ns _ hO hS => hs H a ns hO hS, hF⟩
