import PyProof.Rows.All
import Wide.All
import OpenK.AllK
import Wide.FinOn
import KE.KStateDown
import Lean
import HandS.ForMost
import HandS.Exc
import HandS.More
import HandS.Defaults
import HandS.IsInst
import HandS.Head0
import HandS.Head1
import HandS.Head2
import HandS.HeadEnd
import HandS.HeadHook1
import HandS.HeadHook2
import HandS.Zip
import HandS.Deep
import HandS.TupAny
import HandS.TupMul
import HandS.Conv
import HandS.Style
import PyProof.InstNe
import KE.GoesEnum
import HandS.Dict
import KE.KDictKeyed
import KE.KDictLaw
import KE.KDictZip
import HandS.ListItems
import HandS.SetFor
import KE.DataMinMax
import HandS.Steps
import PySem.Challenge.RW_lateststore_k95_whole_recoveries_rules_a
/-! LsHead -/
set_option Elab.async false
set_option linter.all false
set_option maxRecDepth 100000
set_option maxHeartbeats 0
namespace Ls
open PySem PySem.Spec PyProof.Rows L2
def topS (i : Nat) : Stmt := PySem.Challenge.pw_lateststore_k95_whole_recoveries_rules_a.main.body.getD i (.Pass ⟨0, 0, 0, 0⟩)
abbrev s_check_commands : Stmt := topS 21
abbrev s_stores : Stmt := topS 23
abbrev s_counted : Stmt := topS 25
abbrev s_made : Stmt := topS 26
abbrev s_boxes_of : Stmt := topS 29
abbrev s_boxes : Stmt := topS 30
abbrev s_check_image : Stmt := topS 31
abbrev s_count : Stmt := topS 32
abbrev s_image_at : Stmt := topS 33
abbrev s_place_of : Stmt := topS 34
abbrev s_line_states : Stmt := topS 35
abbrev s_blank : Stmt := topS 36
abbrev s_states_of : Stmt := topS 37
abbrev s_words_of : Stmt := topS 38
abbrev s_contents : Stmt := topS 39
abbrev s_check_conditions : Stmt := topS 42
abbrev s_fitting : Stmt := topS 43
abbrev s_least_in : Stmt := topS 44
abbrev s_broken : Stmt := topS 45
abbrev s_check_words : Stmt := topS 54
abbrev s_written : Stmt := topS 55
abbrev s_recovered : Stmt := topS 56
abbrev s_settle : Stmt := topS 57
abbrev s_check : Stmt := topS 59
abbrev s__law_cell : Stmt := topS 61
abbrev s__law_rng : Stmt := topS 62
abbrev s__law_draw : Stmt := topS 63
abbrev s__law_pick : Stmt := topS 64
abbrev s__law_random_sizes : Stmt := topS 65
abbrev s__law_random_command : Stmt := topS 66
abbrev s__law_random_commands : Stmt := topS 67
abbrev s__law_command : Stmt := topS 68
abbrev s__law_program : Stmt := topS 69
abbrev s__law_words : Stmt := topS 70
abbrev s__law_random_conditions : Stmt := topS 71
abbrev s__law_wide_conditions : Stmt := topS 72
abbrev s__law_is : Stmt := topS 73
abbrev s__law_meets : Stmt := topS 74
abbrev s__law_random_moves : Stmt := topS 75
abbrev s__law_random_steps : Stmt := topS 76
abbrev s__law_recovery : Stmt := topS 77
abbrev s__law_done : Stmt := topS 78
abbrev s__law_all_words : Stmt := topS 79
abbrev s__law_idle_holds : Stmt := topS 80
abbrev s__law_cut_ends : Stmt := topS 81
abbrev s__law_failed_holds : Stmt := topS 82
abbrev s__law_good_holds : Stmt := topS 83
abbrev s__law_check_holds : Stmt := topS 84
abbrev s_law : Stmt := topS 85
abbrev s_Memory_init : Stmt := inClass (topS 16) 0
abbrev s_Memory_kind : Stmt := inClass (topS 16) 1
abbrev s_Memory_facts : Stmt := inClass (topS 16) 2
abbrev s_Memory_check_line : Stmt := inClass (topS 16) 3
abbrev s_Memory_check_word : Stmt := inClass (topS 16) 4
abbrev s_Memory_zeros : Stmt := inClass (topS 16) 5
abbrev s_Memory_eq : Stmt := inClass (topS 15) 2
abbrev s_Store_init : Stmt := inClass (topS 18) 0
abbrev s_Store_check : Stmt := inClass (topS 18) 3
abbrev s_Flush_init : Stmt := inClass (topS 19) 0
abbrev s_Flush_check : Stmt := inClass (topS 19) 3
abbrev s_Fence_check : Stmt := inClass (topS 17) 0
abbrev s_Program_init : Stmt := inClass (topS 22) 0
abbrev s_Counter_init : Stmt := inClass (topS 24) 0
abbrev s_Counter_do_command : Stmt := inClass (topS 24) 1
abbrev s_Box_init : Stmt := inClass (topS 28) 0
abbrev s_Box_size : Stmt := inClass (topS 28) 3
abbrev s_Box_contains : Stmt := inClass (topS 28) 4
abbrev s_Box_image_at : Stmt := inClass (topS 28) 5
abbrev s_Box_place_of : Stmt := inClass (topS 28) 6
abbrev s_Is_init : Stmt := inClass (topS 41) 0
abbrev s_Is_is_met : Stmt := inClass (topS 41) 3
abbrev s_Copy_init : Stmt := inClass (topS 50) 0
abbrev s_Copy_check : Stmt := inClass (topS 50) 3
abbrev s_Step_init : Stmt := inClass (topS 51) 0
abbrev s_Recovery_init : Stmt := inClass (topS 52) 0
abbrev s_Failed_init : Stmt := inClass (topS 53) 0
abbrev s_Checker_init : Stmt := inClass (topS 58) 0
abbrev s_Checker_fault : Stmt := inClass (topS 58) 1
abbrev s_Checker_looked_for : Stmt := inClass (topS 58) 2
def d_check_commands : He.DefD := ⟨("check_commands", none), "check_commands", "check_commands", defArgs s_check_commands, defBody s_check_commands, defScope s_check_commands, [], []⟩
def d_stores : He.DefD := ⟨("stores", none), "stores", "stores", defArgs s_stores, defBody s_stores, defScope s_stores, [], []⟩
def d_counted : He.DefD := ⟨("counted", none), "counted", "counted", defArgs s_counted, defBody s_counted, defScope s_counted, [], []⟩
def d_made : He.DefD := ⟨("made", none), "made", "made", defArgs s_made, defBody s_made, defScope s_made, [], []⟩
def d_boxes_of : He.DefD := ⟨("boxes_of", none), "boxes_of", "boxes_of", defArgs s_boxes_of, defBody s_boxes_of, defScope s_boxes_of, [], []⟩
def d_boxes : He.DefD := ⟨("boxes", none), "boxes", "boxes", defArgs s_boxes, defBody s_boxes, defScope s_boxes, [], []⟩
def d_check_image : He.DefD := ⟨("check_image", none), "check_image", "check_image", defArgs s_check_image, defBody s_check_image, defScope s_check_image, [], []⟩
def d_count : He.DefD := ⟨("count", none), "count", "count", defArgs s_count, defBody s_count, defScope s_count, [], []⟩
def d_image_at : He.DefD := ⟨("image_at", none), "image_at", "image_at", defArgs s_image_at, defBody s_image_at, defScope s_image_at, [], []⟩
def d_place_of : He.DefD := ⟨("place_of", none), "place_of", "place_of", defArgs s_place_of, defBody s_place_of, defScope s_place_of, [], []⟩
def d_line_states : He.DefD := ⟨("line_states", none), "line_states", "line_states", defArgs s_line_states, defBody s_line_states, defScope s_line_states, [], []⟩
def d_blank : He.DefD := ⟨("blank", none), "blank", "blank", defArgs s_blank, defBody s_blank, defScope s_blank, [], []⟩
def d_states_of : He.DefD := ⟨("states_of", none), "states_of", "states_of", defArgs s_states_of, defBody s_states_of, defScope s_states_of, [], []⟩
def d_words_of : He.DefD := ⟨("words_of", none), "words_of", "words_of", defArgs s_words_of, defBody s_words_of, defScope s_words_of, [], []⟩
def d_contents : He.DefD := ⟨("contents", none), "contents", "contents", defArgs s_contents, defBody s_contents, defScope s_contents, [], []⟩
def d_check_conditions : He.DefD := ⟨("check_conditions", none), "check_conditions", "check_conditions", defArgs s_check_conditions, defBody s_check_conditions, defScope s_check_conditions, [], []⟩
def d_fitting : He.DefD := ⟨("fitting", none), "fitting", "fitting", defArgs s_fitting, defBody s_fitting, defScope s_fitting, [], []⟩
def d_least_in : He.DefD := ⟨("least_in", none), "least_in", "least_in", defArgs s_least_in, defBody s_least_in, defScope s_least_in, [], []⟩
def d_broken : He.DefD := ⟨("broken", none), "broken", "broken", defArgs s_broken, defBody s_broken, defScope s_broken, [], []⟩
def d_check_words : He.DefD := ⟨("check_words", none), "check_words", "check_words", defArgs s_check_words, defBody s_check_words, defScope s_check_words, [], []⟩
def d_written : He.DefD := ⟨("written", none), "written", "written", defArgs s_written, defBody s_written, defScope s_written, [], []⟩
def d_recovered : He.DefD := ⟨("recovered", none), "recovered", "recovered", defArgs s_recovered, defBody s_recovered, defScope s_recovered, [], []⟩
def d_settle : He.DefD := ⟨("settle", none), "settle", "settle", defArgs s_settle, defBody s_settle, defScope s_settle, [], []⟩
def d_check : He.DefD := ⟨("check", none), "check", "check", defArgs s_check, defBody s_check, defScope s_check, [], []⟩
def d__law_cell : He.DefD := ⟨("_law_cell", none), "_law_cell", "_law_cell", defArgs s__law_cell, defBody s__law_cell, defScope s__law_cell, [], []⟩
def d__law_rng : He.DefD := ⟨("_law_rng", none), "_law_rng", "_law_rng", defArgs s__law_rng, defBody s__law_rng, defScope s__law_rng, [], []⟩
def d__law_draw : He.DefD := ⟨("_law_draw", none), "_law_draw", "_law_draw", defArgs s__law_draw, defBody s__law_draw, defScope s__law_draw, [], []⟩
def d__law_pick : He.DefD := ⟨("_law_pick", none), "_law_pick", "_law_pick", defArgs s__law_pick, defBody s__law_pick, defScope s__law_pick, [], []⟩
def d__law_random_sizes : He.DefD := ⟨("_law_random_sizes", none), "_law_random_sizes", "_law_random_sizes", defArgs s__law_random_sizes, defBody s__law_random_sizes, defScope s__law_random_sizes, [], []⟩
def d__law_random_command : He.DefD := ⟨("_law_random_command", none), "_law_random_command", "_law_random_command", defArgs s__law_random_command, defBody s__law_random_command, defScope s__law_random_command, [], []⟩
def d__law_random_commands : He.DefD := ⟨("_law_random_commands", none), "_law_random_commands", "_law_random_commands", defArgs s__law_random_commands, defBody s__law_random_commands, defScope s__law_random_commands, [], []⟩
def d__law_command : He.DefD := ⟨("_law_command", none), "_law_command", "_law_command", defArgs s__law_command, defBody s__law_command, defScope s__law_command, [], []⟩
def d__law_program : He.DefD := ⟨("_law_program", none), "_law_program", "_law_program", defArgs s__law_program, defBody s__law_program, defScope s__law_program, [], []⟩
def d__law_words : He.DefD := ⟨("_law_words", none), "_law_words", "_law_words", defArgs s__law_words, defBody s__law_words, defScope s__law_words, [], []⟩
def d__law_random_conditions : He.DefD := ⟨("_law_random_conditions", none), "_law_random_conditions", "_law_random_conditions", defArgs s__law_random_conditions, defBody s__law_random_conditions, defScope s__law_random_conditions, [], []⟩
def d__law_wide_conditions : He.DefD := ⟨("_law_wide_conditions", none), "_law_wide_conditions", "_law_wide_conditions", defArgs s__law_wide_conditions, defBody s__law_wide_conditions, defScope s__law_wide_conditions, [], []⟩
def d__law_is : He.DefD := ⟨("_law_is", none), "_law_is", "_law_is", defArgs s__law_is, defBody s__law_is, defScope s__law_is, [], []⟩
def d__law_meets : He.DefD := ⟨("_law_meets", none), "_law_meets", "_law_meets", defArgs s__law_meets, defBody s__law_meets, defScope s__law_meets, [], []⟩
def d__law_random_moves : He.DefD := ⟨("_law_random_moves", none), "_law_random_moves", "_law_random_moves", defArgs s__law_random_moves, defBody s__law_random_moves, defScope s__law_random_moves, [], []⟩
def d__law_random_steps : He.DefD := ⟨("_law_random_steps", none), "_law_random_steps", "_law_random_steps", defArgs s__law_random_steps, defBody s__law_random_steps, defScope s__law_random_steps, [], []⟩
def d__law_recovery : He.DefD := ⟨("_law_recovery", none), "_law_recovery", "_law_recovery", defArgs s__law_recovery, defBody s__law_recovery, defScope s__law_recovery, [], []⟩
def d__law_done : He.DefD := ⟨("_law_done", none), "_law_done", "_law_done", defArgs s__law_done, defBody s__law_done, defScope s__law_done, [], []⟩
def d__law_all_words : He.DefD := ⟨("_law_all_words", none), "_law_all_words", "_law_all_words", defArgs s__law_all_words, defBody s__law_all_words, defScope s__law_all_words, [], []⟩
def d__law_idle_holds : He.DefD := ⟨("_law_idle_holds", none), "_law_idle_holds", "_law_idle_holds", defArgs s__law_idle_holds, defBody s__law_idle_holds, defScope s__law_idle_holds, [], []⟩
def d__law_cut_ends : He.DefD := ⟨("_law_cut_ends", none), "_law_cut_ends", "_law_cut_ends", defArgs s__law_cut_ends, defBody s__law_cut_ends, defScope s__law_cut_ends, [], []⟩
def d__law_failed_holds : He.DefD := ⟨("_law_failed_holds", none), "_law_failed_holds", "_law_failed_holds", defArgs s__law_failed_holds, defBody s__law_failed_holds, defScope s__law_failed_holds, [], []⟩
def d__law_good_holds : He.DefD := ⟨("_law_good_holds", none), "_law_good_holds", "_law_good_holds", defArgs s__law_good_holds, defBody s__law_good_holds, defScope s__law_good_holds, [], []⟩
def d__law_check_holds : He.DefD := ⟨("_law_check_holds", none), "_law_check_holds", "_law_check_holds", defArgs s__law_check_holds, defBody s__law_check_holds, defScope s__law_check_holds, [], []⟩
def d_law : He.DefD := ⟨("law", none), "law", "law", defArgs s_law, defBody s_law, defScope s_law, [], []⟩
def d_Memory_init : He.DefD := ⟨("Memory", some "__init__"), "__init__", "Memory.__init__", defArgs s_Memory_init, defBody s_Memory_init, defScope s_Memory_init, [], []⟩
def d_Memory_kind : He.DefD := ⟨("Memory", some "kind"), "kind", "Memory.kind", defArgs s_Memory_kind, defBody s_Memory_kind, defScope s_Memory_kind, [], []⟩
def d_Memory_facts : He.DefD := ⟨("Memory", some "facts"), "facts", "Memory.facts", defArgs s_Memory_facts, defBody s_Memory_facts, defScope s_Memory_facts, [], []⟩
def d_Memory_check_line : He.DefD := ⟨("Memory", some "check_line"), "check_line", "Memory.check_line", defArgs s_Memory_check_line, defBody s_Memory_check_line, defScope s_Memory_check_line, [], []⟩
def d_Memory_check_word : He.DefD := ⟨("Memory", some "check_word"), "check_word", "Memory.check_word", defArgs s_Memory_check_word, defBody s_Memory_check_word, defScope s_Memory_check_word, [], []⟩
def d_Memory_zeros : He.DefD := ⟨("Memory", some "zeros"), "zeros", "Memory.zeros", defArgs s_Memory_zeros, defBody s_Memory_zeros, defScope s_Memory_zeros, [], []⟩
def d_Memory_eq : He.DefD := ⟨("Memory", some "__eq__"), "__eq__", "Thing.__eq__", defArgs s_Memory_eq, defBody s_Memory_eq, defScope s_Memory_eq, [], []⟩
def d_Store_init : He.DefD := ⟨("Store", some "__init__"), "__init__", "Store.__init__", defArgs s_Store_init, defBody s_Store_init, defScope s_Store_init, [], []⟩
def d_Store_check : He.DefD := ⟨("Store", some "check"), "check", "Store.check", defArgs s_Store_check, defBody s_Store_check, defScope s_Store_check, [], []⟩
def d_Flush_init : He.DefD := ⟨("Flush", some "__init__"), "__init__", "Flush.__init__", defArgs s_Flush_init, defBody s_Flush_init, defScope s_Flush_init, [], []⟩
def d_Flush_check : He.DefD := ⟨("Flush", some "check"), "check", "Flush.check", defArgs s_Flush_check, defBody s_Flush_check, defScope s_Flush_check, [], []⟩
def d_Fence_check : He.DefD := ⟨("Fence", some "check"), "check", "Command.check", defArgs s_Fence_check, defBody s_Fence_check, defScope s_Fence_check, [], []⟩
def d_Program_init : He.DefD := ⟨("Program", some "__init__"), "__init__", "Program.__init__", defArgs s_Program_init, defBody s_Program_init, defScope s_Program_init, [], []⟩
def d_Counter_init : He.DefD := ⟨("Counter", some "__init__"), "__init__", "Counter.__init__", defArgs s_Counter_init, defBody s_Counter_init, defScope s_Counter_init, [], []⟩
def d_Counter_do_command : He.DefD := ⟨("Counter", some "do_command"), "do_command", "Counter.do_command", defArgs s_Counter_do_command, defBody s_Counter_do_command, defScope s_Counter_do_command, [], []⟩
def d_Box_init : He.DefD := ⟨("Box", some "__init__"), "__init__", "Box.__init__", defArgs s_Box_init, defBody s_Box_init, defScope s_Box_init, [], []⟩
def d_Box_size : He.DefD := ⟨("Box", some "size"), "size", "Box.size", defArgs s_Box_size, defBody s_Box_size, defScope s_Box_size, [], []⟩
def d_Box_contains : He.DefD := ⟨("Box", some "__contains__"), "__contains__", "Box.__contains__", defArgs s_Box_contains, defBody s_Box_contains, defScope s_Box_contains, [], []⟩
def d_Box_image_at : He.DefD := ⟨("Box", some "image_at"), "image_at", "Box.image_at", defArgs s_Box_image_at, defBody s_Box_image_at, defScope s_Box_image_at, [], []⟩
def d_Box_place_of : He.DefD := ⟨("Box", some "place_of"), "place_of", "Box.place_of", defArgs s_Box_place_of, defBody s_Box_place_of, defScope s_Box_place_of, [], []⟩
def d_Is_init : He.DefD := ⟨("Is", some "__init__"), "__init__", "Is.__init__", defArgs s_Is_init, defBody s_Is_init, defScope s_Is_init, [], []⟩
def d_Is_is_met : He.DefD := ⟨("Is", some "is_met"), "is_met", "Is.is_met", defArgs s_Is_is_met, defBody s_Is_is_met, defScope s_Is_is_met, [], []⟩
def d_Copy_init : He.DefD := ⟨("Copy", some "__init__"), "__init__", "Copy.__init__", defArgs s_Copy_init, defBody s_Copy_init, defScope s_Copy_init, [], []⟩
def d_Copy_check : He.DefD := ⟨("Copy", some "check"), "check", "Copy.check", defArgs s_Copy_check, defBody s_Copy_check, defScope s_Copy_check, [], []⟩
def d_Step_init : He.DefD := ⟨("Step", some "__init__"), "__init__", "Step.__init__", defArgs s_Step_init, defBody s_Step_init, defScope s_Step_init, [], []⟩
def d_Recovery_init : He.DefD := ⟨("Recovery", some "__init__"), "__init__", "Recovery.__init__", defArgs s_Recovery_init, defBody s_Recovery_init, defScope s_Recovery_init, [], []⟩
def d_Failed_init : He.DefD := ⟨("Failed", some "__init__"), "__init__", "Failed.__init__", defArgs s_Failed_init, defBody s_Failed_init, defScope s_Failed_init, [], []⟩
def d_Checker_init : He.DefD := ⟨("Checker", some "__init__"), "__init__", "Checker.__init__", defArgs s_Checker_init, defBody s_Checker_init, defScope s_Checker_init, [], []⟩
def d_Checker_fault : He.DefD := ⟨("Checker", some "fault"), "fault", "Checker.fault", defArgs s_Checker_fault, defBody s_Checker_fault, defScope s_Checker_fault, [], []⟩
def d_Checker_looked_for : He.DefD := ⟨("Checker", some "looked_for"), "looked_for", "Checker.looked_for", defArgs s_Checker_looked_for, defBody s_Checker_looked_for, defScope s_Checker_looked_for, [], []⟩
def fns_0 : List He.DefD := [d_check_commands, d_stores, d_counted, d_made, d_boxes_of, d_boxes, d_check_image, d_count, d_image_at, d_place_of, d_line_states, d_blank, d_states_of, d_words_of, d_contents, d_check_conditions, d_fitting, d_least_in, d_broken, d_check_words, d_written, d_recovered, d_settle, d_check, d__law_cell, d__law_rng, d__law_draw, d__law_pick, d__law_random_sizes, d__law_random_command]
def fns_1 : List He.DefD := [d__law_random_commands, d__law_command, d__law_program, d__law_words, d__law_random_conditions, d__law_wide_conditions, d__law_is, d__law_meets, d__law_random_moves, d__law_random_steps, d__law_recovery, d__law_done, d__law_all_words, d__law_idle_holds, d__law_cut_ends, d__law_failed_holds, d__law_good_holds, d__law_check_holds, d_law, d_Memory_init, d_Memory_kind, d_Memory_facts, d_Memory_check_line, d_Memory_check_word, d_Memory_zeros, d_Memory_eq, d_Store_init, d_Store_check, d_Flush_init, d_Flush_check]
def fns_2 : List He.DefD := [d_Fence_check, d_Program_init, d_Counter_init, d_Counter_do_command, d_Box_init, d_Box_size, d_Box_contains, d_Box_image_at, d_Box_place_of, d_Is_init, d_Is_is_met, d_Copy_init, d_Copy_check, d_Step_init, d_Recovery_init, d_Failed_init, d_Checker_init, d_Checker_fault, d_Checker_looked_for]
def fns : List He.DefD := fns_0 ++ fns_1 ++ fns_2
def fas_0 : List He.Fa := [.glo "check_commands", .glo "stores", .glo "counted", .glo "made", .glo "boxes_of", .glo "boxes", .glo "check_image", .glo "count", .glo "image_at", .glo "place_of", .glo "line_states", .glo "blank", .glo "states_of", .glo "words_of", .glo "contents", .glo "check_conditions", .glo "fitting", .glo "least_in", .glo "broken", .glo "check_words", .glo "written", .glo "recovered", .glo "settle", .glo "check", .glo "_law_cell", .glo "_law_rng", .glo "_law_draw", .glo "_law_pick", .glo "_law_random_sizes", .glo "_law_random_command"]
def fas_1 : List He.Fa := [.glo "_law_random_commands", .glo "_law_command", .glo "_law_program", .glo "_law_words", .glo "_law_random_conditions", .glo "_law_wide_conditions", .glo "_law_is", .glo "_law_meets", .glo "_law_random_moves", .glo "_law_random_steps", .glo "_law_recovery", .glo "_law_done", .glo "_law_all_words", .glo "_law_idle_holds", .glo "_law_cut_ends", .glo "_law_failed_holds", .glo "_law_good_holds", .glo "_law_check_holds", .glo "law", .glo "Memory", .cls "Memory", .keep "Memory", .noat "Memory" "sizes", .meth "Memory" "__init__", .meth "Memory" "kind", .meth "Memory" "facts", .meth "Memory" "check_line", .meth "Memory" "check_word", .meth "Memory" "zeros", .meth "Memory" "__eq__"]
def fas_2 : List He.Fa := [.mkr "Memory", .glo "Store", .cls "Store", .keep "Store", .noat "Store" "line", .noat "Store" "word", .noat "Store" "number", .meth "Store" "__init__", .meth "Store" "check", .mkr "Store", .glo "Flush", .cls "Flush", .keep "Flush", .noat "Flush" "line", .meth "Flush" "__init__", .meth "Flush" "check", .mkr "Flush", .glo "Fence", .cls "Fence", .keep "Fence", .meth "Fence" "check", .glo "Program", .cls "Program", .keep "Program", .noat "Program" "memory", .noat "Program" "commands", .meth "Program" "__init__", .mkr "Program", .glo "Counter", .cls "Counter"]
def fas_3 : List He.Fa := [.keep "Counter", .noat "Counter" "made", .noat "Counter" "flushed", .noat "Counter" "sure", .meth "Counter" "__init__", .meth "Counter" "do_command", .mkr "Counter", .glo "Box", .cls "Box", .keep "Box", .noat "Box" "time", .noat "Box" "low", .noat "Box" "high", .meth "Box" "__init__", .meth "Box" "size", .meth "Box" "__contains__", .meth "Box" "image_at", .meth "Box" "place_of", .mkr "Box", .glo "Is", .cls "Is", .keep "Is", .noat "Is" "line", .noat "Is" "word", .noat "Is" "numbers", .meth "Is" "__init__", .meth "Is" "is_met", .mkr "Is", .glo "Copy", .cls "Copy"]
def fas_4 : List He.Fa := [.keep "Copy", .noat "Copy" "line", .noat "Copy" "word", .noat "Copy" "from_line", .noat "Copy" "from_word", .meth "Copy" "__init__", .meth "Copy" "check", .mkr "Copy", .glo "Step", .cls "Step", .keep "Step", .noat "Step" "conditions", .noat "Step" "moves", .meth "Step" "__init__", .mkr "Step", .glo "Recovery", .cls "Recovery", .keep "Recovery", .noat "Recovery" "memory", .noat "Recovery" "steps", .meth "Recovery" "__init__", .mkr "Recovery", .glo "Failed", .cls "Failed", .keep "Failed", .noat "Failed" "image", .noat "Failed" "second", .noat "Failed" "words", .meth "Failed" "__init__", .mkr "Failed"]
def fas_5 : List He.Fa := [.glo "Checker", .cls "Checker", .keep "Checker", .noat "Checker" "recovery", .noat "Checker" "good", .noat "Checker" "known", .meth "Checker" "__init__", .meth "Checker" "fault", .meth "Checker" "looked_for", .mkr "Checker", .free "len", .free "tuple", .free "sum", .free "zip", .free "list", .free "enumerate", .free "isinstance", .free "sorted", .free "set", .free "range", .free "all", .free "min", .free "abs", .int "MOST_LINES" 6, .int "MOST_WORDS" 4, .int "MOST_COMMANDS" 200, .int "MOST_STEPS" 12, .int "MOST_MOVES" 8, .int "MOST_IMAGES" 300, .glo "Thing"]
def fas : List He.Fa := fas_0 ++ fas_1 ++ fas_2 ++ fas_3 ++ fas_4 ++ fas_5
abbrev Gc (K : PySem.W.Frag) (x : Str) : V := .ref (He.ga K x)
def kitB (c d : Str) (b : Bool) : PySem.W.Frag → Bool := fun K => decide (PySem.W.kitOne K (.ref (He.ga K c)) (.ref (He.ga K d)) = some b)
def neB (c : Str) : PySem.W.Frag → Bool := fun K => decide (PySem.W.findIn K (.ref (He.ga K c)) "__ne__" = some (some (.builtin "object.__ne__")))
def tyB (c : Str) : PySem.W.Frag → Bool := fun K => decide (PySem.W.findIn K (.ref (He.ga K c)) "__class__" = some (some (.builtin "object.__class__"))) && (decide (PySem.W.specialIn K (.builtin "object.__class__") "__get__" = some (some (.builtin "getset_descriptor.__get__"))) &&
  (decide (PySem.W.takesIn K (.builtin "object.__class__") = some true) && decide (PySem.W.mroIn K (He.ga K c) (.type "object") = some true)))
def mk0B (c : Str) : PySem.W.Frag → Bool := fun K => PySem.W.makesIn K (He.ga K c) && (decide (PySem.W.findIn K (.ref (He.ga K c)) "__init__" = some (some (.builtin "object.__init__"))) && PySem.W.keepIn K (.ref (He.ga K c)))
def exs_0 : List (PySem.W.Frag → Bool) := [kitB "Store" "Store" true, kitB "Store" "Flush" false, kitB "Flush" "Store" false, kitB "Flush" "Flush" true, kitB "Fence" "Store" false, kitB "Fence" "Flush" false, kitB "Copy" "Store" false, kitB "Copy" "Flush" false, kitB "Memory" "Thing" true, kitB "Failed" "Failed" true, neB "Memory", tyB "Store", tyB "Flush", tyB "Fence", tyB "Copy", tyB "Memory", tyB "Failed", mk0B "Fence"]
def exs : List (PySem.W.Frag → Bool) := exs_0
/-! the Hook: HeadHook2's, and the further facts -/
abbrev AlX : Type := He.AlD × Bool
def obsX (K : PySem.W.Frag) : AlX := (He.obsD fas fns K, exs.all fun f => f K)
def valX : AlX := (He.valD fns, true)
def SaysX (K : PySem.W.Frag) : Prop := obsX K = valX
/-- the addresses that the facts lean on: the globals, their code and namespaces, the methods, their code -/
def refsN (o : Obj) : List Addr := match o.data with
  | .dict es _ => es.toList.flatMap fun e => He.refV e.val
  | .func fd => He.refV fd.code
  | .cls cd => [cd.ns]
  | _ => []
def refsC (o : Obj) : List Addr := match o.data with
  | .func fd => He.refV fd.code
  | .cls cd => [cd.ns]
  | _ => []
def nextX (r : Obj → List Addr) (g : Addr → Option Obj) (as : List Addr) : List Addr := as.flatMap fun a => match g a with
  | some o => r o
  | none => []
def asX (g : Addr → Option Obj) : List Addr :=
  let a1 := nextX refsN g [mainGlobals]
  let a2 := nextX refsC g a1
  let a3 := nextX refsN g a2
  let a4 := nextX refsC g a3
  mainGlobals :: (a1 ++ (a2 ++ (a3 ++ a4)))
def obsXG (g : Addr → Option Obj) : AlX := obsX (He.frG g (asX g))
def hookX : PySem.W.Hook where
  α := AlX
  obs := fun s => obsXG s.heap.get?
  val := fun _ => valX
  says := fun _ h => ∃ K : PySem.W.Frag, K.In h ∧ SaysX K
  of := fun _ _ e => ⟨_, He.frG_in, e⟩
  keeps := fun _ _ _ ⟨K, hK, c⟩ k => ⟨K, PySem.W.Frag.In.keeps hK k, c⟩
abbrev Rw : PySem.W.OpenRow := PySem.W.OpenLaw.row PySem.Challenge.rw_lateststore_k95_whole_recoveries_rules_a
def ob (s : PySem.W.SharedT) : AlX := obsXG (HandSHeadRun.getT s)
theorem ob_eq (s : PySem.W.SharedT) : ob s = hookX.obs s.abs := by
  have e : HandSHeadRun.getT s = s.abs.heap.get? := funext (HandSHeadRun.getT_eq s)
  unfold ob
  rw [e] <;> rfl
def looses_0 : List Str := ["_wall", "StoreError", "BadCount", "NoLine", "NoWord", "NoTime", "NoImage", "NoPlace", "OtherMemory", "Wide", "MOST_LINES", "MOST_WORDS", "MOST_COMMANDS", "Thing", "Memory", "Command", "Store", "Flush", "Fence", "check_commands", "Program", "stores", "Counter", "counted", "made", "Box", "boxes_of", "boxes", "check_image", "count"]
def looses_1 : List Str := ["image_at", "place_of", "line_states", "blank", "states_of", "words_of", "contents", "Is", "check_conditions", "fitting", "least_in", "broken", "MOST_STEPS", "MOST_MOVES", "MOST_IMAGES", "Copy", "Step", "Recovery", "Failed", "check_words", "written", "recovered", "settle", "Checker", "check", "_law_cell", "_law_rng", "_law_draw", "_law_pick", "_law_random_sizes"]
def looses_2 : List Str := ["_law_random_command", "_law_random_commands", "_law_command", "_law_program", "_law_words", "_law_random_conditions", "_law_wide_conditions", "_law_is", "_law_meets", "_law_random_moves", "_law_random_steps", "_law_recovery", "_law_done", "_law_all_words", "_law_idle_holds", "_law_cut_ends", "_law_failed_holds", "_law_good_holds", "_law_check_holds"]
def looses : List Str := looses_0 ++ looses_1 ++ looses_2
theorem SaysX.fact {K : PySem.W.Frag} (c : SaysX K) (i : Nat) {f : He.Fa} (h : fas[i]? = some f) : f.ok K = true := He.SaysD.fact (show He.SaysD fas fns K from congrArg Prod.fst c) i h
theorem SaysX.def_ {K : PySem.W.Frag} (c : SaysX K) (i : Nat) {d : He.DefD} (h : fns[i]? = some d) : ∃ fd, FunD K d.name d.qual d.params d.body d.scope (d.dvs K) (d.kws K) (He.fAd K d.at_) fd := He.SaysD.def_ (show He.SaysD fas fns K from congrArg Prod.fst c) i h
theorem SaysX.more {K : PySem.W.Frag} (c : SaysX K) (i : Nat) {f : PySem.W.Frag → Bool} (h : exs[i]? = some f) : f K = true :=
  List.all_eq_true.mp (show (exs.all fun f => f K) = true from congrArg Prod.snd c) f (List.mem_of_getElem? h)
end Ls

/-! LsRun -/
namespace Ls
open PySem PySem.W PySem.Calls PyProof.Rows
noncomputable def endd (w : World) (os : OsState) := HandSHeadRun.endF (HandSHeadRun.stepQ (HandSHeadRun.denQ HandSHeadRun.tabQ) Rw.prog w) 12000 Rw.prog w os
theorem run1 (w : World) (os : OsState) : (endd w os).map (fun s => (HandSHeadRun.looksF Rw.prog (boot_heap w.params) s.abs, HandSHeadRun.seenQ (view Rw.prog [85]) looses (importedModules Rw.prog.main.body) (fun s => xlAt (view Rw.prog [85]) [] s && recOk Rw.records s) s.abs)) = some (true, openGood (view Rw.prog [85]) looses) := by
  kernel_rfl
theorem run2 (w : World) (os : OsState) : (endd w os).map ob = some valX := by
  kernel_rfl
theorem map_pair {α β γ δ : Type} {o : Option α} {f : α → β × γ} {g : α → δ} {b : β} {c : γ} {d : δ} (h1 : o.map f = some (b, c)) (h2 : o.map g = some d) : o.map (fun s => ((f s).1, (f s).2, g s)) = some (b, c, d) := by
  cases o with
  | none => cases h1
  | some s =>
    have e1 : f s = (b, c) := Option.some.inj h1
    have e2 : g s = d := Option.some.inj h2
    show some ((f s).1, (f s).2, g s) = some (b, c, d)
    rw [e1, e2]
theorem run (w : World) : HandSHeadRun.RunEq Rw (view Rw.prog [85]) hookX ob 12000 looses w := by
  intro os
  have h := map_pair (run1 w os) (run2 w os)
  exact h
end Ls

/-! LsBase -/
set_option maxHeartbeats 2000000
/-! the layer: what is known stands in a part G of the heap that no one writes; what a def's body writes stands in H alone -/
namespace Ls
open PySem PySem.Spec PyProof.Rows L2
/-! ### heaps -/
def Ex (H H' : Hp) : Prop := ∀ a o, H a = some o → H' a = some o
theorem Ex.refl (H : Hp) : Ex H H := fun _ _ h => h
theorem Ex.trans {H H1 H2 : Hp} (a : Ex H H1) (b : Ex H1 H2) : Ex H H2 := fun x o h => b x o (a x o h)
theorem Ex.new {H : Hp} {p : Addr} {o : HO} (h : H p = none) : Ex H (upd H p o) := fun a u e => by
  rw [upd_ne (ne_of_none e h)]
  exact e
theorem Ex.mut {H H' : Hp} {p : Addr} {o : HO} (e : Ex H H') (h : H p = none) : Ex H (upd H' p o) := fun a u ha => by
  rw [upd_ne (ne_of_none ha h)]
  exact e a u ha
theorem Ex.back {H H' : Hp} {p : Addr} (e : Ex H H') (h : H' p = none) : H p = none := by
  cases h1 : H p with
  | none => rfl
  | some o =>
    rw [e p o h1] at h
    cases h
theorem Ex.both {H H' : Hp} {p : Addr} {o : HO} (e : Ex H H') : Ex (upd H p o) (upd H' p o) := fun a u ha => by
  by_cases q : a = p
  · rw [q, upd_same] at ha ⊢
    exact ha
  · rw [upd_ne q] at ha ⊢
    exact e a u ha
def del (H : Hp) (x : Addr) : Hp := fun b => if b = x then none else H b
theorem del_same {H : Hp} {x : Addr} : del H x x = none := by
  unfold del
  rw [if_pos rfl]
theorem del_ne {H : Hp} {x b : Addr} (h : b ≠ x) : del H x b = H b := by
  unfold del
  rw [if_neg h]
theorem del_upd {H : Hp} {x : Addr} {o : HO} : del (upd H x o) x = del H x := by
  funext b
  by_cases q : b = x
  · rw [q, del_same, del_same]
  · rw [del_ne q, del_ne q, upd_ne q]
theorem del_none {H : Hp} {x : Addr} (h : H x = none) : del H x = H := by
  funext b
  by_cases q : b = x
  · rw [q, del_same, h]
  · rw [del_ne q]
theorem ex_del {H : Hp} {x : Addr} : Ex (del H x) H := fun a o e => by
  by_cases q : a = x
  · rw [q, del_same] at e
    cases e
  · rw [del_ne q] at e
    exact e
theorem del_some {H : Hp} {x a : Addr} {o : HO} (e : H a = some o) (q : a ≠ x) : del H x a = some o := by
  rw [del_ne q]
  exact e
theorem ne_np {H : Hp} {a p : Addr} (h : H a ≠ none) (n : H p = none) : a ≠ p := fun z => h (by rw [z]; exact n)
theorem ne_S {S : Addr → Prop} {a p : Addr} (h : S a) (n : ¬ S p) : a ≠ p := fun z => n (by rw [← z]; exact h)
/-! ### frames: what may be written (S), what is known of it (I) -/
structure Fm where
  S : Addr → Prop
  I : Hp → Prop
  st : ∀ H H' : Hp, (∀ a, S a → H' a = H a) → I H → I H'
def Fm.no : Fm := ⟨fun _ => False, fun _ => True, fun _ _ _ _ => True.intro⟩
structure At (F : Fm) (G H : Hp) : Prop where
  gh : Ex G H
  sg : ∀ a, F.S a → G a = none
  sh : ∀ a, F.S a → H a ≠ none
  i : F.I H
structure Gr (F : Fm) (G H G' H' : Hp) : Prop where
  gg : Ex G G'
  hh : ∀ a o, ¬ F.S a → H a = some o → H' a = some o
  fr : ∀ a, H a ≠ none → G a = none → G' a = none
  th : ∀ a, H a ≠ none → H' a ≠ none
  at_ : At F G' H'
section
variable {F : Fm} {G H G1 H1 G2 H2 : Hp} {p : Addr} {o o' : HO}
theorem At.no (e : Ex G H) : At Fm.no G H := ⟨e, fun _ h => h.elim, fun _ h => h.elim, True.intro⟩
theorem At.toNo (h : At F G H) : At Fm.no G H := At.no h.gh
theorem Gr.refl (h : At F G H) : Gr F G H G H := ⟨Ex.refl _, fun _ _ _ e => e, fun _ _ e => e, fun _ h => h, h⟩
theorem Gr.trans (a : Gr F G H G1 H1) (b : Gr F G1 H1 G2 H2) : Gr F G H G2 H2 :=
  ⟨a.gg.trans b.gg, fun x o n e => b.hh x o n (a.hh x o n e), fun x h e => b.fr x (a.th x h) (a.fr x h e), fun x h => b.th x (a.th x h), b.at_⟩
theorem Gr.ex (a : Gr Fm.no G H G1 H1) : Ex H H1 := fun x o e => a.hh x o (fun h => h) e
theorem Gr.gh (a : Gr F G H G1 H1) : Ex G1 H1 := a.at_.gh
/-- what a step that writes nothing is within a frame -/
theorem Gr.up (h : At F G H) (a : Gr Fm.no G H G1 H1) : Gr F G H G1 H1 :=
  ⟨a.gg, fun x o _ e => a.ex x o e, a.fr, a.th, a.gh, fun x s => a.fr x (h.sh x s) (h.sg x s), fun x s => a.th x (h.sh x s), F.st H H1 (fun x s => by
    cases q : H x with
    | none => exact absurd q (h.sh x s)
    | some o => exact a.ex x o q) h.i⟩
/-- a new object, known from now on -/
theorem Gr.new (h : At F G H) (n : H p = none) : Gr F G H (upd G p o) (upd H p o) := by
  have nS : ∀ a, F.S a → a ≠ p := fun a s => ne_np (h.sh a s) n
  exact ⟨Ex.new (h.gh.back n), fun a u _ e => Ex.new n a u e, fun a ha e => by rw [upd_ne (ne_np ha n)]; exact e, fun a ha => by
    rw [upd_ne (ne_np ha n)]
    exact ha, h.gh.both, fun a s => by
    rw [upd_ne (nS a s)]
    exact h.sg a s, fun a s => by
    rw [upd_ne (nS a s)]
    exact h.sh a s, F.st H _ (fun a s => upd_ne (nS a s)) h.i⟩
/-- a new object, not known (it will be written) -/
theorem Gr.newH (h : At F G H) (n : H p = none) : Gr F G H G (upd H p o) := by
  have nS : ∀ a, F.S a → a ≠ p := fun a s => ne_np (h.sh a s) n
  exact ⟨Ex.refl _, fun a u _ e => Ex.new n a u e, fun a ha e => e, fun a ha => by
    rw [upd_ne (ne_np ha n)]
    exact ha, h.gh.mut (h.gh.back n), h.sg, fun a s => by
    rw [upd_ne (nS a s)]
    exact h.sh a s, F.st H _ (fun a s => upd_ne (nS a s)) h.i⟩
/-- an object that the start does not have is written -/
theorem Gr.wr (a : Gr F G H G1 H1) (n : H p = none) (g : G1 p = none) (nS : ¬ F.S p) : Gr F G H G1 (upd H1 p o) :=
  ⟨a.gg, fun x u s e => by
    rw [upd_ne (ne_of_none e n)]
    exact a.hh x u s e, a.fr, fun x hx => by
    by_cases q : x = p
    · rw [q, upd_same]
      exact Option.some_ne_none _
    · rw [upd_ne q]
      exact a.th x hx, a.gh.mut g, a.at_.sg, fun x s => by
    rw [upd_ne (ne_S s nS)]
    exact a.at_.sh x s, F.st H1 _ (fun x s => upd_ne (ne_S s nS)) a.at_.i⟩
/-- an object that the start does not have becomes known -/
theorem Gr.fix (a : Gr F G H G1 H1) (n : H p = none) (g : G1 p = none) (nS : ¬ F.S p) (e : H1 p = some o) : Gr F G H (upd G1 p o) H1 :=
  ⟨a.gg.mut (a.gg.back g), a.hh, fun x hx z => by
    rw [upd_ne (ne_np hx n)]
    exact a.fr x hx z, a.th, fun x u z => by
    by_cases q : x = p
    · rw [q, upd_same] at z
      rw [q, e]
      exact z
    · rw [upd_ne q] at z
      exact a.gh x u z, fun x s => by
    rw [upd_ne (ne_S s nS)]
    exact a.at_.sg x s, a.at_.sh, a.at_.i⟩
theorem Gr.wrNo (a : Gr Fm.no G H G1 H1) (n : H p = none) (g : G1 p = none) : Gr Fm.no G H G1 (upd H1 p o) := a.wr n g (fun h => h)
theorem Gr.fixNo (a : Gr Fm.no G H G1 H1) (n : H p = none) (g : G1 p = none) (e : H1 p = some o) : Gr Fm.no G H (upd G1 p o) H1 := a.fix n g (fun h => h) e
end
/-! ### what a value stands for -/
structure Rp where
  p : V → Hp → Prop
  mo : ∀ v G G', Ex G G' → p v G → p v G'
def isV (x : V) : Rp := ⟨fun v _ => v = x, fun _ _ _ _ h => h⟩
def isI (i : Int) : Rp := isV (.int i)
def isB (b : Bool) : Rp := isV (.bl b)
def isN (n : Nat) : Rp := isV (.int (n : Int))
def All (Rs : List Rp) (vs : List V) (G : Hp) : Prop := Paired (fun (R : Rp) v => R.p v G) Rs vs
theorem Paired.imp2 {α β : Type} {P Q : α → β → Prop} : ∀ {l₁ : List α} {l₂ : List β}, Paired P l₁ l₂ → (∀ a b, P a b → Q a b) → Paired Q l₁ l₂
  | _, _, .nil, _ => .nil
  | _, _, .cons r t, f => .cons (f _ _ r) (Paired.imp2 t f)
theorem All.mo {Rs : List Rp} {vs : List V} {G G' : Hp} (e : Ex G G') (h : All Rs vs G) : All Rs vs G' := Paired.imp2 h fun R v z => R.mo v _ _ e z
theorem All.len {Rs : List Rp} {vs : List V} {G : Hp} (h : All Rs vs G) : Rs.length = vs.length := Paired.length h
theorem All.get : ∀ {Rs : List Rp} {vs : List V} {G : Hp} {i : Nat} {R : Rp}, All Rs vs G → Rs[i]? = some R → ∃ v, vs[i]? = some v ∧ R.p v G
  | _, _, _, _, _, .nil, e => by simp at e
  | _, _, _, 0, _, .cons r _, e => by
    simp at e
    subst e
    exact ⟨_, rfl, r⟩
  | _, _, _, i + 1, R, .cons _ t, e => by
    obtain ⟨v, h1, h2⟩ := All.get (i := i) (R := R) t (by simpa using e)
    exact ⟨v, by simpa using h1, h2⟩
theorem All.app : ∀ {Rs Ss : List Rp} {vs us : List V} {G : Hp}, All Rs vs G → All Ss us G → All (Rs ++ Ss) (vs ++ us) G
  | _, _, _, _, _, .nil, s => s
  | _, _, _, _, _, .cons r t, s => .cons r (All.app t s)
theorem All.snoc {Rs : List Rp} {R : Rp} {vs : List V} {v : V} {G : Hp} (h : All Rs vs G) (r : R.p v G) : All (Rs ++ [R]) (vs ++ [v]) G := h.app (.cons r .nil)
theorem All.set : ∀ {Rs : List Rp} {vs : List V} {G : Hp} {i : Nat} {R : Rp} {v : V}, All Rs vs G → R.p v G → All (Rs.set i R) (vs.set i v) G
  | _, _, _, _, _, _, .nil, _ => .nil
  | _, _, _, 0, _, _, .cons _ t, r => .cons r t
  | _, _, _, i + 1, _, _, .cons q t, r => .cons q (All.set t r)
theorem All.rev : ∀ {Rs : List Rp} {vs : List V} {G : Hp}, All Rs vs G → All Rs.reverse vs.reverse G
  | _, _, _, .nil => .nil
  | R :: Rs, v :: vs, G, .cons r t => by
    rw [List.reverse_cons, List.reverse_cons]
    exact (All.rev t).snoc r
theorem All.tk : ∀ {Rs : List Rp} {vs : List V} {G : Hp} (n : Nat), All Rs vs G → All (Rs.take n) (vs.take n) G
  | _, _, _, 0, _ => .nil
  | _, _, _, _ + 1, .nil => .nil
  | _, _, _, n + 1, .cons r t => .cons r (All.tk n t)
theorem All.dp : ∀ {Rs : List Rp} {vs : List V} {G : Hp} (n : Nat), All Rs vs G → All (Rs.drop n) (vs.drop n) G
  | _, _, _, 0, r => r
  | _, _, _, _ + 1, .nil => .nil
  | _, _, _, n + 1, .cons _ t => All.dp n t
theorem all_vals {α : Type} {f : α → V} : ∀ {xs : List α} {vs : List V} {G : Hp}, All (xs.map fun x => isV (f x)) vs G → vs = xs.map f
  | [], _, _, .nil => rfl
  | x :: xs, _, _, .cons r t => by
    rw [List.map_cons, ← all_vals t]
    have e : _ = f x := r
    rw [e]
theorem all_of {α : Type} {f : α → V} : ∀ (xs : List α) (G : Hp), All (xs.map fun x => isV (f x)) (xs.map f) G
  | [], _ => .nil
  | x :: xs, G => .cons rfl (all_of xs G)
theorem all_map {α : Type} {P Q : α → Rp} : ∀ {xs : List α} {vs : List V} {G : Hp}, All (xs.map P) vs G → (∀ x v, (P x).p v G → (Q x).p v G) → All (xs.map Q) vs G
  | [], _, _, .nil, _ => .nil
  | x :: xs, _, _, .cons r t, h => .cons (h x _ r) (all_map t h)
def rTup (Rs : List Rp) : Rp := ⟨fun v G => ∃ a vs, v = .ref a ∧ G a = some (.tup vs) ∧ All Rs vs G, fun _ _ _ e ⟨a, vs, h1, h2, h3⟩ => ⟨a, vs, h1, e a _ h2, h3.mo e⟩⟩
def rLst (Rs : List Rp) : Rp := ⟨fun v G => ∃ a vs, v = .ref a ∧ G a = some (.lst vs) ∧ All Rs vs G, fun _ _ _ e ⟨a, vs, h1, h2, h3⟩ => ⟨a, vs, h1, e a _ h2, h3.mo e⟩⟩
/-- a list or a tuple -/
def rSeq (Rs : List Rp) : Rp := ⟨fun v G => (rTup Rs).p v G ∨ (rLst Rs).p v G, fun v _ _ e h => h.elim (fun h => .inl ((rTup Rs).mo v _ _ e h)) fun h => .inr ((rLst Rs).mo v _ _ e h)⟩
def Flds (fs : List (Str × Rp)) (vs : List (Str × V)) (G : Hp) : Prop := Paired (fun (f : Str × Rp) (v : Str × V) => f.1 = v.1 ∧ f.2.p v.2 G) fs vs
theorem Flds.mo {fs : List (Str × Rp)} {vs : List (Str × V)} {G G' : Hp} (e : Ex G G') (h : Flds fs vs G) : Flds fs vs G' := Paired.imp2 h fun f v z => ⟨z.1, f.2.mo v.2 _ _ e z.2⟩
theorem Flds.get {f : Str} {R : Rp} : ∀ {fs : List (Str × Rp)} {vs : List (Str × V)} {G : Hp}, Flds fs vs G → fs.lookup f = some R → ∃ v, vs.lookup f = some v ∧ R.p v G
  | _, _, _, .nil, e => nomatch e
  | (g, S) :: fs, (g', v) :: vs, G, .cons r t, e => by
    obtain ⟨e1, e2⟩ := r
    dsimp only at e1 e2
    subst e1
    rw [List.lookup_cons] at e ⊢
    by_cases q : (f == g) = true
    · rw [q] at e ⊢
      have e3 : S = R := Option.some.inj e
      subst e3
      exact ⟨v, rfl, e2⟩
    · rw [Bool.not_eq_true] at q
      rw [q] at e ⊢
      exact Flds.get t e
theorem Flds.no {f : Str} : ∀ {fs : List (Str × Rp)} {vs : List (Str × V)} {G : Hp}, Flds fs vs G → fs.lookup f = none → vs.lookup f = none
  | _, _, _, .nil, _ => rfl
  | (g, S) :: fs, (g', v) :: vs, G, .cons r t, e => by
    obtain ⟨e1, e2⟩ := r
    dsimp only at e1 e2
    subst e1
    rw [List.lookup_cons] at e ⊢
    by_cases q : (f == g) = true
    · rw [q] at e
      cases e
    · rw [Bool.not_eq_true] at q
      rw [q] at e ⊢
      exact Flds.no t e
/-- an instance of the class at C -/
def rIns (C : Addr) (fs : List (Str × Rp)) : Rp := ⟨fun v G => ∃ a dx vs, v = .ref a ∧ G a = some (.ins C dx vs) ∧ Flds fs vs G, fun _ _ _ e ⟨a, dx, vs, h1, h2, h3⟩ => ⟨a, dx, vs, h1, e a _ h2, h3.mo e⟩⟩
/-- some value of a kind -/
def rSome {α : Type} (R : α → Rp) : Rp := ⟨fun v G => ∃ x, (R x).p v G, fun v _ _ e ⟨x, h⟩ => ⟨x, (R x).mo v _ _ e h⟩⟩
def rIf (c : Prop) (R : Rp) : Rp := ⟨fun v G => c ∧ R.p v G, fun v _ _ e ⟨h, r⟩ => ⟨h, R.mo v _ _ e r⟩⟩
/-! ### what an expression comes to -/
def Ev (F : Fm) (te : TE) (σ : L2.St) (G : Hp) (R : Rp) : Prop := ∀ G1 H1, Ex G G1 → At F G1 H1 → ∀ Q : VK, (∀ v G' H', Gr F G1 H1 G' H' → R.p v G' → Q v H') → te σ H1 Q
def EvA (F : Fm) (ta : TA) (σ : L2.St) (G : Hp) (Rs : List Rp) : Prop := ∀ G1 H1, Ex G G1 → At F G1 H1 → ∀ Q : List V → Hp → Prop, (∀ vs G' H', Gr F G1 H1 G' H' → All Rs vs G' → Q vs H') → ta σ H1 Q
def EvT (F : Fm) (t : TT) (σ : L2.St) (G : Hp) (B : Bool → Prop) : Prop := ∀ G1 H1, Ex G G1 → At F G1 H1 → ∀ Q : Bool → Hp → Prop, (∀ b G' H', Gr F G1 H1 G' H' → B b → Q b H') → t σ H1 Q
section
variable {F : Fm} {σ : L2.St} {G G' H H' : Hp} {R S : Rp} {Rs : List Rp} {ta tb te tc : TE} {t u : TT} {ts : TA} {K : PySem.W.Frag} {C : Addr} {x y z v : V} {B B1 B2 : Bool → Prop}
theorem Ev.mo (e : Ex G G') (h : Ev F te σ G R) : Ev F te σ G' R := fun G1 H1 a b => h G1 H1 (e.trans a) b
theorem EvA.mo (e : Ex G G') (h : EvA F ts σ G Rs) : EvA F ts σ G' Rs := fun G1 H1 a b => h G1 H1 (e.trans a) b
theorem EvT.mo (e : Ex G G') (h : EvT F t σ G B) : EvT F t σ G' B := fun G1 H1 a b => h G1 H1 (e.trans a) b
theorem Ev.imp (h : Ev F te σ G R) (k : ∀ v G', Ex G G' → R.p v G' → S.p v G') : Ev F te σ G S := fun G1 H1 a b Q q => h G1 H1 a b Q fun v G2 H2 g r => q v G2 H2 g (k v G2 (a.trans g.gg) r)
theorem EvT.imp (h : EvT F t σ G B) (k : ∀ b, B b → B1 b) : EvT F t σ G B1 := fun G1 H1 a b Q q => h G1 H1 a b Q fun v G2 H2 g r => q v G2 H2 g (k v r)
theorem EvT.to {b c : Bool} (h : EvT F t σ G (· = b)) (k : b = c) : EvT F t σ G (· = c) := h.imp fun _ e => e.trans k
theorem ev_var {i : Nat} (h : σ[i]? = some (some v)) (r : R.p v G) : Ev F (tVar i) σ G R := fun G1 H1 e a Q q => ⟨v, h, q v G1 H1 (Gr.refl a) (R.mo v _ _ e r)⟩
theorem ev_c : Ev F (tC v) σ G (isV v) := fun G1 H1 _ a Q q => q v G1 H1 (Gr.refl a) rfl
theorem ev_cI {i : Int} : Ev F (tC (.int i)) σ G (isI i) := ev_c
/-- two operands, an operation that writes nothing -/
theorem ev_op {r : R2} (ha : Ev F ta σ G R) (hb : Ev F tb σ G S) {T : Rp} (hr : ∀ x y G1 H1, Ex G G1 → Ex G1 H1 → R.p x G1 → S.p y G1 → ∀ Q : VK, (∀ v G' H', Gr Fm.no G1 H1 G' H' → T.p v G' → Q v H') → r x y H1 Q) : Ev F (tOp r ta tb) σ G T := fun G1 H1 e a Q q =>
  ha G1 H1 e a _ fun x G2 H2 g2 rx => hb G2 H2 (e.trans g2.gg) g2.at_ _ fun y G3 H3 g3 ry =>
    hr x y G3 H3 ((e.trans g2.gg).trans g3.gg) g3.gh (R.mo x _ _ g3.gg rx) ry Q fun v G4 H4 g4 rv => q v G4 H4 ((g2.trans g3).trans (g4.up g3.at_)) rv
/-- .. that makes nothing either -/
theorem ev_opv {r : R2} (ha : Ev F ta σ G R) (hb : Ev F tb σ G S) {T : Rp} (hr : ∀ x y G1 H1, Ex G G1 → Ex G1 H1 → R.p x G1 → S.p y G1 → ∀ Q : VK, (∀ v, T.p v G1 → Q v H1) → r x y H1 Q) : Ev F (tOp r ta tb) σ G T :=
  ev_op ha hb fun x y G1 H1 e eh rx ry Q q => hr x y G1 H1 e eh rx ry Q fun v rv => q v G1 H1 (Gr.refl (At.no eh)) rv
theorem ev_I0 {g : Int → Int → V} {i j : Int} (ha : Ev F ta σ G (isI i)) (hb : Ev F tb σ G (isI j)) : Ev F (tOp (rI0 g) ta tb) σ G (isV (g i j)) :=
  ev_opv ha hb fun x y G1 H1 _ _ hx hy Q q => ⟨i, j, hx, hy, q _ rfl⟩
theorem ev_I {c : Int → Int → Prop} {g : Int → Int → V} {i j : Int} (ha : Ev F ta σ G (isI i)) (hb : Ev F tb σ G (isI j)) (hc : c i j) : Ev F (tOp (rI c g) ta tb) σ G (isV (g i j)) :=
  ev_opv ha hb fun x y G1 H1 _ _ hx hy Q q => ⟨i, j, hx, hy, hc, q _ rfl⟩
theorem ev_eq (ha : Ev F ta σ G (isV x)) (hb : Ev F tb σ G (isV y)) (hs : scal x y = true) : Ev F (tOp rEq ta tb) σ G (isB (decide (x = y))) :=
  ev_opv ha hb fun u w G1 H1 _ _ hx hy Q q => by
    have e1 : u = x := hx
    have e2 : w = y := hy
    subst e1 e2
    exact ⟨hs, q _ rfl⟩
theorem ev_ne (ha : Ev F ta σ G (isV x)) (hb : Ev F tb σ G (isV y)) (hs : scal x y = true) : Ev F (tOp rNe ta tb) σ G (isB (!decide (x = y))) :=
  ev_opv ha hb fun u w G1 H1 _ _ hx hy Q q => by
    have e1 : u = x := hx
    have e2 : w = y := hy
    subst e1 e2
    exact ⟨hs, q _ rfl⟩
theorem ev_fld {fs : List (Str × Rp)} {f : Str} (c : Cls K C) (n : NoAttr K C f) (ha : Ev F ta σ G (rIns C fs)) (hl : fs.lookup f = some R) : Ev F (tFld K ta f) σ G R := fun G1 H1 e a Q q =>
  ha G1 H1 e a _ fun x G2 H2 g2 ⟨p, dx, vs, hx, hp, hf⟩ => by
    obtain ⟨v, hv, rv⟩ := hf.get hl
    exact ⟨p, C, dx, vs, v, hx, g2.gh _ _ hp, c, n, hv, q v G2 H2 g2 rv⟩
theorem ea_nil : EvA F tNil σ G [] := fun G1 H1 _ a Q q => q [] G1 H1 (Gr.refl a) .nil
theorem ea_cons (h : Ev F te σ G R) (hr : EvA F ts σ G Rs) : EvA F (tCons te ts) σ G (R :: Rs) := fun G1 H1 e a Q q =>
  h G1 H1 e a _ fun v G2 H2 g2 rv => hr G2 H2 (e.trans g2.gg) g2.at_ _ fun vs G3 H3 g3 rs => q (v :: vs) G3 H3 (g2.trans g3) (.cons (R.mo v _ _ g3.gg rv) rs)
theorem ev_tup (h : EvA F ts σ G Rs) (hl : Rs.length ≤ 1000) : Ev F (tTup ts) σ G (rTup Rs) := fun G1 H1 e a Q q =>
  h G1 H1 e a _ fun vs G2 H2 g2 rs => ⟨by rw [← rs.len]; exact Nat.le_of_lt (small1000 hl), fun p hp => q (.ref p) _ _ (g2.trans (Gr.new g2.at_ hp)) ⟨p, vs, rfl, upd_same, rs.mo (Ex.new (g2.gh.back hp))⟩⟩
theorem ev_lst (h : EvA F ts σ G Rs) (hl : Rs.length ≤ 1000) : Ev F (tLst ts) σ G (rLst Rs) := fun G1 H1 e a Q q =>
  h G1 H1 e a _ fun vs G2 H2 g2 rs => ⟨by rw [← rs.len]; exact Nat.le_of_lt (small1000 hl), fun p hp => q (.ref p) _ _ (g2.trans (Gr.new g2.at_ hp)) ⟨p, vs, rfl, upd_same, rs.mo (Ex.new (g2.gh.back hp))⟩⟩
/-! ### calls -/
/-- the promise of a def that writes nothing that stood -/
def Prom (pre : List V → Hp → Rp → Prop) : Sp := fun vs H Q _ => ∃ G R, Ex G H ∧ pre vs G R ∧ ∀ v G' H', Gr Fm.no G H G' H' → R.p v G' → Q v H'
/-- .. of one that writes within the frame F of its arguments -/
def PromF (F : Fm) (pre : List V → Hp → Rp → Prop) : Sp := fun vs H Q _ => ∃ G R, At F G H ∧ pre vs G R ∧ ∀ v G' H', Gr F G H G' H' → R.p v G' → Q v H'
theorem ev_call {pre : List V → Hp → Rp → Prop} {E : XK} (h : EvA F ts σ G Rs) (hp : ∀ vs G1, Ex G G1 → All Rs vs G1 → pre vs G1 R) : Ev F (tCall (Prom pre) [] E ts) σ G R := fun G1 H1 e a Q q =>
  h G1 H1 e a _ fun vs G2 H2 g2 rs => ⟨G2, R, g2.gh, by rw [List.append_nil]; exact hp vs G2 (e.trans g2.gg) rs, fun v G3 H3 g3 rv => q v G3 H3 (g2.trans (g3.up g2.at_)) rv⟩
theorem ev_callF {pre : List V → Hp → Rp → Prop} {E : XK} {sp : Sp} (hsp : ∀ vs H Q, PromF F pre vs H Q E → sp vs H Q E) (h : EvA F ts σ G Rs) (hp : ∀ vs G1, Ex G G1 → All Rs vs G1 → pre vs G1 R) : Ev F (tCall sp [] E ts) σ G R := fun G1 H1 e a Q q =>
  h G1 H1 e a _ fun vs G2 H2 g2 rs => hsp _ _ _ ⟨G2, R, g2.at_, by rw [List.append_nil]; exact hp vs G2 (e.trans g2.gg) rs, fun v G3 H3 g3 rv => q v G3 H3 (g2.trans g3) rv⟩
theorem ev_meth {pre : List V → Hp → Rp → Prop} {E : XK} {m : Str} {fs : List (Str × Rp)} (ha : Ev F ta σ G (rIns C fs)) (hn : fs.lookup m = none) (h : EvA F ts σ G Rs)
    (hp : ∀ x vs G1, Ex G G1 → (rIns C fs).p x G1 → All Rs vs G1 → pre (x :: vs) G1 R) : Ev F (tMeth C m (Prom pre) [] E ta ts) σ G R := fun G1 H1 e a Q q =>
  ha G1 H1 e a _ fun x G2 H2 g2 r2 => by
    obtain ⟨p, dx, vs0, hx, hpp, hf⟩ := id r2
    exact ⟨p, dx, vs0, hx, g2.gh _ _ hpp, hf.no hn, h G2 H2 (e.trans g2.gg) g2.at_ _ fun vs G3 H3 g3 rs => ⟨G3, R, g3.gh, by
      rw [List.append_nil]
      exact hp x vs G3 ((e.trans g2.gg).trans g3.gg) ((rIns C fs).mo x _ _ g3.gg r2) rs, fun v G4 H4 g4 rv => q v G4 H4 ((g2.trans g3).trans (g4.up g3.at_)) rv⟩⟩
/-- the promise of an __init__: the instance at x gets its fields; from then on it is known -/
def PromI (C : Addr) (pre : List V → Hp → List (Str × Rp) → Prop) : Sp := fun vs H Q _ => ∃ x dx args G fs, vs = .ref x :: args ∧ H x = some (.ins C dx []) ∧ Ex G (del H x) ∧ pre args G fs ∧
  ∀ G' H', Gr Fm.no G (del H x) G' H' → (rIns C fs).p (.ref x) G' → Q .non H'
theorem ev_make {pre : List V → Hp → List (Str × Rp) → Prop} {E : XK} {fs : List (Str × Rp)} (h : EvA F ts σ G Rs) (hp : ∀ vs G1, Ex G G1 → All Rs vs G1 → pre vs G1 fs) : Ev F (tMake C (PromI C pre) [] E ts) σ G (rIns C fs) := fun G1 H1 e a Q q =>
  h G1 H1 e a _ fun vs G2 H2 g2 rs x dx nx nd ne => by
    have e1 : del (upd (upd H2 dx (.own x)) x (.ins C dx [])) x = upd H2 dx (.own x) := by
      rw [del_upd, del_none]
      rw [upd_ne (Ne.symm ne)]
      exact nx
    have gn : Gr F G2 H2 G2 (upd H2 dx (.own x)) := Gr.newH g2.at_ nd
    refine ⟨x, dx, vs, G2, fs, by rw [List.append_nil], upd_same, ?_, hp vs G2 (e.trans g2.gg) rs, fun G3 H3 g3 r3 => ⟨rfl, ?_⟩⟩
    · rw [e1]
      exact gn.gh
    · rw [e1] at g3
      exact q (.ref x) G3 H3 ((g2.trans gn).trans (g3.up gn.at_)) r3
theorem ev_cb {r : List V → Hp → VK → Prop} (h : EvA F ts σ G Rs) (hr : ∀ vs G1 H1, Ex G G1 → Ex G1 H1 → All Rs vs G1 → ∀ Q : VK, (∀ v G' H', Gr Fm.no G1 H1 G' H' → R.p v G' → Q v H') → r vs H1 Q) : Ev F (tCB r ts) σ G R := fun G1 H1 e a Q q =>
  h G1 H1 e a _ fun vs G2 H2 g2 rs => hr vs G2 H2 (e.trans g2.gg) g2.gh rs Q fun v G3 H3 g3 rv => q v G3 H3 (g2.trans (g3.up g2.at_)) rv
theorem ev_cbv {r : List V → Hp → VK → Prop} (h : EvA F ts σ G Rs) (hr : ∀ vs G1 H1, Ex G G1 → Ex G1 H1 → All Rs vs G1 → ∀ Q : VK, (∀ v, R.p v G1 → Q v H1) → r vs H1 Q) : Ev F (tCB r ts) σ G R :=
  ev_cb h fun vs G1 H1 e eh rs Q q => hr vs G1 H1 e eh rs Q fun v rv => q v G1 H1 (Gr.refl (At.no eh)) rv
/-! ### tests -/
theorem et_test {b : Bool} (h : Ev F te σ G (isB b)) : EvT F (tTest te) σ G (· = b) := fun G1 H1 e a Q q => h G1 H1 e a _ fun v G2 H2 g2 rv => ⟨b, rv, q b G2 H2 g2 rfl⟩
theorem et_B {b : Bool} (h : Ev F te σ G (isB b)) : EvT F (tB te) σ G (· = b) := fun G1 H1 e a Q q => h G1 H1 e a _ fun v G2 H2 g2 rv => ⟨b, rv, q b G2 H2 g2 rfl⟩
theorem et_testN (h : Ev F te σ G (rSome fun b => rIf (B b) (isB b))) : EvT F (tTest te) σ G B := fun G1 H1 e a Q q => h G1 H1 e a _ fun v G2 H2 g2 ⟨b, hb, rv⟩ => ⟨b, rv, q b G2 H2 g2 hb⟩
theorem et_and {a b : Bool} (h1 : EvT F t σ G (· = a)) (h2 : a = true → EvT F u σ G (· = b)) : EvT F (tAnd t u) σ G (· = (a && b)) := fun G1 H1 e at_ Q q => h1 G1 H1 e at_ _ fun c G2 H2 g2 hc => by
  subst hc
  cases c with
  | true =>
    show u σ H2 Q
    exact h2 rfl G2 H2 (e.trans g2.gg) g2.at_ Q fun d G3 H3 g3 hd => q d G3 H3 (g2.trans g3) hd
  | false =>
    show Q false H2
    exact q false G2 H2 g2 rfl
theorem et_or {a b : Bool} (h1 : EvT F t σ G (· = a)) (h2 : a = false → EvT F u σ G (· = b)) : EvT F (tOr t u) σ G (· = (a || b)) := fun G1 H1 e at_ Q q => h1 G1 H1 e at_ _ fun c G2 H2 g2 hc => by
  subst hc
  cases c with
  | true =>
    show Q true H2
    exact q true G2 H2 g2 rfl
  | false =>
    show u σ H2 Q
    exact h2 rfl G2 H2 (e.trans g2.gg) g2.at_ Q fun d G3 H3 g3 hd => q d G3 H3 (g2.trans g3) hd
theorem et_not {b : Bool} (h1 : EvT F t σ G (· = b)) : EvT F (tNot t) σ G (· = !b) := fun G1 H1 e at_ Q q => h1 G1 H1 e at_ _ fun c G2 H2 g2 hc => q _ G2 H2 g2 (by rw [hc])
theorem ev_andV {a b : Bool} (h1 : Ev F ta σ G (isB a)) (h2 : a = true → Ev F tb σ G (isB b)) : Ev F (tAndV ta tb) σ G (isB (a && b)) := fun G1 H1 e at_ Q q => h1 G1 H1 e at_ _ fun v G2 H2 g2 rv => ⟨a, rv, by
  cases a with
  | true =>
    show tb σ H2 Q
    exact h2 rfl G2 H2 (e.trans g2.gg) g2.at_ Q fun d G3 H3 g3 hd => q d G3 H3 (g2.trans g3) hd
  | false =>
    show Q (.bl false) H2
    exact q _ G2 H2 g2 rfl⟩
theorem ev_notV {a : Bool} (h1 : Ev F ta σ G (isB a)) : Ev F (tNotV ta) σ G (isB (!a)) := fun G1 H1 e at_ Q q => h1 G1 H1 e at_ _ fun v G2 H2 g2 rv => ⟨a, rv, q _ G2 H2 g2 rfl⟩
theorem ev_if (h : EvT F t σ G B) (h1 : B true → Ev F ta σ G R) (h2 : B false → Ev F tb σ G R) : Ev F (tIf t ta tb) σ G R := fun G1 H1 e at_ Q q => h G1 H1 e at_ _ fun c G2 H2 g2 hc => by
  cases c with
  | true =>
    show ta σ H2 Q
    exact h1 hc G2 H2 (e.trans g2.gg) g2.at_ Q fun d G3 H3 g3 hd => q d G3 H3 (g2.trans g3) hd
  | false =>
    show tb σ H2 Q
    exact h2 hc G2 H2 (e.trans g2.gg) g2.at_ Q fun d G3 H3 g3 hd => q d G3 H3 (g2.trans g3) hd
/-- a <= b <= c, a <= b < c of ints -/
theorem ev_chain {p1 p2 : Int → Int → Bool} {i j k : Int} (ha : Ev F ta σ G (isI i)) (hb : Ev F tb σ G (isI j)) (hc : p1 i j = true → Ev F tc σ G (isI k)) :
    Ev F (tChain (rI0 fun i j => .bl (p1 i j)) (rI0 fun i j => .bl (p2 i j)) ta tb tc) σ G (isB (p1 i j && p2 j k)) := fun G1 H1 e at_ Q q =>
  ha G1 H1 e at_ _ fun x G2 H2 g2 rx => hb G2 H2 (e.trans g2.gg) g2.at_ _ fun y G3 H3 g3 ry => ⟨i, j, rx, ry, p1 i j, rfl, by
    cases h : p1 i j with
    | true =>
      show tc σ H3 _
      exact hc h G3 H3 ((e.trans g2.gg).trans g3.gg) g3.at_ _ fun z G4 H4 g4 rz => ⟨j, k, ry, rz, q _ G4 H4 ((g2.trans g3).trans g4) (by rw [h, Bool.true_and]; rfl)⟩
    | false =>
      show Q (.bl false) H3
      exact q _ G3 H3 (g2.trans g3) (by rw [h, Bool.false_and]; rfl)⟩
end
end Ls

/-! LsLoop -/
/-! the layer: what is walked, comprehensions, statements, loops -/
namespace Ls
open PySem PySem.Spec PyProof.Rows L2
/-! ### what a loop walks: the i-th item stands for Ys[i] -/
structure Src (J : It) (Ys : List Rp) (G : Hp) : Prop where
  go : ∀ i H, i < Ys.length → Ex G H → J.go i H
  stop : ∀ H, Ex G H → J.stop Ys.length H
  yld : ∀ (i : Nat) (Y : Rp) (G1 H : Hp) (v : V) (H' : Hp), Ys[i]? = some Y → Ex G G1 → Ex G1 H → J.yld i H v H' → ∃ G', Gr Fm.no G1 H G' H' ∧ Y.p v G'
section
variable {K : PySem.W.Frag} {G : Hp} {a b : Addr} {vs us : List V} {Ys Zs : List Rp}
theorem sq_of {K : PySem.W.Frag} {H : Hp} {a : Addr} {xs : List V} (h : H a = some (.lst xs)) : SqL K H a xs := .inl (.inl h)
theorem st_of {K : PySem.W.Frag} {H : Hp} {a : Addr} {xs : List V} (h : H a = some (.tup xs)) : SqT K H a xs := .inl (.inl h)
theorem all_ix {i : Nat} (h : All Ys vs G) (hi : i < Ys.length) : ∃ x, vs[i]? = some x := ⟨_, List.getElem?_eq_getElem (by have e := h.len; omega)⟩
theorem src_list (e : G a = some (.lst vs)) (h : All Ys vs G) : Src (Itl K a) Ys G where
  go := fun i H hi eh => let ⟨x, hx⟩ := all_ix h hi; ⟨vs, x, sq_of (eh _ _ e), hx⟩
  stop := fun H eh => ⟨vs, sq_of (eh _ _ e), by rw [← h.len]; exact Nat.le_refl _⟩
  yld := fun i Y G1 H v H' hY e1 eh hy => by
    obtain ⟨rfl, f⟩ := hy
    obtain ⟨w, hw, rw'⟩ := h.get hY
    have q := f vs (sq_of (eh _ _ (e1 _ _ e)))
    rw [hw] at q
    have qe : w = _ := Option.some.inj q
    subst qe
    exact ⟨G1, Gr.refl (At.no eh), Y.mo w _ _ e1 rw'⟩
theorem src_tup (e : G a = some (.tup vs)) (h : All Ys vs G) : Src (Itt K a) Ys G where
  go := fun i H hi eh => let ⟨x, hx⟩ := all_ix h hi; ⟨vs, x, st_of (eh _ _ e), hx⟩
  stop := fun H eh => ⟨vs, st_of (eh _ _ e), by rw [← h.len]; exact Nat.le_refl _⟩
  yld := fun i Y G1 H v H' hY e1 eh hy => by
    obtain ⟨rfl, f⟩ := hy
    obtain ⟨w, hw, rw'⟩ := h.get hY
    have q := f vs (st_of (eh _ _ (e1 _ _ e)))
    rw [hw] at q
    have qe : w = _ := Option.some.inj q
    subst qe
    exact ⟨G1, Gr.refl (At.no eh), Y.mo w _ _ e1 rw'⟩
theorem src_range {lo : Int} {n : Nat} : Src (Itr lo n) ((List.range n).map fun i => isI (lo + (i : Nat))) G where
  go := fun i H hi _ => by
    rw [List.length_map, List.length_range] at hi
    exact hi
  stop := fun H _ => by
    rw [List.length_map, List.length_range]
    exact Nat.le_refl n
  yld := fun i Y G1 H v H' hY e1 eh hy => by
    obtain ⟨rfl, rfl⟩ := hy
    rw [List.getElem?_map] at hY
    cases q : (List.range n)[i]? with
    | none =>
      rw [q] at hY
      cases hY
    | some j =>
      rw [q] at hY
      have e2 : isI (lo + (j : Nat)) = Y := Option.some.inj hY
      have e3 : j = i := by
        obtain ⟨hlt, e4⟩ := List.getElem?_eq_some_iff.mp q
        rw [List.getElem_range] at e4
        exact e4.symm
      subst e3 e2
      exact ⟨G1, Gr.refl (At.no eh), rfl⟩
/-- enumerate(list): new pairs -/
def enumR (Ys : List Rp) : List Rp := Ys.zipIdx.map fun p => rTup [isN p.2, p.1]
theorem enumR_len : (enumR Ys).length = Ys.length := by
  unfold enumR
  rw [List.length_map, List.length_zipIdx]
theorem enumR_get {i : Nat} {Y : Rp} (h : (enumR Ys)[i]? = some Y) : ∃ R, Ys[i]? = some R ∧ Y = rTup [isN i, R] := by
  unfold enumR at h
  rw [List.getElem?_map, List.getElem?_zipIdx] at h
  cases q : Ys[i]? with
  | none =>
    rw [q] at h
    cases h
  | some R =>
    rw [q] at h
    have e : rTup [isN (0 + i), R] = Y := Option.some.inj h
    rw [Nat.zero_add] at e
    exact ⟨R, rfl, e.symm⟩
theorem src_enum (e : G a = some (.lst vs)) (h : All Ys vs G) : Src (Ite K a) (enumR Ys) G where
  go := fun i H hi eh => let ⟨x, hx⟩ := all_ix h (by rw [enumR_len] at hi; exact hi); ⟨vs, x, sq_of (eh _ _ e), hx⟩
  stop := fun H eh => ⟨vs, sq_of (eh _ _ e), by rw [enumR_len, ← h.len]; exact Nat.le_refl _⟩
  yld := fun i Y G1 H v H' hY e1 eh hy => by
    obtain ⟨R, hR, rfl⟩ := enumR_get hY
    obtain ⟨T, x, rfl, hT, rfl, f⟩ := hy
    obtain ⟨w, hw, rw'⟩ := h.get hR
    have q := f vs (sq_of (eh _ _ (e1 _ _ e)))
    rw [hw] at q
    have qe : w = _ := Option.some.inj q
    subst qe
    exact ⟨upd G1 T (.tup [.int (i : Nat), w]), Gr.new (At.no eh) hT, T, _, rfl, upd_same, .cons rfl (.cons (R.mo w _ _ (e1.trans (Ex.new (eh.back hT))) rw') .nil)⟩
/-- zip of two tuples -/
theorem src_zipT (ea : G a = some (.tup vs)) (ha : All Ys vs G) (eb : G b = some (.tup us)) (hb : All Zs us G) : Src (RZ.ItzT K a b) (List.zipWith (fun R S => rTup [R, S]) Ys Zs) G where
  go := fun i H hi eh => by
    rw [List.length_zipWith] at hi
    obtain ⟨x, hx⟩ := all_ix ha (i := i) (by omega)
    obtain ⟨y, hy⟩ := all_ix hb (i := i) (by omega)
    exact ⟨vs, us, x, y, st_of (eh _ _ ea), st_of (eh _ _ eb), hx, hy⟩
  stop := fun H eh => ⟨vs, us, st_of (eh _ _ ea), st_of (eh _ _ eb), by
    rw [List.length_zipWith, ← ha.len, ← hb.len]
    omega⟩
  yld := fun i Y G1 H v H' hY e1 eh hy => by
    obtain ⟨T, x, y, rfl, hT, rfl, f1, f2⟩ := hy
    rw [List.getElem?_zipWith] at hY
    cases qa : Ys[i]? with
    | none =>
      rw [qa] at hY
      cases hY
    | some R =>
      cases qb : Zs[i]? with
      | none =>
        rw [qa, qb] at hY
        cases hY
      | some S =>
        rw [qa, qb] at hY
        have eY : rTup [R, S] = Y := Option.some.inj hY
        subst eY
        obtain ⟨w, hw, r1⟩ := ha.get qa
        obtain ⟨z, hz, r2⟩ := hb.get qb
        have q1 := f1 vs (st_of (eh _ _ (e1 _ _ ea)))
        have q2 := f2 us (st_of (eh _ _ (e1 _ _ eb)))
        rw [hw] at q1
        rw [hz] at q2
        have qe1 : w = x := Option.some.inj q1
        have qe2 : z = y := Option.some.inj q2
        subst qe1 qe2
        have ex := e1.trans (Ex.new (o := .tup [w, z]) (eh.back hT))
        exact ⟨upd G1 T (.tup [w, z]), Gr.new (At.no eh) hT, T, _, rfl, upd_same, .cons (R.mo w _ _ ex r1) (.cons (S.mo z _ _ ex r2) .nil)⟩
end
def EvI (F : Fm) (wi : TI) (σ : L2.St) (G : Hp) (Ys : List Rp) : Prop := ∀ G1 H1, Ex G G1 → At F G1 H1 → ∀ R : It → Hp → Prop, (∀ J G' H', Gr F G1 H1 G' H' → Src J Ys G' → R J H') → wi σ H1 R
section
variable {F : Fm} {σ : L2.St} {G G' H H' : Hp} {R S : Rp} {Rs Ys Zs : List Rp} {ta tb te tc : TE} {t u : TT} {ts : TA} {K : PySem.W.Frag} {C : Addr} {x y z v : V} {wi : TI}
theorem ei_list (h : Ev F ta σ G (rLst Ys)) : EvI F (iList K ta) σ G Ys := fun G1 H1 e a Q q =>
  h G1 H1 e a _ fun v G2 H2 g ⟨p, vs, hv, hp, hs⟩ => ⟨p, hv, ⟨vs, sq_of (g.gh _ _ hp)⟩, q _ G2 H2 g (src_list hp hs)⟩
theorem ei_tup (h : Ev F ta σ G (rTup Ys)) : EvI F (iTup K ta) σ G Ys := fun G1 H1 e a Q q =>
  h G1 H1 e a _ fun v G2 H2 g ⟨p, vs, hv, hp, hs⟩ => ⟨p, hv, ⟨vs, st_of (g.gh _ _ hp)⟩, q _ G2 H2 g (src_tup hp hs)⟩
theorem ei_rng1 {n : Nat} (h : EvA F ts σ G [isN n]) (hn : n ≤ 1000000) : EvI F (iRng1 ts) σ G ((List.range n).map isN) := fun G1 H1 e a Q q =>
  h G1 H1 e a _ fun vs G2 H2 g hs => by
    cases hs with
    | cons r t =>
      cases t
      cases r
      refine ⟨(n : Int), rfl, by omega, by omega, q _ G2 H2 g ?_⟩
      have e1 := src_range (lo := 0) (n := n) (G := G2)
      have e2 : ((List.range n).map fun i => isI (0 + (i : Nat))) = (List.range n).map isN := by
        congr 1
        funext i
        rw [Int.zero_add]
        rfl
      rw [e2] at e1
      exact e1
theorem ei_rng2 {lo hi : Int} (h : EvA F ts σ G [isI lo, isI hi]) (hn : -1000000 ≤ lo ∧ lo ≤ 1000000 ∧ -1000000 ≤ hi ∧ hi ≤ 1000000) : EvI F (iRng2 ts) σ G ((List.range (hi - lo).toNat).map fun i => isI (lo + (i : Nat))) := fun G1 H1 e a Q q =>
  h G1 H1 e a _ fun vs G2 H2 g hs => by
    cases hs with
    | cons r t =>
      cases t with
      | cons r2 t =>
        cases t
        cases r
        cases r2
        exact ⟨lo, hi, rfl, ⟨by omega, by omega, by omega, by omega⟩, q _ G2 H2 g src_range⟩
theorem ei_enum (h : EvA F ts σ G [rLst Ys]) : EvI F (iEnum K ts) σ G (enumR Ys) := fun G1 H1 e a Q q =>
  h G1 H1 e a _ fun vs G2 H2 g hs => by
    cases hs with
    | cons r t =>
      cases t
      obtain ⟨p, xs, rfl, hp, hx⟩ := r
      exact ⟨p, xs, rfl, sq_of (g.gh _ _ hp), q _ G2 H2 g (src_enum hp hx)⟩
theorem ei_zipT (h : EvA F ts σ G [rTup Ys, rTup Zs]) : EvI F (RZ.iZipA K ts) σ G (List.zipWith (fun R S => rTup [R, S]) Ys Zs) := fun G1 H1 e a Q q =>
  h G1 H1 e a _ fun vs G2 H2 g hs => by
    cases hs with
    | cons r t =>
      cases t with
      | cons r2 t =>
        cases t
        obtain ⟨p, xs, rfl, hp, hx⟩ := r
        obtain ⟨p2, xs2, rfl, hp2, hx2⟩ := r2
        exact ⟨p, p2, xs, xs2, rfl, .inr ⟨st_of (g.gh _ _ hp), st_of (g.gh _ _ hp2), q _ G2 H2 g (src_zipT hp hx hp2 hx2)⟩⟩
/-! ### targets of two, three names -/
theorem g_two {j l : Nat} {Q : L2.St → Hp → Prop} (hv : (rTup [R, S]).p v G) (e : Ex G H) (k : ∀ x y, R.p x G → S.p y G → Q ((σ.set j (some x)).set l (some y)) H) : gTup K 2 (gCons (gName j) (gCons (gName l) gNil)) v σ H Q := by
  obtain ⟨p, vs, rfl, hp, hs⟩ := hv
  cases hs with
  | cons r t =>
    cases t with
    | cons r2 t =>
      cases t
      exact ⟨p, _, rfl, st_of (e _ _ hp), rfl, _, _, rfl, _, _, rfl, rfl, k _ _ r r2⟩
theorem g_three {j l m : Nat} {T : Rp} {Q : L2.St → Hp → Prop} (hv : (rTup [R, S, T]).p v G) (e : Ex G H) (k : ∀ x y z, R.p x G → S.p y G → T.p z G → Q (((σ.set j (some x)).set l (some y)).set m (some z)) H) : gTup K 3 (gCons (gName j) (gCons (gName l) (gCons (gName m) gNil))) v σ H Q := by
  obtain ⟨p, vs, rfl, hp, hs⟩ := hv
  cases hs with
  | cons r t =>
    cases t with
    | cons r2 t =>
      cases t with
      | cons r3 t =>
        cases t
        exact ⟨p, _, rfl, st_of (e _ _ hp), rfl, _, _, rfl, _, _, rfl, _, _, rfl, rfl, k _ _ _ r r2 r3⟩
/-! ### comprehensions -/
theorem et_yes : EvT F tYes σ G (· = true) := fun G1 H1 _ a Q q => q true G1 H1 (Gr.refl a) rfl
theorem ev_lc {α : Type} {g : TG} {tt : TT} {vs : List Nat} (xs : List α) (RA RB : α → Rp) (b : α → Bool) (hI : EvI F wi σ G (xs.map RA)) (hz : xs.length ≤ 1000000)
    (hs : ∀ x ∈ xs, ∀ v G1 H1, Ex G G1 → At F G1 H1 → (RA x).p v G1 → ∀ Q : L2.St → Hp → Prop, (∀ σ2, wipe σ2 vs = wipe σ vs → EvT F tt σ2 G1 (· = b x) → (b x = true → Ev F te σ2 G1 (RB x)) → Q σ2 H1) → g v (wipe σ vs) H1 Q) :
    Ev F (tLc wi g tt te vs) σ G (rLst ((xs.filter b).map RB)) := fun G0 H0 e0 a0 Q q => by
  refine hI G0 H0 e0 a0 _ fun J G1 H1 g1 src D hD => ?_
  have gD : Gr F G0 H0 G1 (upd H1 D (.lst [])) := g1.trans (Gr.newH g1.at_ hD)
  have nD0 : H0 D = none := by
    cases z : H0 D with
    | none => rfl
    | some o => exact absurd hD (g1.th D (by rw [z]; exact Option.some_ne_none _))
  have nS : ¬ F.S D := fun s => g1.at_.sh D s hD
  refine ⟨fun i m H => m = xs.length - i ∧ i ≤ xs.length ∧ ∃ G' us, Ex G1 G' ∧ Gr F G0 H0 G' H ∧ G' D = none ∧ H D = some (.lst us) ∧ All (((xs.take i).filter b).map RB) us G', ⟨xs.length, rfl, Nat.zero_le _, G1, [], Ex.refl _, gD, g1.gh.back hD, upd_same, .nil⟩, ?_⟩
  rintro i m H ⟨rfl, hi, G2, us, e2, g2, nD, hDl, hal⟩
  have hlen : (xs.map RA).length = xs.length := List.length_map _
  by_cases hlt : i < xs.length
  · refine .inr ⟨src.go i H (by rw [hlen]; exact hlt) (e2.trans g2.gh), fun H' => ∃ G' us, Ex G1 G' ∧ Gr F G0 H0 G' H' ∧ G' D = none ∧ H' D = some (.lst us) ∧ All (((xs.take (i + 1)).filter b).map RB) us G', fun H' p' => ⟨xs.length - (i + 1), by omega, rfl, hlt, p'⟩, fun v H' hy => ?_⟩
    have hx : xs[i]? = some xs[i] := List.getElem?_eq_getElem hlt
    obtain ⟨G3, g3, hv⟩ := src.yld i (RA xs[i]) G2 H v H' (by rw [List.getElem?_map, hx]; rfl) e2 g2.gh hy
    have g03 : Gr F G0 H0 G3 H' := g2.trans (g3.up g2.at_)
    have nD3 : G3 D = none := g3.fr D (by rw [hDl]; exact Option.some_ne_none _) nD
    have hD3 : H' D = some (.lst us) := g3.ex D _ hDl
    have ex3 : Ex G G3 := ((e0.trans g1.gg).trans e2).trans g3.gg
    refine hs xs[i] (List.getElem_mem hlt) v G3 H' ex3 g03.at_ hv _ fun σ2 hw ht hte => ⟨hw, ?_⟩
    refine ht G3 H' (Ex.refl _) g03.at_ _ fun c G4 H4 g4 hc => ?_
    have tk : xs.take (i + 1) = xs.take i ++ [xs[i]] := by rw [List.take_add_one, hx]; rfl
    have nD4 : G4 D = none := g4.fr D (by rw [hD3]; exact Option.some_ne_none _) nD3
    have hD4 : H4 D = some (.lst us) := g4.hh D _ nS hD3
    subst hc
    cases hb : b xs[i] with
    | true =>
      show te σ2 H4 _
      refine hte hb G4 H4 g4.gg g4.at_ _ fun w G5 H5 g5 hw5 => ?_
      have nD5 : G5 D = none := g5.fr D (by rw [hD4]; exact Option.some_ne_none _) nD4
      have hD5 : H5 D = some (.lst us) := g5.hh D _ nS hD4
      have hul : us.length ≤ i := by
        rw [← hal.len, List.length_map]
        exact Nat.le_trans (List.length_filter_le _ _) (by rw [List.length_take]; exact Nat.min_le_left _ _)
      refine ⟨us, hD5, Nat.lt_of_le_of_lt (Nat.le_trans hul (Nat.le_trans (Nat.le_of_lt hlt) hz)) (by rw [sizeLine_eq]; decide), G5, us ++ [w], (((e2.trans g3.gg).trans g4.gg).trans g5.gg), (((g03.trans g4).trans g5).wr nD0 nD5 nS), nD5, upd_same, ?_⟩
      rw [tk, List.filter_append, List.map_append, List.filter_cons, if_pos hb]
      exact (hal.mo (((g3.gg).trans g4.gg).trans g5.gg)).snoc hw5
    | false =>
      show ∃ G' us, _
      refine ⟨G4, us, ((e2.trans g3.gg).trans g4.gg), g03.trans g4, nD4, hD4, ?_⟩
      rw [tk, List.filter_append, List.map_append, List.filter_cons, if_neg (by rw [hb]; decide)]
      show All (_ ++ []) us G4
      rw [List.append_nil]
      exact hal.mo ((g3.gg).trans g4.gg)
  · have ei : i = xs.length := by omega
    subst ei
    rw [List.take_length] at hal
    refine .inl ⟨by
      have z := src.stop H (e2.trans g2.gh)
      rw [hlen] at z
      exact z, ?_⟩
    refine q (.ref D) (upd G2 D (.lst us)) H (g2.fix nD0 nD nS hDl) ⟨D, us, rfl, upd_same, hal.mo (Ex.new nD)⟩
/-- without a test, to one name -/
theorem ev_lcM {α : Type} {j : Nat} {vs : List Nat} (xs : List α) (RA RB : α → Rp) (hI : EvI F wi σ G (xs.map RA)) (hz : xs.length ≤ 1000000) (hw : ∀ v, wipe ((wipe σ vs).set j (some v)) vs = wipe σ vs)
    (hs : ∀ x ∈ xs, ∀ v G1, Ex G G1 → (RA x).p v G1 → Ev F te ((wipe σ vs).set j (some v)) G1 (RB x)) : Ev F (tLc wi (gName j) tYes te vs) σ G (rLst (xs.map RB)) := by
  have h := ev_lc (F := F) (te := te) (g := gName j) (tt := tYes) (vs := vs) (σ := σ) (G := G) xs RA RB (fun _ => true) hI hz fun x hx v G1 H1 e a r Q q => q _ (hw v) et_yes fun _ => hs x hx v G1 e r
  rw [List.filter_eq_self.mpr (fun _ _ => rfl)] at h
  exact h
/-- with a test, to one name -/
theorem ev_lcF {α : Type} {j : Nat} {tt : TT} {vs : List Nat} (xs : List α) (RA RB : α → Rp) (b : α → Bool) (hI : EvI F wi σ G (xs.map RA)) (hz : xs.length ≤ 1000000) (hw : ∀ v, wipe ((wipe σ vs).set j (some v)) vs = wipe σ vs)
    (ht : ∀ x ∈ xs, ∀ v G1, Ex G G1 → (RA x).p v G1 → EvT F tt ((wipe σ vs).set j (some v)) G1 (· = b x)) (hs : ∀ x ∈ xs, ∀ v G1, Ex G G1 → (RA x).p v G1 → b x = true → Ev F te ((wipe σ vs).set j (some v)) G1 (RB x)) : Ev F (tLc wi (gName j) tt te vs) σ G (rLst ((xs.filter b).map RB)) :=
  ev_lc xs RA RB b hI hz fun x hx v G1 H1 e a r Q q => q _ (hw v) (ht x hx v G1 e r) fun h => hs x hx v G1 e r h
/-! ### statements -/
variable {D : Ends} {tu tw : TS} {g : TG} {B : Bool → Prop}
theorem st_asg {i : Nat} (h : Ev F te σ G R) (a : At F G H) (k : ∀ v G' H', Gr F G H G' H' → R.p v G' → D.nx (σ.set i (some v)) H') : tAsg te (gName i) D σ H := h G H (Ex.refl _) a _ k
theorem st_asgG (h : Ev F te σ G R) (a : At F G H) (k : ∀ v G' H', Gr F G H G' H' → R.p v G' → g v σ H' D.nx) : tAsg te g D σ H := h G H (Ex.refl _) a _ k
theorem st_ret (h : Ev F te σ G R) (a : At F G H) (k : ∀ v G' H', Gr F G H G' H' → R.p v G' → D.rt v H') : tRet te D σ H := h G H (Ex.refl _) a _ k
theorem st_drop (h : Ev F te σ G R) (a : At F G H) (k : ∀ v G' H', Gr F G H G' H' → R.p v G' → D.nx σ H') : tDrop te D σ H := h G H (Ex.refl _) a _ k
theorem st_if {t : TT} (h : EvT F t σ G B) (a : At F G H) (h1 : ∀ G' H', Gr F G H G' H' → B true → tu D σ H') (h2 : ∀ G' H', Gr F G H G' H' → B false → tw D σ H') : tIfS t tu tw D σ H := h G H (Ex.refl _) a _ fun b G' H' g' hb => by
  cases b with
  | true =>
    show tu D σ H'
    exact h1 G' H' g' hb
  | false =>
    show tw D σ H'
    exact h2 G' H' g' hb
theorem st_par {i j : Nat} (h : EvA F ts σ G [R, S]) (a : At F G H) (k : ∀ v w G' H', Gr F G H G' H' → R.p v G' → S.p w G' → D.nx ((σ.set i (some v)).set j (some w)) H') : tPar i j ts D σ H := h G H (Ex.refl _) a _ fun vs G' H' g' hs => by
  cases hs with
  | cons r t =>
    cases t with
    | cons r2 t =>
      cases t
      exact ⟨_, _, rfl, k _ _ G' H' g' r r2⟩
/-- x = [..]: a list that will be written -/
theorem st_new {i : Nat} (h : EvA F ts σ G Rs) (hl : Rs.length ≤ 1000) (a : At F G H) (k : ∀ p vs G' H', Gr F G H G' H' → H p = none → G' p = none → ¬ F.S p → H' p = some (.lst vs) → All Rs vs G' → D.nx (σ.set i (some (.ref p))) H') : tAsg (tLst ts) (gName i) D σ H :=
  h G H (Ex.refl _) a _ fun vs G' H' g' hs => ⟨by rw [← hs.len]; exact Nat.le_of_lt (small1000 hl), fun p hp => k p vs G' _ (g'.trans (Gr.newH g'.at_ hp)) (by
    cases z : H p with
    | none => rfl
    | some o => exact absurd hp (g'.th p (by rw [z]; exact Option.some_ne_none _))) (g'.gh.back hp) (fun s => g'.at_.sh p s hp) upd_same hs⟩
/-- xs.append(e), xs written -/
theorem st_app {p : Addr} {us : List V} (hv : ∀ G' H', Ex G G' → At F G' H' → ta σ H' = fun Q => Q (.ref p) H') (h : Ev F te σ G R) (a : At F G H) (hp : H p = some (.lst us)) (nS : ¬ F.S p) (hz : us.length ≤ 1000000) (k : ∀ v G' H', Gr F G H G' H' → R.p v G' → H' p = some (.lst us) → D.nx σ (upd H' p (.lst (us ++ [v])))) :
    tDrop (tBM K "list" rAppend ta (tCons te tNil)) D σ H := by
  show ta σ H _
  rw [hv G H (Ex.refl _) a]
  refine ⟨.inl ⟨rfl, us, sq_of hp⟩, h G H (Ex.refl _) a _ fun v G' H' g' rv => ?_⟩
  have hp' : H' p = some (.lst us) := g'.hh p _ nS hp
  exact ⟨p, us, v, rfl, rfl, hp', Nat.lt_of_le_of_lt hz (by rw [sizeLine_eq]; decide), k v G' H' g' rv hp'⟩
/-- self.f = e, self written -/
theorem st_fld {f : Str} {x dx C : Addr} {vs : List (Str × V)} (hv : ∀ H', ta σ H' = fun Q => Q (.ref x) H') (c : Cls K C) (n : NoAttr K C f) (h : Ev F te σ G R) (a : At F G H) (hx : H x = some (.ins C dx vs)) (nS : ¬ F.S x) (hl : vs.length < 1000)
    (k : ∀ v G' H', Gr F G H G' H' → R.p v G' → H' x = some (.ins C dx vs) → D.nx σ (upd H' x (.ins C dx (putF f v vs)))) : sFld K ta te f D σ H := by
  refine h G H (Ex.refl _) a _ fun v G' H' g' rv => ?_
  show ta σ H' _
  rw [hv H']
  have hx' := g'.hh x _ nS hx
  exact ⟨x, C, dx, vs, rfl, hx', c, n, hl, k v G' H' g' rv hx'⟩
/-- a loop; Pv i σ G H: ahead of turn i -/
theorem st_for {tb : TS} (hI : EvI F wi σ G Ys) (a : At F G H) (Pv : Nat → L2.St → Hp → Hp → Prop) (h0 : ∀ G' H', Gr F G H G' H' → Pv 0 σ G' H') (hst : ∀ i σ' G' H' G1 H1, Pv i σ' G' H' → At F G' H' → Gr Fm.no G' H' G1 H1 → Pv i σ' G1 H1)
    (hs : ∀ (i : Nat) (Y : Rp) (v : V) σ' G1 H1 (N : L2.St → Hp → Prop), (∀ σ3 G3 H3, Ex G1 G3 → At F G3 H3 → Pv (i + 1) σ3 G3 H3 → N σ3 H3) → Ys[i]? = some Y → Ex G G1 → At F G1 H1 → Y.p v G1 → Pv i σ' G1 H1 →
      g v σ' H1 fun σ2 H2 => tb { D with nx := N, ct := N, bk := D.nx } σ2 H2)
    (hd : ∀ σ' G' H', Ex G G' → At F G' H' → Pv Ys.length σ' G' H' → D.nx σ' H') : tFor wi g tb D σ H := by
  refine hI G H (Ex.refl _) a _ fun J G0 H0 g0 src => ?_
  refine ⟨fun i m σ' H' => m = Ys.length - i ∧ i ≤ Ys.length ∧ ∃ G', Ex G0 G' ∧ At F G' H' ∧ Pv i σ' G' H', ⟨Ys.length, rfl, Nat.zero_le _, G0, Ex.refl _, g0.at_, h0 G0 H0 g0⟩, ?_⟩
  rintro i m σ' H' ⟨rfl, hi, G', e', a', p⟩
  by_cases hlt : i < Ys.length
  · have hY : Ys[i]? = some Ys[i] := List.getElem?_eq_getElem hlt
    refine .inr ⟨src.go i H' hlt (e'.trans a'.gh), fun σ3 H3 => ∃ G3, Ex G0 G3 ∧ At F G3 H3 ∧ Pv (i + 1) σ3 G3 H3, fun σ3 H3 p3 => ⟨Ys.length - (i + 1), by omega, rfl, hlt, p3⟩, fun v H1 hy => ?_⟩
    obtain ⟨G1, g1, rv⟩ := src.yld i Ys[i] G' H' v H1 hY e' a'.gh hy
    have g1F := g1.up a'
    have e1 : Ex G0 G1 := e'.trans g1.gg
    exact hs i Ys[i] v σ' G1 H1 _ (fun σ3 G3 H3 x3 a3 p3 => ⟨G3, e1.trans x3, a3, p3⟩) hY (g0.gg.trans e1) g1F.at_ rv (hst i σ' G' H' G1 H1 p a' g1)
  · have ei : i = Ys.length := by omega
    subst ei
    exact .inl ⟨src.stop H' (e'.trans a'.gh), hd σ' G' H' (g0.gg.trans e') a' p⟩
end
end Ls

/-! LsFacts -/
namespace Ls
open PySem PySem.Spec PyProof.Rows L2
structure Tx (K : PySem.W.Frag) (mg : Str → Option Value) : Prop where
  says : SaysX K
  here : ∃ h : Heap, K.In h ∧ h.Ns mainGlobals mg
section
variable {K : PySem.W.Frag} {mg : Str → Option Value}
theorem Tx.glo (T : Tx K mg) {x : Str} (c : (He.Fa.glo x).ok K = true) : mg x = some (.ref (He.ga K x)) := let ⟨_, X, G⟩ := T.here; He.glo_ok X G c
theorem Tx.free (T : Tx K mg) {x : Str} (c : (He.Fa.free x).ok K = true) : mg x = none := let ⟨_, X, G⟩ := T.here; He.free_ok X G c
theorem Tx.int (T : Tx K mg) {x : Str} {i : Int} (c : (He.Fa.int x i).ok K = true) : ∃ u, mg x = some u ∧ RelV (.int i) u := let ⟨_, X, G⟩ := T.here; let ⟨t, e⟩ := He.int_ok X G c; ⟨_, e, t, rfl⟩
variable (T : Tx K mg)
include T
theorem g_check_commands : mg "check_commands" = some (.ref (He.ga K "check_commands")) := T.glo (T.says.fact 0 rfl)
theorem g_stores : mg "stores" = some (.ref (He.ga K "stores")) := T.glo (T.says.fact 1 rfl)
theorem g_counted : mg "counted" = some (.ref (He.ga K "counted")) := T.glo (T.says.fact 2 rfl)
theorem g_made : mg "made" = some (.ref (He.ga K "made")) := T.glo (T.says.fact 3 rfl)
theorem g_boxes_of : mg "boxes_of" = some (.ref (He.ga K "boxes_of")) := T.glo (T.says.fact 4 rfl)
theorem g_boxes : mg "boxes" = some (.ref (He.ga K "boxes")) := T.glo (T.says.fact 5 rfl)
theorem g_check_image : mg "check_image" = some (.ref (He.ga K "check_image")) := T.glo (T.says.fact 6 rfl)
theorem g_count : mg "count" = some (.ref (He.ga K "count")) := T.glo (T.says.fact 7 rfl)
theorem g_image_at : mg "image_at" = some (.ref (He.ga K "image_at")) := T.glo (T.says.fact 8 rfl)
theorem g_place_of : mg "place_of" = some (.ref (He.ga K "place_of")) := T.glo (T.says.fact 9 rfl)
theorem g_line_states : mg "line_states" = some (.ref (He.ga K "line_states")) := T.glo (T.says.fact 10 rfl)
theorem g_blank : mg "blank" = some (.ref (He.ga K "blank")) := T.glo (T.says.fact 11 rfl)
theorem g_states_of : mg "states_of" = some (.ref (He.ga K "states_of")) := T.glo (T.says.fact 12 rfl)
theorem g_words_of : mg "words_of" = some (.ref (He.ga K "words_of")) := T.glo (T.says.fact 13 rfl)
theorem g_contents : mg "contents" = some (.ref (He.ga K "contents")) := T.glo (T.says.fact 14 rfl)
theorem g_check_conditions : mg "check_conditions" = some (.ref (He.ga K "check_conditions")) := T.glo (T.says.fact 15 rfl)
theorem g_fitting : mg "fitting" = some (.ref (He.ga K "fitting")) := T.glo (T.says.fact 16 rfl)
theorem g_least_in : mg "least_in" = some (.ref (He.ga K "least_in")) := T.glo (T.says.fact 17 rfl)
theorem g_broken : mg "broken" = some (.ref (He.ga K "broken")) := T.glo (T.says.fact 18 rfl)
theorem g_check_words : mg "check_words" = some (.ref (He.ga K "check_words")) := T.glo (T.says.fact 19 rfl)
theorem g_written : mg "written" = some (.ref (He.ga K "written")) := T.glo (T.says.fact 20 rfl)
theorem g_recovered : mg "recovered" = some (.ref (He.ga K "recovered")) := T.glo (T.says.fact 21 rfl)
theorem g_settle : mg "settle" = some (.ref (He.ga K "settle")) := T.glo (T.says.fact 22 rfl)
theorem g_check : mg "check" = some (.ref (He.ga K "check")) := T.glo (T.says.fact 23 rfl)
theorem g__law_cell : mg "_law_cell" = some (.ref (He.ga K "_law_cell")) := T.glo (T.says.fact 24 rfl)
theorem g__law_rng : mg "_law_rng" = some (.ref (He.ga K "_law_rng")) := T.glo (T.says.fact 25 rfl)
theorem g__law_draw : mg "_law_draw" = some (.ref (He.ga K "_law_draw")) := T.glo (T.says.fact 26 rfl)
theorem g__law_pick : mg "_law_pick" = some (.ref (He.ga K "_law_pick")) := T.glo (T.says.fact 27 rfl)
theorem g__law_random_sizes : mg "_law_random_sizes" = some (.ref (He.ga K "_law_random_sizes")) := T.glo (T.says.fact 28 rfl)
theorem g__law_random_command : mg "_law_random_command" = some (.ref (He.ga K "_law_random_command")) := T.glo (T.says.fact 29 rfl)
theorem g__law_random_commands : mg "_law_random_commands" = some (.ref (He.ga K "_law_random_commands")) := T.glo (T.says.fact 30 rfl)
theorem g__law_command : mg "_law_command" = some (.ref (He.ga K "_law_command")) := T.glo (T.says.fact 31 rfl)
theorem g__law_program : mg "_law_program" = some (.ref (He.ga K "_law_program")) := T.glo (T.says.fact 32 rfl)
theorem g__law_words : mg "_law_words" = some (.ref (He.ga K "_law_words")) := T.glo (T.says.fact 33 rfl)
theorem g__law_random_conditions : mg "_law_random_conditions" = some (.ref (He.ga K "_law_random_conditions")) := T.glo (T.says.fact 34 rfl)
theorem g__law_wide_conditions : mg "_law_wide_conditions" = some (.ref (He.ga K "_law_wide_conditions")) := T.glo (T.says.fact 35 rfl)
theorem g__law_is : mg "_law_is" = some (.ref (He.ga K "_law_is")) := T.glo (T.says.fact 36 rfl)
theorem g__law_meets : mg "_law_meets" = some (.ref (He.ga K "_law_meets")) := T.glo (T.says.fact 37 rfl)
theorem g__law_random_moves : mg "_law_random_moves" = some (.ref (He.ga K "_law_random_moves")) := T.glo (T.says.fact 38 rfl)
theorem g__law_random_steps : mg "_law_random_steps" = some (.ref (He.ga K "_law_random_steps")) := T.glo (T.says.fact 39 rfl)
theorem g__law_recovery : mg "_law_recovery" = some (.ref (He.ga K "_law_recovery")) := T.glo (T.says.fact 40 rfl)
theorem g__law_done : mg "_law_done" = some (.ref (He.ga K "_law_done")) := T.glo (T.says.fact 41 rfl)
theorem g__law_all_words : mg "_law_all_words" = some (.ref (He.ga K "_law_all_words")) := T.glo (T.says.fact 42 rfl)
theorem g__law_idle_holds : mg "_law_idle_holds" = some (.ref (He.ga K "_law_idle_holds")) := T.glo (T.says.fact 43 rfl)
theorem g__law_cut_ends : mg "_law_cut_ends" = some (.ref (He.ga K "_law_cut_ends")) := T.glo (T.says.fact 44 rfl)
theorem g__law_failed_holds : mg "_law_failed_holds" = some (.ref (He.ga K "_law_failed_holds")) := T.glo (T.says.fact 45 rfl)
theorem g__law_good_holds : mg "_law_good_holds" = some (.ref (He.ga K "_law_good_holds")) := T.glo (T.says.fact 46 rfl)
theorem g__law_check_holds : mg "_law_check_holds" = some (.ref (He.ga K "_law_check_holds")) := T.glo (T.says.fact 47 rfl)
theorem g_law : mg "law" = some (.ref (He.ga K "law")) := T.glo (T.says.fact 48 rfl)
theorem g_Memory : mg "Memory" = some (.ref (He.ga K "Memory")) := T.glo (T.says.fact 49 rfl)
theorem c_Memory : Cls K (He.ga K "Memory") := He.cls_ok (T.says.fact 50 rfl)
theorem k_Memory : PySem.W.keepIn K (.ref (He.ga K "Memory")) = true := He.keep_ok (T.says.fact 51 rfl)
theorem n_Memory_sizes : NoAttr K (He.ga K "Memory") "sizes" := He.noat_ok (T.says.fact 52 rfl)
theorem m_Memory_init : Meth K (He.ga K "Memory") "__init__" (He.ma K (He.ga K "Memory") "__init__") := He.meth_ok (T.says.fact 53 rfl)
theorem m_Memory_kind : Meth K (He.ga K "Memory") "kind" (He.ma K (He.ga K "Memory") "kind") := He.meth_ok (T.says.fact 54 rfl)
theorem m_Memory_facts : Meth K (He.ga K "Memory") "facts" (He.ma K (He.ga K "Memory") "facts") := He.meth_ok (T.says.fact 55 rfl)
theorem m_Memory_check_line : Meth K (He.ga K "Memory") "check_line" (He.ma K (He.ga K "Memory") "check_line") := He.meth_ok (T.says.fact 56 rfl)
theorem m_Memory_check_word : Meth K (He.ga K "Memory") "check_word" (He.ma K (He.ga K "Memory") "check_word") := He.meth_ok (T.says.fact 57 rfl)
theorem m_Memory_zeros : Meth K (He.ga K "Memory") "zeros" (He.ma K (He.ga K "Memory") "zeros") := He.meth_ok (T.says.fact 58 rfl)
theorem m_Memory_eq : Meth K (He.ga K "Memory") "__eq__" (He.ma K (He.ga K "Memory") "__eq__") := He.meth_ok (T.says.fact 59 rfl)
theorem mk_Memory : Mk K (He.ga K "Memory") (He.ma K (He.ga K "Memory") "__init__") := He.mkr_ok (T.says.fact 60 rfl)
theorem g_Store : mg "Store" = some (.ref (He.ga K "Store")) := T.glo (T.says.fact 61 rfl)
theorem c_Store : Cls K (He.ga K "Store") := He.cls_ok (T.says.fact 62 rfl)
theorem k_Store : PySem.W.keepIn K (.ref (He.ga K "Store")) = true := He.keep_ok (T.says.fact 63 rfl)
theorem n_Store_line : NoAttr K (He.ga K "Store") "line" := He.noat_ok (T.says.fact 64 rfl)
theorem n_Store_word : NoAttr K (He.ga K "Store") "word" := He.noat_ok (T.says.fact 65 rfl)
theorem n_Store_number : NoAttr K (He.ga K "Store") "number" := He.noat_ok (T.says.fact 66 rfl)
theorem m_Store_init : Meth K (He.ga K "Store") "__init__" (He.ma K (He.ga K "Store") "__init__") := He.meth_ok (T.says.fact 67 rfl)
theorem m_Store_check : Meth K (He.ga K "Store") "check" (He.ma K (He.ga K "Store") "check") := He.meth_ok (T.says.fact 68 rfl)
theorem mk_Store : Mk K (He.ga K "Store") (He.ma K (He.ga K "Store") "__init__") := He.mkr_ok (T.says.fact 69 rfl)
theorem g_Flush : mg "Flush" = some (.ref (He.ga K "Flush")) := T.glo (T.says.fact 70 rfl)
theorem c_Flush : Cls K (He.ga K "Flush") := He.cls_ok (T.says.fact 71 rfl)
theorem k_Flush : PySem.W.keepIn K (.ref (He.ga K "Flush")) = true := He.keep_ok (T.says.fact 72 rfl)
theorem n_Flush_line : NoAttr K (He.ga K "Flush") "line" := He.noat_ok (T.says.fact 73 rfl)
theorem m_Flush_init : Meth K (He.ga K "Flush") "__init__" (He.ma K (He.ga K "Flush") "__init__") := He.meth_ok (T.says.fact 74 rfl)
theorem m_Flush_check : Meth K (He.ga K "Flush") "check" (He.ma K (He.ga K "Flush") "check") := He.meth_ok (T.says.fact 75 rfl)
theorem mk_Flush : Mk K (He.ga K "Flush") (He.ma K (He.ga K "Flush") "__init__") := He.mkr_ok (T.says.fact 76 rfl)
theorem g_Fence : mg "Fence" = some (.ref (He.ga K "Fence")) := T.glo (T.says.fact 77 rfl)
theorem c_Fence : Cls K (He.ga K "Fence") := He.cls_ok (T.says.fact 78 rfl)
theorem k_Fence : PySem.W.keepIn K (.ref (He.ga K "Fence")) = true := He.keep_ok (T.says.fact 79 rfl)
theorem m_Fence_check : Meth K (He.ga K "Fence") "check" (He.ma K (He.ga K "Fence") "check") := He.meth_ok (T.says.fact 80 rfl)
theorem g_Program : mg "Program" = some (.ref (He.ga K "Program")) := T.glo (T.says.fact 81 rfl)
theorem c_Program : Cls K (He.ga K "Program") := He.cls_ok (T.says.fact 82 rfl)
theorem k_Program : PySem.W.keepIn K (.ref (He.ga K "Program")) = true := He.keep_ok (T.says.fact 83 rfl)
theorem n_Program_memory : NoAttr K (He.ga K "Program") "memory" := He.noat_ok (T.says.fact 84 rfl)
theorem n_Program_commands : NoAttr K (He.ga K "Program") "commands" := He.noat_ok (T.says.fact 85 rfl)
theorem m_Program_init : Meth K (He.ga K "Program") "__init__" (He.ma K (He.ga K "Program") "__init__") := He.meth_ok (T.says.fact 86 rfl)
theorem mk_Program : Mk K (He.ga K "Program") (He.ma K (He.ga K "Program") "__init__") := He.mkr_ok (T.says.fact 87 rfl)
theorem g_Counter : mg "Counter" = some (.ref (He.ga K "Counter")) := T.glo (T.says.fact 88 rfl)
theorem c_Counter : Cls K (He.ga K "Counter") := He.cls_ok (T.says.fact 89 rfl)
theorem k_Counter : PySem.W.keepIn K (.ref (He.ga K "Counter")) = true := He.keep_ok (T.says.fact 90 rfl)
theorem n_Counter_made : NoAttr K (He.ga K "Counter") "made" := He.noat_ok (T.says.fact 91 rfl)
theorem n_Counter_flushed : NoAttr K (He.ga K "Counter") "flushed" := He.noat_ok (T.says.fact 92 rfl)
theorem n_Counter_sure : NoAttr K (He.ga K "Counter") "sure" := He.noat_ok (T.says.fact 93 rfl)
theorem m_Counter_init : Meth K (He.ga K "Counter") "__init__" (He.ma K (He.ga K "Counter") "__init__") := He.meth_ok (T.says.fact 94 rfl)
theorem m_Counter_do_command : Meth K (He.ga K "Counter") "do_command" (He.ma K (He.ga K "Counter") "do_command") := He.meth_ok (T.says.fact 95 rfl)
theorem mk_Counter : Mk K (He.ga K "Counter") (He.ma K (He.ga K "Counter") "__init__") := He.mkr_ok (T.says.fact 96 rfl)
theorem g_Box : mg "Box" = some (.ref (He.ga K "Box")) := T.glo (T.says.fact 97 rfl)
theorem c_Box : Cls K (He.ga K "Box") := He.cls_ok (T.says.fact 98 rfl)
theorem k_Box : PySem.W.keepIn K (.ref (He.ga K "Box")) = true := He.keep_ok (T.says.fact 99 rfl)
theorem n_Box_time : NoAttr K (He.ga K "Box") "time" := He.noat_ok (T.says.fact 100 rfl)
theorem n_Box_low : NoAttr K (He.ga K "Box") "low" := He.noat_ok (T.says.fact 101 rfl)
theorem n_Box_high : NoAttr K (He.ga K "Box") "high" := He.noat_ok (T.says.fact 102 rfl)
theorem m_Box_init : Meth K (He.ga K "Box") "__init__" (He.ma K (He.ga K "Box") "__init__") := He.meth_ok (T.says.fact 103 rfl)
theorem m_Box_size : Meth K (He.ga K "Box") "size" (He.ma K (He.ga K "Box") "size") := He.meth_ok (T.says.fact 104 rfl)
theorem m_Box_contains : Meth K (He.ga K "Box") "__contains__" (He.ma K (He.ga K "Box") "__contains__") := He.meth_ok (T.says.fact 105 rfl)
theorem m_Box_image_at : Meth K (He.ga K "Box") "image_at" (He.ma K (He.ga K "Box") "image_at") := He.meth_ok (T.says.fact 106 rfl)
theorem m_Box_place_of : Meth K (He.ga K "Box") "place_of" (He.ma K (He.ga K "Box") "place_of") := He.meth_ok (T.says.fact 107 rfl)
theorem mk_Box : Mk K (He.ga K "Box") (He.ma K (He.ga K "Box") "__init__") := He.mkr_ok (T.says.fact 108 rfl)
theorem g_Is : mg "Is" = some (.ref (He.ga K "Is")) := T.glo (T.says.fact 109 rfl)
theorem c_Is : Cls K (He.ga K "Is") := He.cls_ok (T.says.fact 110 rfl)
theorem k_Is : PySem.W.keepIn K (.ref (He.ga K "Is")) = true := He.keep_ok (T.says.fact 111 rfl)
theorem n_Is_line : NoAttr K (He.ga K "Is") "line" := He.noat_ok (T.says.fact 112 rfl)
theorem n_Is_word : NoAttr K (He.ga K "Is") "word" := He.noat_ok (T.says.fact 113 rfl)
theorem n_Is_numbers : NoAttr K (He.ga K "Is") "numbers" := He.noat_ok (T.says.fact 114 rfl)
theorem m_Is_init : Meth K (He.ga K "Is") "__init__" (He.ma K (He.ga K "Is") "__init__") := He.meth_ok (T.says.fact 115 rfl)
theorem m_Is_is_met : Meth K (He.ga K "Is") "is_met" (He.ma K (He.ga K "Is") "is_met") := He.meth_ok (T.says.fact 116 rfl)
theorem mk_Is : Mk K (He.ga K "Is") (He.ma K (He.ga K "Is") "__init__") := He.mkr_ok (T.says.fact 117 rfl)
theorem g_Copy : mg "Copy" = some (.ref (He.ga K "Copy")) := T.glo (T.says.fact 118 rfl)
theorem c_Copy : Cls K (He.ga K "Copy") := He.cls_ok (T.says.fact 119 rfl)
theorem k_Copy : PySem.W.keepIn K (.ref (He.ga K "Copy")) = true := He.keep_ok (T.says.fact 120 rfl)
theorem n_Copy_line : NoAttr K (He.ga K "Copy") "line" := He.noat_ok (T.says.fact 121 rfl)
theorem n_Copy_word : NoAttr K (He.ga K "Copy") "word" := He.noat_ok (T.says.fact 122 rfl)
theorem n_Copy_from_line : NoAttr K (He.ga K "Copy") "from_line" := He.noat_ok (T.says.fact 123 rfl)
theorem n_Copy_from_word : NoAttr K (He.ga K "Copy") "from_word" := He.noat_ok (T.says.fact 124 rfl)
theorem m_Copy_init : Meth K (He.ga K "Copy") "__init__" (He.ma K (He.ga K "Copy") "__init__") := He.meth_ok (T.says.fact 125 rfl)
theorem m_Copy_check : Meth K (He.ga K "Copy") "check" (He.ma K (He.ga K "Copy") "check") := He.meth_ok (T.says.fact 126 rfl)
theorem mk_Copy : Mk K (He.ga K "Copy") (He.ma K (He.ga K "Copy") "__init__") := He.mkr_ok (T.says.fact 127 rfl)
theorem g_Step : mg "Step" = some (.ref (He.ga K "Step")) := T.glo (T.says.fact 128 rfl)
theorem c_Step : Cls K (He.ga K "Step") := He.cls_ok (T.says.fact 129 rfl)
theorem k_Step : PySem.W.keepIn K (.ref (He.ga K "Step")) = true := He.keep_ok (T.says.fact 130 rfl)
theorem n_Step_conditions : NoAttr K (He.ga K "Step") "conditions" := He.noat_ok (T.says.fact 131 rfl)
theorem n_Step_moves : NoAttr K (He.ga K "Step") "moves" := He.noat_ok (T.says.fact 132 rfl)
theorem m_Step_init : Meth K (He.ga K "Step") "__init__" (He.ma K (He.ga K "Step") "__init__") := He.meth_ok (T.says.fact 133 rfl)
theorem mk_Step : Mk K (He.ga K "Step") (He.ma K (He.ga K "Step") "__init__") := He.mkr_ok (T.says.fact 134 rfl)
theorem g_Recovery : mg "Recovery" = some (.ref (He.ga K "Recovery")) := T.glo (T.says.fact 135 rfl)
theorem c_Recovery : Cls K (He.ga K "Recovery") := He.cls_ok (T.says.fact 136 rfl)
theorem k_Recovery : PySem.W.keepIn K (.ref (He.ga K "Recovery")) = true := He.keep_ok (T.says.fact 137 rfl)
theorem n_Recovery_memory : NoAttr K (He.ga K "Recovery") "memory" := He.noat_ok (T.says.fact 138 rfl)
theorem n_Recovery_steps : NoAttr K (He.ga K "Recovery") "steps" := He.noat_ok (T.says.fact 139 rfl)
theorem m_Recovery_init : Meth K (He.ga K "Recovery") "__init__" (He.ma K (He.ga K "Recovery") "__init__") := He.meth_ok (T.says.fact 140 rfl)
theorem mk_Recovery : Mk K (He.ga K "Recovery") (He.ma K (He.ga K "Recovery") "__init__") := He.mkr_ok (T.says.fact 141 rfl)
theorem g_Failed : mg "Failed" = some (.ref (He.ga K "Failed")) := T.glo (T.says.fact 142 rfl)
theorem c_Failed : Cls K (He.ga K "Failed") := He.cls_ok (T.says.fact 143 rfl)
theorem k_Failed : PySem.W.keepIn K (.ref (He.ga K "Failed")) = true := He.keep_ok (T.says.fact 144 rfl)
theorem n_Failed_image : NoAttr K (He.ga K "Failed") "image" := He.noat_ok (T.says.fact 145 rfl)
theorem n_Failed_second : NoAttr K (He.ga K "Failed") "second" := He.noat_ok (T.says.fact 146 rfl)
theorem n_Failed_words : NoAttr K (He.ga K "Failed") "words" := He.noat_ok (T.says.fact 147 rfl)
theorem m_Failed_init : Meth K (He.ga K "Failed") "__init__" (He.ma K (He.ga K "Failed") "__init__") := He.meth_ok (T.says.fact 148 rfl)
theorem mk_Failed : Mk K (He.ga K "Failed") (He.ma K (He.ga K "Failed") "__init__") := He.mkr_ok (T.says.fact 149 rfl)
theorem g_Checker : mg "Checker" = some (.ref (He.ga K "Checker")) := T.glo (T.says.fact 150 rfl)
theorem c_Checker : Cls K (He.ga K "Checker") := He.cls_ok (T.says.fact 151 rfl)
theorem k_Checker : PySem.W.keepIn K (.ref (He.ga K "Checker")) = true := He.keep_ok (T.says.fact 152 rfl)
theorem n_Checker_recovery : NoAttr K (He.ga K "Checker") "recovery" := He.noat_ok (T.says.fact 153 rfl)
theorem n_Checker_good : NoAttr K (He.ga K "Checker") "good" := He.noat_ok (T.says.fact 154 rfl)
theorem n_Checker_known : NoAttr K (He.ga K "Checker") "known" := He.noat_ok (T.says.fact 155 rfl)
theorem m_Checker_init : Meth K (He.ga K "Checker") "__init__" (He.ma K (He.ga K "Checker") "__init__") := He.meth_ok (T.says.fact 156 rfl)
theorem m_Checker_fault : Meth K (He.ga K "Checker") "fault" (He.ma K (He.ga K "Checker") "fault") := He.meth_ok (T.says.fact 157 rfl)
theorem m_Checker_looked_for : Meth K (He.ga K "Checker") "looked_for" (He.ma K (He.ga K "Checker") "looked_for") := He.meth_ok (T.says.fact 158 rfl)
theorem mk_Checker : Mk K (He.ga K "Checker") (He.ma K (He.ga K "Checker") "__init__") := He.mkr_ok (T.says.fact 159 rfl)
theorem f_len : mg "len" = none := T.free (T.says.fact 160 rfl)
theorem f_tuple : mg "tuple" = none := T.free (T.says.fact 161 rfl)
theorem f_sum : mg "sum" = none := T.free (T.says.fact 162 rfl)
theorem f_zip : mg "zip" = none := T.free (T.says.fact 163 rfl)
theorem f_list : mg "list" = none := T.free (T.says.fact 164 rfl)
theorem f_enumerate : mg "enumerate" = none := T.free (T.says.fact 165 rfl)
theorem f_isinstance : mg "isinstance" = none := T.free (T.says.fact 166 rfl)
theorem f_sorted : mg "sorted" = none := T.free (T.says.fact 167 rfl)
theorem f_set : mg "set" = none := T.free (T.says.fact 168 rfl)
theorem f_range : mg "range" = none := T.free (T.says.fact 169 rfl)
theorem f_all : mg "all" = none := T.free (T.says.fact 170 rfl)
theorem f_min : mg "min" = none := T.free (T.says.fact 171 rfl)
theorem f_abs : mg "abs" = none := T.free (T.says.fact 172 rfl)
theorem i_MOST_LINES : ∃ u, mg "MOST_LINES" = some u ∧ RelV (.int 6) u := T.int (T.says.fact 173 rfl)
theorem i_MOST_WORDS : ∃ u, mg "MOST_WORDS" = some u ∧ RelV (.int 4) u := T.int (T.says.fact 174 rfl)
theorem i_MOST_COMMANDS : ∃ u, mg "MOST_COMMANDS" = some u ∧ RelV (.int 200) u := T.int (T.says.fact 175 rfl)
theorem i_MOST_STEPS : ∃ u, mg "MOST_STEPS" = some u ∧ RelV (.int 12) u := T.int (T.says.fact 176 rfl)
theorem i_MOST_MOVES : ∃ u, mg "MOST_MOVES" = some u ∧ RelV (.int 8) u := T.int (T.says.fact 177 rfl)
theorem i_MOST_IMAGES : ∃ u, mg "MOST_IMAGES" = some u ∧ RelV (.int 300) u := T.int (T.says.fact 178 rfl)
theorem g_Thing : mg "Thing" = some (.ref (He.ga K "Thing")) := T.glo (T.says.fact 179 rfl)
theorem d_check_commands_at : ∃ fd, FunD K "check_commands" "check_commands" (defArgs s_check_commands) (defBody s_check_commands) (defScope s_check_commands) [] [] (He.fAd K ("check_commands", none)) fd := T.says.def_ 0 (d := d_check_commands) rfl
theorem d_stores_at : ∃ fd, FunD K "stores" "stores" (defArgs s_stores) (defBody s_stores) (defScope s_stores) [] [] (He.fAd K ("stores", none)) fd := T.says.def_ 1 (d := d_stores) rfl
theorem d_counted_at : ∃ fd, FunD K "counted" "counted" (defArgs s_counted) (defBody s_counted) (defScope s_counted) [] [] (He.fAd K ("counted", none)) fd := T.says.def_ 2 (d := d_counted) rfl
theorem d_made_at : ∃ fd, FunD K "made" "made" (defArgs s_made) (defBody s_made) (defScope s_made) [] [] (He.fAd K ("made", none)) fd := T.says.def_ 3 (d := d_made) rfl
theorem d_boxes_of_at : ∃ fd, FunD K "boxes_of" "boxes_of" (defArgs s_boxes_of) (defBody s_boxes_of) (defScope s_boxes_of) [] [] (He.fAd K ("boxes_of", none)) fd := T.says.def_ 4 (d := d_boxes_of) rfl
theorem d_boxes_at : ∃ fd, FunD K "boxes" "boxes" (defArgs s_boxes) (defBody s_boxes) (defScope s_boxes) [] [] (He.fAd K ("boxes", none)) fd := T.says.def_ 5 (d := d_boxes) rfl
theorem d_check_image_at : ∃ fd, FunD K "check_image" "check_image" (defArgs s_check_image) (defBody s_check_image) (defScope s_check_image) [] [] (He.fAd K ("check_image", none)) fd := T.says.def_ 6 (d := d_check_image) rfl
theorem d_count_at : ∃ fd, FunD K "count" "count" (defArgs s_count) (defBody s_count) (defScope s_count) [] [] (He.fAd K ("count", none)) fd := T.says.def_ 7 (d := d_count) rfl
theorem d_image_at_at : ∃ fd, FunD K "image_at" "image_at" (defArgs s_image_at) (defBody s_image_at) (defScope s_image_at) [] [] (He.fAd K ("image_at", none)) fd := T.says.def_ 8 (d := d_image_at) rfl
theorem d_place_of_at : ∃ fd, FunD K "place_of" "place_of" (defArgs s_place_of) (defBody s_place_of) (defScope s_place_of) [] [] (He.fAd K ("place_of", none)) fd := T.says.def_ 9 (d := d_place_of) rfl
theorem d_line_states_at : ∃ fd, FunD K "line_states" "line_states" (defArgs s_line_states) (defBody s_line_states) (defScope s_line_states) [] [] (He.fAd K ("line_states", none)) fd := T.says.def_ 10 (d := d_line_states) rfl
theorem d_blank_at : ∃ fd, FunD K "blank" "blank" (defArgs s_blank) (defBody s_blank) (defScope s_blank) [] [] (He.fAd K ("blank", none)) fd := T.says.def_ 11 (d := d_blank) rfl
theorem d_states_of_at : ∃ fd, FunD K "states_of" "states_of" (defArgs s_states_of) (defBody s_states_of) (defScope s_states_of) [] [] (He.fAd K ("states_of", none)) fd := T.says.def_ 12 (d := d_states_of) rfl
theorem d_words_of_at : ∃ fd, FunD K "words_of" "words_of" (defArgs s_words_of) (defBody s_words_of) (defScope s_words_of) [] [] (He.fAd K ("words_of", none)) fd := T.says.def_ 13 (d := d_words_of) rfl
theorem d_contents_at : ∃ fd, FunD K "contents" "contents" (defArgs s_contents) (defBody s_contents) (defScope s_contents) [] [] (He.fAd K ("contents", none)) fd := T.says.def_ 14 (d := d_contents) rfl
theorem d_check_conditions_at : ∃ fd, FunD K "check_conditions" "check_conditions" (defArgs s_check_conditions) (defBody s_check_conditions) (defScope s_check_conditions) [] [] (He.fAd K ("check_conditions", none)) fd := T.says.def_ 15 (d := d_check_conditions) rfl
theorem d_fitting_at : ∃ fd, FunD K "fitting" "fitting" (defArgs s_fitting) (defBody s_fitting) (defScope s_fitting) [] [] (He.fAd K ("fitting", none)) fd := T.says.def_ 16 (d := d_fitting) rfl
theorem d_least_in_at : ∃ fd, FunD K "least_in" "least_in" (defArgs s_least_in) (defBody s_least_in) (defScope s_least_in) [] [] (He.fAd K ("least_in", none)) fd := T.says.def_ 17 (d := d_least_in) rfl
theorem d_broken_at : ∃ fd, FunD K "broken" "broken" (defArgs s_broken) (defBody s_broken) (defScope s_broken) [] [] (He.fAd K ("broken", none)) fd := T.says.def_ 18 (d := d_broken) rfl
theorem d_check_words_at : ∃ fd, FunD K "check_words" "check_words" (defArgs s_check_words) (defBody s_check_words) (defScope s_check_words) [] [] (He.fAd K ("check_words", none)) fd := T.says.def_ 19 (d := d_check_words) rfl
theorem d_written_at : ∃ fd, FunD K "written" "written" (defArgs s_written) (defBody s_written) (defScope s_written) [] [] (He.fAd K ("written", none)) fd := T.says.def_ 20 (d := d_written) rfl
theorem d_recovered_at : ∃ fd, FunD K "recovered" "recovered" (defArgs s_recovered) (defBody s_recovered) (defScope s_recovered) [] [] (He.fAd K ("recovered", none)) fd := T.says.def_ 21 (d := d_recovered) rfl
theorem d_settle_at : ∃ fd, FunD K "settle" "settle" (defArgs s_settle) (defBody s_settle) (defScope s_settle) [] [] (He.fAd K ("settle", none)) fd := T.says.def_ 22 (d := d_settle) rfl
theorem d_check_at : ∃ fd, FunD K "check" "check" (defArgs s_check) (defBody s_check) (defScope s_check) [] [] (He.fAd K ("check", none)) fd := T.says.def_ 23 (d := d_check) rfl
theorem d__law_cell_at : ∃ fd, FunD K "_law_cell" "_law_cell" (defArgs s__law_cell) (defBody s__law_cell) (defScope s__law_cell) [] [] (He.fAd K ("_law_cell", none)) fd := T.says.def_ 24 (d := d__law_cell) rfl
theorem d__law_rng_at : ∃ fd, FunD K "_law_rng" "_law_rng" (defArgs s__law_rng) (defBody s__law_rng) (defScope s__law_rng) [] [] (He.fAd K ("_law_rng", none)) fd := T.says.def_ 25 (d := d__law_rng) rfl
theorem d__law_draw_at : ∃ fd, FunD K "_law_draw" "_law_draw" (defArgs s__law_draw) (defBody s__law_draw) (defScope s__law_draw) [] [] (He.fAd K ("_law_draw", none)) fd := T.says.def_ 26 (d := d__law_draw) rfl
theorem d__law_pick_at : ∃ fd, FunD K "_law_pick" "_law_pick" (defArgs s__law_pick) (defBody s__law_pick) (defScope s__law_pick) [] [] (He.fAd K ("_law_pick", none)) fd := T.says.def_ 27 (d := d__law_pick) rfl
theorem d__law_random_sizes_at : ∃ fd, FunD K "_law_random_sizes" "_law_random_sizes" (defArgs s__law_random_sizes) (defBody s__law_random_sizes) (defScope s__law_random_sizes) [] [] (He.fAd K ("_law_random_sizes", none)) fd := T.says.def_ 28 (d := d__law_random_sizes) rfl
theorem d__law_random_command_at : ∃ fd, FunD K "_law_random_command" "_law_random_command" (defArgs s__law_random_command) (defBody s__law_random_command) (defScope s__law_random_command) [] [] (He.fAd K ("_law_random_command", none)) fd := T.says.def_ 29 (d := d__law_random_command) rfl
theorem d__law_random_commands_at : ∃ fd, FunD K "_law_random_commands" "_law_random_commands" (defArgs s__law_random_commands) (defBody s__law_random_commands) (defScope s__law_random_commands) [] [] (He.fAd K ("_law_random_commands", none)) fd := T.says.def_ 30 (d := d__law_random_commands) rfl
theorem d__law_command_at : ∃ fd, FunD K "_law_command" "_law_command" (defArgs s__law_command) (defBody s__law_command) (defScope s__law_command) [] [] (He.fAd K ("_law_command", none)) fd := T.says.def_ 31 (d := d__law_command) rfl
theorem d__law_program_at : ∃ fd, FunD K "_law_program" "_law_program" (defArgs s__law_program) (defBody s__law_program) (defScope s__law_program) [] [] (He.fAd K ("_law_program", none)) fd := T.says.def_ 32 (d := d__law_program) rfl
theorem d__law_words_at : ∃ fd, FunD K "_law_words" "_law_words" (defArgs s__law_words) (defBody s__law_words) (defScope s__law_words) [] [] (He.fAd K ("_law_words", none)) fd := T.says.def_ 33 (d := d__law_words) rfl
theorem d__law_random_conditions_at : ∃ fd, FunD K "_law_random_conditions" "_law_random_conditions" (defArgs s__law_random_conditions) (defBody s__law_random_conditions) (defScope s__law_random_conditions) [] [] (He.fAd K ("_law_random_conditions", none)) fd := T.says.def_ 34 (d := d__law_random_conditions) rfl
theorem d__law_wide_conditions_at : ∃ fd, FunD K "_law_wide_conditions" "_law_wide_conditions" (defArgs s__law_wide_conditions) (defBody s__law_wide_conditions) (defScope s__law_wide_conditions) [] [] (He.fAd K ("_law_wide_conditions", none)) fd := T.says.def_ 35 (d := d__law_wide_conditions) rfl
theorem d__law_is_at : ∃ fd, FunD K "_law_is" "_law_is" (defArgs s__law_is) (defBody s__law_is) (defScope s__law_is) [] [] (He.fAd K ("_law_is", none)) fd := T.says.def_ 36 (d := d__law_is) rfl
theorem d__law_meets_at : ∃ fd, FunD K "_law_meets" "_law_meets" (defArgs s__law_meets) (defBody s__law_meets) (defScope s__law_meets) [] [] (He.fAd K ("_law_meets", none)) fd := T.says.def_ 37 (d := d__law_meets) rfl
theorem d__law_random_moves_at : ∃ fd, FunD K "_law_random_moves" "_law_random_moves" (defArgs s__law_random_moves) (defBody s__law_random_moves) (defScope s__law_random_moves) [] [] (He.fAd K ("_law_random_moves", none)) fd := T.says.def_ 38 (d := d__law_random_moves) rfl
theorem d__law_random_steps_at : ∃ fd, FunD K "_law_random_steps" "_law_random_steps" (defArgs s__law_random_steps) (defBody s__law_random_steps) (defScope s__law_random_steps) [] [] (He.fAd K ("_law_random_steps", none)) fd := T.says.def_ 39 (d := d__law_random_steps) rfl
theorem d__law_recovery_at : ∃ fd, FunD K "_law_recovery" "_law_recovery" (defArgs s__law_recovery) (defBody s__law_recovery) (defScope s__law_recovery) [] [] (He.fAd K ("_law_recovery", none)) fd := T.says.def_ 40 (d := d__law_recovery) rfl
theorem d__law_done_at : ∃ fd, FunD K "_law_done" "_law_done" (defArgs s__law_done) (defBody s__law_done) (defScope s__law_done) [] [] (He.fAd K ("_law_done", none)) fd := T.says.def_ 41 (d := d__law_done) rfl
theorem d__law_all_words_at : ∃ fd, FunD K "_law_all_words" "_law_all_words" (defArgs s__law_all_words) (defBody s__law_all_words) (defScope s__law_all_words) [] [] (He.fAd K ("_law_all_words", none)) fd := T.says.def_ 42 (d := d__law_all_words) rfl
theorem d__law_idle_holds_at : ∃ fd, FunD K "_law_idle_holds" "_law_idle_holds" (defArgs s__law_idle_holds) (defBody s__law_idle_holds) (defScope s__law_idle_holds) [] [] (He.fAd K ("_law_idle_holds", none)) fd := T.says.def_ 43 (d := d__law_idle_holds) rfl
theorem d__law_cut_ends_at : ∃ fd, FunD K "_law_cut_ends" "_law_cut_ends" (defArgs s__law_cut_ends) (defBody s__law_cut_ends) (defScope s__law_cut_ends) [] [] (He.fAd K ("_law_cut_ends", none)) fd := T.says.def_ 44 (d := d__law_cut_ends) rfl
theorem d__law_failed_holds_at : ∃ fd, FunD K "_law_failed_holds" "_law_failed_holds" (defArgs s__law_failed_holds) (defBody s__law_failed_holds) (defScope s__law_failed_holds) [] [] (He.fAd K ("_law_failed_holds", none)) fd := T.says.def_ 45 (d := d__law_failed_holds) rfl
theorem d__law_good_holds_at : ∃ fd, FunD K "_law_good_holds" "_law_good_holds" (defArgs s__law_good_holds) (defBody s__law_good_holds) (defScope s__law_good_holds) [] [] (He.fAd K ("_law_good_holds", none)) fd := T.says.def_ 46 (d := d__law_good_holds) rfl
theorem d__law_check_holds_at : ∃ fd, FunD K "_law_check_holds" "_law_check_holds" (defArgs s__law_check_holds) (defBody s__law_check_holds) (defScope s__law_check_holds) [] [] (He.fAd K ("_law_check_holds", none)) fd := T.says.def_ 47 (d := d__law_check_holds) rfl
theorem d_law_at : ∃ fd, FunD K "law" "law" (defArgs s_law) (defBody s_law) (defScope s_law) [] [] (He.fAd K ("law", none)) fd := T.says.def_ 48 (d := d_law) rfl
theorem d_Memory_init_at : ∃ fd, FunD K "__init__" "Memory.__init__" (defArgs s_Memory_init) (defBody s_Memory_init) (defScope s_Memory_init) [] [] (He.fAd K ("Memory", some "__init__")) fd := T.says.def_ 49 (d := d_Memory_init) rfl
theorem d_Memory_kind_at : ∃ fd, FunD K "kind" "Memory.kind" (defArgs s_Memory_kind) (defBody s_Memory_kind) (defScope s_Memory_kind) [] [] (He.fAd K ("Memory", some "kind")) fd := T.says.def_ 50 (d := d_Memory_kind) rfl
theorem d_Memory_facts_at : ∃ fd, FunD K "facts" "Memory.facts" (defArgs s_Memory_facts) (defBody s_Memory_facts) (defScope s_Memory_facts) [] [] (He.fAd K ("Memory", some "facts")) fd := T.says.def_ 51 (d := d_Memory_facts) rfl
theorem d_Memory_check_line_at : ∃ fd, FunD K "check_line" "Memory.check_line" (defArgs s_Memory_check_line) (defBody s_Memory_check_line) (defScope s_Memory_check_line) [] [] (He.fAd K ("Memory", some "check_line")) fd := T.says.def_ 52 (d := d_Memory_check_line) rfl
theorem d_Memory_check_word_at : ∃ fd, FunD K "check_word" "Memory.check_word" (defArgs s_Memory_check_word) (defBody s_Memory_check_word) (defScope s_Memory_check_word) [] [] (He.fAd K ("Memory", some "check_word")) fd := T.says.def_ 53 (d := d_Memory_check_word) rfl
theorem d_Memory_zeros_at : ∃ fd, FunD K "zeros" "Memory.zeros" (defArgs s_Memory_zeros) (defBody s_Memory_zeros) (defScope s_Memory_zeros) [] [] (He.fAd K ("Memory", some "zeros")) fd := T.says.def_ 54 (d := d_Memory_zeros) rfl
theorem d_Memory_eq_at : ∃ fd, FunD K "__eq__" "Thing.__eq__" (defArgs s_Memory_eq) (defBody s_Memory_eq) (defScope s_Memory_eq) [] [] (He.fAd K ("Memory", some "__eq__")) fd := T.says.def_ 55 (d := d_Memory_eq) rfl
theorem d_Store_init_at : ∃ fd, FunD K "__init__" "Store.__init__" (defArgs s_Store_init) (defBody s_Store_init) (defScope s_Store_init) [] [] (He.fAd K ("Store", some "__init__")) fd := T.says.def_ 56 (d := d_Store_init) rfl
theorem d_Store_check_at : ∃ fd, FunD K "check" "Store.check" (defArgs s_Store_check) (defBody s_Store_check) (defScope s_Store_check) [] [] (He.fAd K ("Store", some "check")) fd := T.says.def_ 57 (d := d_Store_check) rfl
theorem d_Flush_init_at : ∃ fd, FunD K "__init__" "Flush.__init__" (defArgs s_Flush_init) (defBody s_Flush_init) (defScope s_Flush_init) [] [] (He.fAd K ("Flush", some "__init__")) fd := T.says.def_ 58 (d := d_Flush_init) rfl
theorem d_Flush_check_at : ∃ fd, FunD K "check" "Flush.check" (defArgs s_Flush_check) (defBody s_Flush_check) (defScope s_Flush_check) [] [] (He.fAd K ("Flush", some "check")) fd := T.says.def_ 59 (d := d_Flush_check) rfl
theorem d_Fence_check_at : ∃ fd, FunD K "check" "Command.check" (defArgs s_Fence_check) (defBody s_Fence_check) (defScope s_Fence_check) [] [] (He.fAd K ("Fence", some "check")) fd := T.says.def_ 60 (d := d_Fence_check) rfl
theorem d_Program_init_at : ∃ fd, FunD K "__init__" "Program.__init__" (defArgs s_Program_init) (defBody s_Program_init) (defScope s_Program_init) [] [] (He.fAd K ("Program", some "__init__")) fd := T.says.def_ 61 (d := d_Program_init) rfl
theorem d_Counter_init_at : ∃ fd, FunD K "__init__" "Counter.__init__" (defArgs s_Counter_init) (defBody s_Counter_init) (defScope s_Counter_init) [] [] (He.fAd K ("Counter", some "__init__")) fd := T.says.def_ 62 (d := d_Counter_init) rfl
theorem d_Counter_do_command_at : ∃ fd, FunD K "do_command" "Counter.do_command" (defArgs s_Counter_do_command) (defBody s_Counter_do_command) (defScope s_Counter_do_command) [] [] (He.fAd K ("Counter", some "do_command")) fd := T.says.def_ 63 (d := d_Counter_do_command) rfl
theorem d_Box_init_at : ∃ fd, FunD K "__init__" "Box.__init__" (defArgs s_Box_init) (defBody s_Box_init) (defScope s_Box_init) [] [] (He.fAd K ("Box", some "__init__")) fd := T.says.def_ 64 (d := d_Box_init) rfl
theorem d_Box_size_at : ∃ fd, FunD K "size" "Box.size" (defArgs s_Box_size) (defBody s_Box_size) (defScope s_Box_size) [] [] (He.fAd K ("Box", some "size")) fd := T.says.def_ 65 (d := d_Box_size) rfl
theorem d_Box_contains_at : ∃ fd, FunD K "__contains__" "Box.__contains__" (defArgs s_Box_contains) (defBody s_Box_contains) (defScope s_Box_contains) [] [] (He.fAd K ("Box", some "__contains__")) fd := T.says.def_ 66 (d := d_Box_contains) rfl
theorem d_Box_image_at_at : ∃ fd, FunD K "image_at" "Box.image_at" (defArgs s_Box_image_at) (defBody s_Box_image_at) (defScope s_Box_image_at) [] [] (He.fAd K ("Box", some "image_at")) fd := T.says.def_ 67 (d := d_Box_image_at) rfl
theorem d_Box_place_of_at : ∃ fd, FunD K "place_of" "Box.place_of" (defArgs s_Box_place_of) (defBody s_Box_place_of) (defScope s_Box_place_of) [] [] (He.fAd K ("Box", some "place_of")) fd := T.says.def_ 68 (d := d_Box_place_of) rfl
theorem d_Is_init_at : ∃ fd, FunD K "__init__" "Is.__init__" (defArgs s_Is_init) (defBody s_Is_init) (defScope s_Is_init) [] [] (He.fAd K ("Is", some "__init__")) fd := T.says.def_ 69 (d := d_Is_init) rfl
theorem d_Is_is_met_at : ∃ fd, FunD K "is_met" "Is.is_met" (defArgs s_Is_is_met) (defBody s_Is_is_met) (defScope s_Is_is_met) [] [] (He.fAd K ("Is", some "is_met")) fd := T.says.def_ 70 (d := d_Is_is_met) rfl
theorem d_Copy_init_at : ∃ fd, FunD K "__init__" "Copy.__init__" (defArgs s_Copy_init) (defBody s_Copy_init) (defScope s_Copy_init) [] [] (He.fAd K ("Copy", some "__init__")) fd := T.says.def_ 71 (d := d_Copy_init) rfl
theorem d_Copy_check_at : ∃ fd, FunD K "check" "Copy.check" (defArgs s_Copy_check) (defBody s_Copy_check) (defScope s_Copy_check) [] [] (He.fAd K ("Copy", some "check")) fd := T.says.def_ 72 (d := d_Copy_check) rfl
theorem d_Step_init_at : ∃ fd, FunD K "__init__" "Step.__init__" (defArgs s_Step_init) (defBody s_Step_init) (defScope s_Step_init) [] [] (He.fAd K ("Step", some "__init__")) fd := T.says.def_ 73 (d := d_Step_init) rfl
theorem d_Recovery_init_at : ∃ fd, FunD K "__init__" "Recovery.__init__" (defArgs s_Recovery_init) (defBody s_Recovery_init) (defScope s_Recovery_init) [] [] (He.fAd K ("Recovery", some "__init__")) fd := T.says.def_ 74 (d := d_Recovery_init) rfl
theorem d_Failed_init_at : ∃ fd, FunD K "__init__" "Failed.__init__" (defArgs s_Failed_init) (defBody s_Failed_init) (defScope s_Failed_init) [] [] (He.fAd K ("Failed", some "__init__")) fd := T.says.def_ 75 (d := d_Failed_init) rfl
theorem d_Checker_init_at : ∃ fd, FunD K "__init__" "Checker.__init__" (defArgs s_Checker_init) (defBody s_Checker_init) (defScope s_Checker_init) [] [] (He.fAd K ("Checker", some "__init__")) fd := T.says.def_ 76 (d := d_Checker_init) rfl
theorem d_Checker_fault_at : ∃ fd, FunD K "fault" "Checker.fault" (defArgs s_Checker_fault) (defBody s_Checker_fault) (defScope s_Checker_fault) [] [] (He.fAd K ("Checker", some "fault")) fd := T.says.def_ 77 (d := d_Checker_fault) rfl
theorem d_Checker_looked_for_at : ∃ fd, FunD K "looked_for" "Checker.looked_for" (defArgs s_Checker_looked_for) (defBody s_Checker_looked_for) (defScope s_Checker_looked_for) [] [] (He.fAd K ("Checker", some "looked_for")) fd := T.says.def_ 78 (d := d_Checker_looked_for) rfl
theorem is_Store_Store : PySem.W.kitOne K (.ref (He.ga K "Store")) (.ref (He.ga K "Store")) = some true := of_decide_eq_true (T.says.more 0 (f := kitB "Store" "Store" true) rfl)
theorem is_Store_Flush : PySem.W.kitOne K (.ref (He.ga K "Store")) (.ref (He.ga K "Flush")) = some false := of_decide_eq_true (T.says.more 1 (f := kitB "Store" "Flush" false) rfl)
theorem is_Flush_Store : PySem.W.kitOne K (.ref (He.ga K "Flush")) (.ref (He.ga K "Store")) = some false := of_decide_eq_true (T.says.more 2 (f := kitB "Flush" "Store" false) rfl)
theorem is_Flush_Flush : PySem.W.kitOne K (.ref (He.ga K "Flush")) (.ref (He.ga K "Flush")) = some true := of_decide_eq_true (T.says.more 3 (f := kitB "Flush" "Flush" true) rfl)
theorem is_Fence_Store : PySem.W.kitOne K (.ref (He.ga K "Fence")) (.ref (He.ga K "Store")) = some false := of_decide_eq_true (T.says.more 4 (f := kitB "Fence" "Store" false) rfl)
theorem is_Fence_Flush : PySem.W.kitOne K (.ref (He.ga K "Fence")) (.ref (He.ga K "Flush")) = some false := of_decide_eq_true (T.says.more 5 (f := kitB "Fence" "Flush" false) rfl)
theorem is_Copy_Store : PySem.W.kitOne K (.ref (He.ga K "Copy")) (.ref (He.ga K "Store")) = some false := of_decide_eq_true (T.says.more 6 (f := kitB "Copy" "Store" false) rfl)
theorem is_Copy_Flush : PySem.W.kitOne K (.ref (He.ga K "Copy")) (.ref (He.ga K "Flush")) = some false := of_decide_eq_true (T.says.more 7 (f := kitB "Copy" "Flush" false) rfl)
theorem is_Memory_Thing : PySem.W.kitOne K (.ref (He.ga K "Memory")) (.ref (He.ga K "Thing")) = some true := of_decide_eq_true (T.says.more 8 (f := kitB "Memory" "Thing" true) rfl)
theorem is_Failed_Failed : PySem.W.kitOne K (.ref (He.ga K "Failed")) (.ref (He.ga K "Failed")) = some true := of_decide_eq_true (T.says.more 9 (f := kitB "Failed" "Failed" true) rfl)
theorem ne_Memory : PySem.W.findIn K (.ref (He.ga K "Memory")) "__ne__" = some (some (.builtin "object.__ne__")) := of_decide_eq_true (T.says.more 10 (f := neB "Memory") rfl)
theorem ty_Store {H : Hp} {a dx : Addr} {vs : List (Str × V)} (e : H a = some (.ins (He.ga K "Store") dx vs)) : TyX K H (.ref a) (.ref (He.ga K "Store")) := by
  have z : tyB "Store" K = true := T.says.more 11 (f := tyB "Store") rfl
  obtain ⟨z1, z⟩ := Bool.and_eq_true_iff.mp z
  obtain ⟨z2, z⟩ := Bool.and_eq_true_iff.mp z
  obtain ⟨z3, z4⟩ := Bool.and_eq_true_iff.mp z
  exact .base (.ins e (c_Store T) (of_decide_eq_true z1) (of_decide_eq_true z2) (of_decide_eq_true z3) (of_decide_eq_true z4))
theorem ty_Flush {H : Hp} {a dx : Addr} {vs : List (Str × V)} (e : H a = some (.ins (He.ga K "Flush") dx vs)) : TyX K H (.ref a) (.ref (He.ga K "Flush")) := by
  have z : tyB "Flush" K = true := T.says.more 12 (f := tyB "Flush") rfl
  obtain ⟨z1, z⟩ := Bool.and_eq_true_iff.mp z
  obtain ⟨z2, z⟩ := Bool.and_eq_true_iff.mp z
  obtain ⟨z3, z4⟩ := Bool.and_eq_true_iff.mp z
  exact .base (.ins e (c_Flush T) (of_decide_eq_true z1) (of_decide_eq_true z2) (of_decide_eq_true z3) (of_decide_eq_true z4))
theorem ty_Fence {H : Hp} {a dx : Addr} {vs : List (Str × V)} (e : H a = some (.ins (He.ga K "Fence") dx vs)) : TyX K H (.ref a) (.ref (He.ga K "Fence")) := by
  have z : tyB "Fence" K = true := T.says.more 13 (f := tyB "Fence") rfl
  obtain ⟨z1, z⟩ := Bool.and_eq_true_iff.mp z
  obtain ⟨z2, z⟩ := Bool.and_eq_true_iff.mp z
  obtain ⟨z3, z4⟩ := Bool.and_eq_true_iff.mp z
  exact .base (.ins e (c_Fence T) (of_decide_eq_true z1) (of_decide_eq_true z2) (of_decide_eq_true z3) (of_decide_eq_true z4))
theorem ty_Copy {H : Hp} {a dx : Addr} {vs : List (Str × V)} (e : H a = some (.ins (He.ga K "Copy") dx vs)) : TyX K H (.ref a) (.ref (He.ga K "Copy")) := by
  have z : tyB "Copy" K = true := T.says.more 14 (f := tyB "Copy") rfl
  obtain ⟨z1, z⟩ := Bool.and_eq_true_iff.mp z
  obtain ⟨z2, z⟩ := Bool.and_eq_true_iff.mp z
  obtain ⟨z3, z4⟩ := Bool.and_eq_true_iff.mp z
  exact .base (.ins e (c_Copy T) (of_decide_eq_true z1) (of_decide_eq_true z2) (of_decide_eq_true z3) (of_decide_eq_true z4))
theorem ty_Memory {H : Hp} {a dx : Addr} {vs : List (Str × V)} (e : H a = some (.ins (He.ga K "Memory") dx vs)) : TyX K H (.ref a) (.ref (He.ga K "Memory")) := by
  have z : tyB "Memory" K = true := T.says.more 15 (f := tyB "Memory") rfl
  obtain ⟨z1, z⟩ := Bool.and_eq_true_iff.mp z
  obtain ⟨z2, z⟩ := Bool.and_eq_true_iff.mp z
  obtain ⟨z3, z4⟩ := Bool.and_eq_true_iff.mp z
  exact .base (.ins e (c_Memory T) (of_decide_eq_true z1) (of_decide_eq_true z2) (of_decide_eq_true z3) (of_decide_eq_true z4))
theorem ty_Failed {H : Hp} {a dx : Addr} {vs : List (Str × V)} (e : H a = some (.ins (He.ga K "Failed") dx vs)) : TyX K H (.ref a) (.ref (He.ga K "Failed")) := by
  have z : tyB "Failed" K = true := T.says.more 16 (f := tyB "Failed") rfl
  obtain ⟨z1, z⟩ := Bool.and_eq_true_iff.mp z
  obtain ⟨z2, z⟩ := Bool.and_eq_true_iff.mp z
  obtain ⟨z3, z4⟩ := Bool.and_eq_true_iff.mp z
  exact .base (.ins e (c_Failed T) (of_decide_eq_true z1) (of_decide_eq_true z2) (of_decide_eq_true z3) (of_decide_eq_true z4))
theorem mk0_Fence : PySem.W.makesIn K (He.ga K "Fence") = true ∧ PySem.W.findIn K (.ref (He.ga K "Fence")) "__init__" = some (some (.builtin "object.__init__")) ∧ PySem.W.keepIn K (.ref (He.ga K "Fence")) = true := by
  have z : mk0B "Fence" K = true := T.says.more 17 (f := mk0B "Fence") rfl
  obtain ⟨z1, z⟩ := Bool.and_eq_true_iff.mp z
  obtain ⟨z2, z3⟩ := Bool.and_eq_true_iff.mp z
  exact ⟨z1, of_decide_eq_true z2, z3⟩
end
theorem bt_len : bootBuiltins "len" = some (.builtin "len") := by decide +kernel
theorem bt_tuple : bootBuiltins "tuple" = some (.type "tuple") := by decide +kernel
theorem bt_sum : bootBuiltins "sum" = some (.builtin "sum") := by decide +kernel
theorem bt_zip : bootBuiltins "zip" = some (.type "zip") := by decide +kernel
theorem bt_list : bootBuiltins "list" = some (.type "list") := by decide +kernel
theorem bt_enumerate : bootBuiltins "enumerate" = some (.type "enumerate") := by decide +kernel
theorem bt_isinstance : bootBuiltins "isinstance" = some (.builtin "isinstance") := by decide +kernel
theorem bt_sorted : bootBuiltins "sorted" = some (.builtin "sorted") := by decide +kernel
theorem bt_set : bootBuiltins "set" = some (.type "set") := by decide +kernel
theorem bt_range : bootBuiltins "range" = some (.type "range") := by decide +kernel
theorem bt_all : bootBuiltins "all" = some (.builtin "all") := by decide +kernel
theorem bt_min : bootBuiltins "min" = some (.builtin "min") := by decide +kernel
theorem bt_abs : bootBuiltins "abs" = some (.builtin "abs") := by decide +kernel
/-! ### a def of the text and its promise -/
structure Dk (P : Program) (w : World) (K : PySem.W.Frag) (mg : Str → Option Value) (base : Heap) (f : Addr) (k : Nat) (ps : List Str) (sp : Sp) : Prop where
  ex : ∃ fd, Binds K fd ps [] ∧ FnOk P w K mg base CX0 k f fd ps sp
  kp : PySem.W.keepIn K (.ref f) = true
section
variable {P : Program} {w : World} {K : PySem.W.Frag} {mg : Str → Option Value} {base : Heap}
theorem dk_of {x qual : Str} {params : Arguments} {body : List Stmt} {scope : Scope} {f : Addr} {N ps : List Str} {k : Nat} {sp : Sp} (h : ∃ fd, FunD K x qual params body scope [] [] f fd) (S : FnScope N ps scope)
    (hb : ∀ (kV doc pm : Value) (an : Option Addr) (cdv ct : Value) (us : List Value), us.length = ps.length → bindArgs (PySem.W.fnOf x qual params body scope .none kV doc pm an cdv ct) ⟨us, []⟩ = pure (ps.zip us))
    (len : ∀ vs H Q E, sp vs H Q E → vs.length = ps.length)
    (hbody : ∀ (cdv : Value) (A : Around) (outer : List Env) (s : Shared) (H : Hp) (vs : List V) (Q : VK) (E : XK), Room k (A.deeper (envOfC qual scope s.heap.objs.size f cdv)) → sp vs H Q E →
      ∃ t, PSs (cxOf CX0 P w K mg base N qual scope f cdv A outer s H E).nox body t ∧ t { nx := fun _ H' => Q .non H', rt := Q } (start N vs) H) : Dk P w K mg base f (k + 1) ps sp := by
  obtain ⟨fd, F⟩ := h
  exact ⟨⟨fd, F.bindsN hb, F.ok S len fun cdv A outer s H vs Q E hr h => let ⟨t, p, q⟩ := hbody cdv A outer s H vs Q E hr h; ⟨t, p.nox, q⟩⟩, F.kp⟩
end
section
variable {X : Cx} {k : Nat} {f C : Addr} {ps : List Str} {sp : Sp} {x m : Str} {p pos apos : Pos} {e o : Expr} {es : List Expr} {ta : TE} {t : TA} {pl : Sem Bool}
theorem pe_fn (D : Dk X.prog X.w X.K X.mg X.base f k ps sp) (hr : Room k X.A) (hm : X.mg x = some (.ref f)) (ha : PA X (e :: es) t) (hg : Gl X x := by rfl) (hdb : (x == ("__debug__" : Str)) = false := by decide)
    (he : starEach (e :: es) X.env = (false, eval e X.env) :: starEach es X.env := by rfl) (hpl : (backTo pos (starEach es X.env)).any (·.1) = false := by rfl) : PE X (.Call (.Name x p) (e :: es) [] pos) (tCall sp [] E0 t) := by
  obtain ⟨fd, b, F⟩ := D.ex
  exact pe_call F hr hg hm D.kp b .nil pass0 ha hdb he hpl
theorem pe_mk (M : Mk X.K C f) (D : Dk X.prog X.w X.K X.mg X.base f k ps sp) (hr : Room (k + 1) X.A) (hm : X.mg x = some (.ref C)) (ha : PA X (e :: es) t) (hg : Gl X x := by rfl) (hdb : (x == ("__debug__" : Str)) = false := by decide)
    (he : starEach (e :: es) X.env = (false, eval e X.env) :: starEach es X.env := by rfl) (hpl : (backTo pos (starEach es X.env)).any (·.1) = false := by rfl) : PE X (.Call (.Name x p) (e :: es) [] pos) (tMake C sp [] E0 t) := by
  obtain ⟨fd, b, F⟩ := D.ex
  exact pe_make M F hr hg hm b .nil pass0 ha hdb he hpl
end
end Ls

/-! LsMir -/
/-! the mirror: what the program's defs compute, as plain functions -/
namespace Ls
/-- a command of a program; a store alone -/
structure Sto where
  l : Nat
  w : Nat
  n : Int
  deriving DecidableEq
inductive Cmd where
  | store (s : Sto)
  | flush (l : Nat)
  | fence
  deriving DecidableEq
abbrev Words := List (List Int)
abbrev Img := List Nat
abbrev Bx := List Nat × List Nat
def okAt (sz : List Nat) (l w : Nat) : Prop := ∃ s, sz[l]? = some s ∧ w < s
def okSto (sz : List Nat) (s : Sto) : Prop := okAt sz s.l s.w
def okCmd (sz : List Nat) : Cmd → Prop
  | .store s => okSto sz s
  | .flush l => l < sz.length
  | .fence => True
def okMem (sz : List Nat) : Prop := 1 ≤ sz.length ∧ sz.length ≤ 6 ∧ ∀ s ∈ sz, 1 ≤ s ∧ s ≤ 4
def okProg (sz : List Nat) (cs : List Cmd) : Prop := okMem sz ∧ cs.length ≤ 200 ∧ ∀ c ∈ cs, okCmd sz c
def stoOf : Cmd → Option Sto
  | .store s => some s
  | _ => none
def storesOf (cs : List Cmd) : List Sto := cs.filterMap stoOf
/-! counters -/
structure Cnt where
  made : List Nat
  flushed : List Nat
  sure : List Nat
def zeros (n : Nat) : List Nat := List.replicate n 0
def Cnt.init (n : Nat) : Cnt := ⟨zeros n, zeros n, zeros n⟩
def Cnt.step (c : Cnt) : Cmd → Cnt
  | .store s => { c with made := c.made.set s.l (c.made.getD s.l 0 + 1) }
  | .flush l => { c with flushed := c.flushed.set l (c.made.getD l 0) }
  | .fence => { c with sure := c.flushed }
def cntOf (n : Nat) (cs : List Cmd) : Cnt := cs.foldl Cnt.step (Cnt.init n)
def madeOf (n : Nat) (cs : List Cmd) : List Nat := (cntOf n cs).made
/-! boxes -/
def boxStep (s : Cnt × List Bx) (c : Cmd) : Cnt × List Bx := (s.1.step c, match c with
  | .store t => s.2 ++ [((s.1.step c).sure.set t.l ((s.1.step c).made.getD t.l 0), (s.1.step c).made)]
  | _ => s.2)
def boxesOf (n : Nat) (cs : List Cmd) : List Bx := (cs.foldl boxStep (Cnt.init n, [(zeros n, zeros n)])).2
def wid (p : Nat × Nat) : Nat := p.2 - p.1 + 1
def bxSize (b : Bx) : Nat := (b.1.zip b.2).foldl (fun f p => f * wid p) 1
def bxHas (b : Bx) (i : Img) : Bool := decide (i.length = b.1.length) && (b.1.zip (i.zip b.2)).all fun p => decide (p.1 ≤ p.2.1 ∧ p.2.1 ≤ p.2.2)
def atStep (s : List Nat × Nat) (p : Nat × Nat) : List Nat × Nat := (s.1 ++ [p.1 + s.2 % wid p], s.2 / wid p)
def bxAt (b : Bx) (place : Nat) : Img := ((b.1.zip b.2).reverse.foldl atStep ([], place)).1.reverse
def ofStep (f : Nat) (p : Nat × Nat × Nat) : Nat := f * wid (p.1, p.2.2) + p.2.1 - p.1
def bxPlace (b : Bx) (i : Img) : Nat := (b.1.zip (i.zip b.2)).foldl ofStep 0
def countB (bs : List Bx) : Nat := (bs.map bxSize).sum
def imageB : List Bx → Nat → Option Img
  | [], _ => none
  | b :: r, left => if left < bxSize b then some (bxAt b left) else imageB r (left - bxSize b)
def placeB : List Bx → Nat → Img → Option Nat
  | [], _, _ => none
  | b :: r, before, i => if bxHas b i then some (before + bxPlace b i) else placeB r (before + bxSize b) i
/-! words -/
def lineStep (line : Nat) (found : List (List Int)) (s : Sto) : List (List Int) := if s.l = line then found ++ [(found.getLastD []).set s.w s.n] else found
def lineStates (some : List Sto) (line : Nat) (begun : List Int) : List (List Int) := some.foldl (lineStep line) [begun]
def blank (sz : List Nat) : Words := sz.map fun s => List.replicate s 0
def statesOf (some : List Sto) (begun : Words) : List (List (List Int)) := begun.zipIdx.map fun p => lineStates some p.2 p.1
def wordsOf (st : List (List (List Int))) (i : Img) : Words := i.zipIdx.map fun p => (st.getD p.2 []).getD p.1 []
def contentsOf (sz : List Nat) (cs : List Cmd) (i : Img) : Words := wordsOf (statesOf (storesOf cs) (blank sz)) i
/-! conditions -/
structure Cond where
  l : Nat
  w : Nat
  ns : List Int
def at2 (x : Words) (l w : Nat) : Int := (x.getD l []).getD w 0
def Cond.met (c : Cond) (line : List Int) : Bool := decide (line.getD c.w 0 ∈ c.ns)
def Cond.metW (c : Cond) (x : Words) : Bool := c.met (x.getD c.l [])
def fitting (line : Nat) (st : List (List Int)) (low high : Nat) (avoided : Option Cond) : Option Nat :=
  ((List.range (high + 1 - low)).map (low + ·)).find? fun n => match avoided with
    | none => true
    | some c => decide (c.l ≠ line) || !c.met (st.getD n [])
def leastIn (b : Bx) (st : List (List (List Int))) (avoided : Option Cond) : Option Img :=
  (b.1.zipIdx.map fun p => fitting p.2 (st.getD p.2 []) p.1 (b.2.getD p.2 0) avoided).foldr (fun o r => match o, r with | some x, some y => some (x :: y) | _, _ => none) (some [])
/-! recoveries -/
inductive Mv where
  | store (s : Sto)
  | copy (l w fl fw : Nat)
abbrev Stp := List Cond × List Mv
def writtenOf (m : Mv) (x : Words) : Sto := match m with
  | .store s => s
  | .copy l w fl fw => ⟨l, w, at2 x fl fw⟩
def putW (x : Words) (s : Sto) : Words := x.set s.l ((x.getD s.l []).set s.w s.n)
def mvStep (s : List Sto × Words) (m : Mv) : List Sto × Words := (s.1 ++ [writtenOf m s.2], putW s.2 (writtenOf m s.2))
def stStep (s : List Sto × Words) (p : Stp) : List Sto × Words := if p.1.all (fun c => c.metW s.2) then p.2.foldl mvStep s else s
def recovered (r : List Stp) (x : Words) : List Sto × Words := r.foldl stStep ([], x)
def settleOf (r : List Stp) (x : Words) : Words := (recovered r x).2
def imgsOf (bs : List Bx) : List Img := bs.flatMap fun b => (List.range (bxSize b)).map (bxAt b)
def storeCs (ss : List Sto) : List Cmd := ss.map Cmd.store
def lookedFor (n : Nat) (r : List Stp) (good : List Words) (x : Words) : Option (Option Img × Words) :=
  if (recovered r x).2 ∈ good then
    (imgsOf (boxesOf n (storeCs (recovered r x).1))).findSome? fun i =>
      if (recovered r (wordsOf (statesOf (recovered r x).1 x) i)).2 ∈ good then none else some (some i, (recovered r (wordsOf (statesOf (recovered r x).1 x) i)).2)
  else some (none, (recovered r x).2)
end Ls

/-! LsRules -/
/-! small rules, and what the program's objects stand for -/
namespace Ls
open PySem PySem.Spec PyProof.Rows L2
theorem hu65 {k : Nat} {A : Around} (hr : Room k A) : A.units + 65 < cLine := by
  have := hr.un
  omega
section
variable {X : Cx} {k : Nat} {f C : Addr} {ps : List Str} {sp : Sp} {x m : Str} {p pos apos : Pos} {e o : Expr} {es : List Expr} {ta : TE} {t : TA} {pl : Sem Bool}
theorem pe_gl {v : V} (h : ∃ u, X.mg x = some u ∧ RelV v u) (hg : Gl X x := by rfl) (hd : (x == ("__debug__" : Str)) = false := by decide) : PE X (.Name x pos) (tC v) := by
  obtain ⟨u, h1, h2⟩ := h
  exact pe_glob hg h1 h2 hd
theorem pe_mth (he : PE X o ta) (c : Cls X.K C) (hm : Meth X.K C m f) (D : Dk X.prog X.w X.K X.mg X.base f k ps sp) (hr : Room k X.A) (ha : PA X (e :: es) t)
    (hst : starEach (e :: es) X.env = (false, eval e X.env) :: starEach es X.env := by rfl) (hpl : (backTo pos (starEach es X.env)).any (·.1) = false := by rfl)
    (ht : eval (.Call (.Attribute o m apos) (e :: es) [] pos) X.env = (do
      let ov ← eval o X.env
      standAt apos.atName
      let (f, first) ← holding [ov] (getMethod ov m pl)
      callWith pos f first (backTo pos (starEach (e :: es) X.env)) (backToKw pos (keywordEach [] X.env))) := by rfl) : PE X (.Call (.Attribute o m apos) (e :: es) [] pos) (tMeth C m sp [] E0 ta t) := by
  obtain ⟨fd, b, F⟩ := D.ex
  exact pe_meth he c hm F hr b .nil pass0 ha hst hpl ht
theorem pe_mth0 (he : PE X o ta) (c : Cls X.K C) (hm : Meth X.K C m f) (D : Dk X.prog X.w X.K X.mg X.base f k ps sp) (hr : Room k X.A)
    (ht : eval (.Call (.Attribute o m apos) [] [] pos) X.env = (do
      let ov ← eval o X.env
      standAt apos.atName
      let (f, first) ← holding [ov] (getMethod ov m pl)
      callWith pos f first (backTo pos (starEach [] X.env)) (backToKw pos (keywordEach [] X.env))) := by rfl) : PE X (.Call (.Attribute o m apos) [] [] pos) (tMeth C m sp [] E0 ta tNil) := by
  obtain ⟨fd, b, F⟩ := D.ex
  exact pe_meth0 he c hm F hr b .nil pass0 ht
/-- the same expression read in two ways -/
def tAlt (t u : TE) : TE := fun σ H Q => t σ H Q ∨ u σ H Q
theorem pe_alt {t u : TE} (h1 : PE X e t) (h2 : PE X e u) : PE X e (tAlt t u) := ⟨fun pins s σ H Q I h => h.elim (h1.run pins s σ H Q I) (h2.run pins s σ H Q I)⟩
def iAlt (t u : TI) : TI := fun σ H R => t σ H R ∨ u σ H R
theorem pi_alt {tg : Expr} {t u : TI} (h1 : PI X tg e t) (h2 : PI X tg e u) : PI X tg e (iAlt t u) := ⟨fun pins s σ H R I h => h.elim (h1.run pins s σ H R I) (h2.run pins s σ H R I)⟩
def iSeq (K : PySem.W.Frag) (ta : TE) : TI := iAlt (iList K ta) (iTup K ta)
theorem pi_seq {tg : Expr} (h : PE X e ta) : PI X tg e (iSeq X.K ta) := pi_alt (pi_list h) (pi_tup h)
end
section
variable {F : Fm} {σ : L2.St} {G G' H H' : Hp} {R S : Rp} {Rs Ys Zs : List Rp} {ta tb te tc : TE} {t u : TT} {ts : TA} {K : PySem.W.Frag} {C : Addr} {x y z v : V} {wi : TI}
theorem ev_altL {t u : TE} (h : Ev F t σ G R) : Ev F (tAlt t u) σ G R := fun G1 H1 e a Q q => .inl (h G1 H1 e a Q q)
theorem ev_altR {t u : TE} (h : Ev F u σ G R) : Ev F (tAlt t u) σ G R := fun G1 H1 e a Q q => .inr (h G1 H1 e a Q q)
theorem ei_seqL {i : Nat} {v : V} (hi : σ[i]? = some (some v)) (h : (rSeq Ys).p v G) : EvI F (iSeq K (tVar i)) σ G Ys := by
  rcases h with h | h
  · exact fun G1 H1 e a Q q => .inr (ei_tup (ev_var hi h) G1 H1 e a Q q)
  · exact fun G1 H1 e a Q q => .inl (ei_list (ev_var hi h) G1 H1 e a Q q)
/-! len, items -/
theorem ev_lenT (h : Ev F ta σ G (rTup Rs)) : Ev F (tCB (fun xs H Q => ∃ p ys, xs = [.ref p] ∧ (SqL K H p ys ∨ SqT K H p ys) ∧ Q (.int ys.length) H) (tCons ta tNil)) σ G (isN Rs.length) :=
  ev_cbv (ea_cons h ea_nil) fun vs G1 H1 _ eh hs Q q => by
    cases hs with
    | cons r t =>
      cases t
      obtain ⟨a, ys, rfl, ha, hy⟩ := r
      exact ⟨a, ys, rfl, .inr (st_of (eh _ _ ha)), q _ (by rw [hy.len]; rfl)⟩
theorem ev_lenL (h : Ev F ta σ G (rLst Rs)) : Ev F (tCB (fun xs H Q => ∃ p ys, xs = [.ref p] ∧ (SqL K H p ys ∨ SqT K H p ys) ∧ Q (.int ys.length) H) (tCons ta tNil)) σ G (isN Rs.length) :=
  ev_cbv (ea_cons h ea_nil) fun vs G1 H1 _ eh hs Q q => by
    cases hs with
    | cons r t =>
      cases t
      obtain ⟨a, ys, rfl, ha, hy⟩ := r
      exact ⟨a, ys, rfl, .inl (sq_of (eh _ _ ha)), q _ (by rw [hy.len]; rfl)⟩
theorem ev_ixT {i : Nat} (h : Ev F ta σ G (rTup Rs)) (hi : Ev F tb σ G (isN i)) (hR : Rs[i]? = some R) : Ev F (tOp (rIxT K) ta tb) σ G R :=
  ev_opv h hi fun x y G1 H1 _ eh ⟨a, ys, hx, ha, hs⟩ hy Q q => by
    obtain ⟨v, hv, rv⟩ := hs.get hR
    exact ⟨a, ys, i, v, hx, hy, st_of (eh _ _ ha), atI_nat hv, q v rv⟩
theorem ev_ixL {i : Nat} (h : Ev F ta σ G (rLst Rs)) (hi : Ev F tb σ G (isN i)) (hR : Rs[i]? = some R) : Ev F (tOp (rIxL K) ta tb) σ G R :=
  ev_opv h hi fun x y G1 H1 _ eh ⟨a, ys, hx, ha, hs⟩ hy Q q => by
    obtain ⟨v, hv, rv⟩ := hs.get hR
    exact ⟨a, ys, i, v, hx, hy, sq_of (eh _ _ ha), atI_nat hv, q v rv⟩
/-- tuple(x) of a list or a tuple -/
abbrev rTupOf (K : PySem.W.Frag) : List V → Hp → VK → Prop := fun xs H Q => ∃ p ys, xs = [.ref p] ∧ ((SqL K H p ys ∧ ∀ l, H l = none → Q (.ref l) (upd H l (.tup ys))) ∨ (SqT K H p ys ∧ Q (.ref p) H))
theorem ev_tupleL (h : Ev F ta σ G (rLst Rs)) : Ev F (tCB (rTupOf K) (tCons ta tNil)) σ G (rTup Rs) :=
  ev_cb (ea_cons h ea_nil) fun vs G1 H1 _ eh hs Q q => by
    cases hs with
    | cons r t =>
      cases t
      obtain ⟨a, ys, rfl, ha, hy⟩ := r
      exact ⟨a, ys, rfl, .inl ⟨sq_of (eh _ _ ha), fun l hl => q _ _ _ (Gr.new (At.no eh) hl) ⟨l, ys, rfl, upd_same, hy.mo (Ex.new (eh.back hl))⟩⟩⟩
theorem ev_tupleT (h : Ev F ta σ G (rTup Rs)) : Ev F (tCB (rTupOf K) (tCons ta tNil)) σ G (rTup Rs) :=
  ev_cb (ea_cons h ea_nil) fun vs G1 H1 _ eh hs Q q => by
    cases hs with
    | cons r t =>
      cases t
      obtain ⟨a, ys, rfl, ha, hy⟩ := r
      exact ⟨a, ys, rfl, .inr ⟨st_of (eh _ _ ha), q _ _ _ (Gr.refl (At.no eh)) ⟨a, ys, rfl, ha, hy⟩⟩⟩
theorem ev_tupleS (h : Ev F ta σ G (rSeq Rs)) : Ev F (tCB (rTupOf K) (tCons ta tNil)) σ G (rTup Rs) :=
  ev_cb (ea_cons h ea_nil) fun vs G1 H1 _ eh hs Q q => by
    cases hs with
    | cons r t =>
      cases t
      rcases r with ⟨a, ys, rfl, ha, hy⟩ | ⟨a, ys, rfl, ha, hy⟩
      · exact ⟨a, ys, rfl, .inr ⟨st_of (eh _ _ ha), q _ _ _ (Gr.refl (At.no eh)) ⟨a, ys, rfl, ha, hy⟩⟩⟩
      · exact ⟨a, ys, rfl, .inl ⟨sq_of (eh _ _ ha), fun l hl => q _ _ _ (Gr.new (At.no eh) hl) ⟨l, ys, rfl, upd_same, hy.mo (Ex.new (eh.back hl))⟩⟩⟩
/-- list(x), known -/
abbrev rLstOf (K : PySem.W.Frag) : List V → Hp → VK → Prop := fun xs H Q => ∃ p ys, xs = [.ref p] ∧ (SqL K H p ys ∨ SqT K H p ys) ∧ ∀ l, H l = none → Q (.ref l) (upd H l (.lst ys))
theorem ev_listT (h : Ev F ta σ G (rTup Rs)) : Ev F (tCB (rLstOf K) (tCons ta tNil)) σ G (rLst Rs) :=
  ev_cb (ea_cons h ea_nil) fun vs G1 H1 _ eh hs Q q => by
    cases hs with
    | cons r t =>
      cases t
      obtain ⟨a, ys, rfl, ha, hy⟩ := r
      exact ⟨a, ys, rfl, .inr (st_of (eh _ _ ha)), fun l hl => q _ _ _ (Gr.new (At.no eh) hl) ⟨l, ys, rfl, upd_same, hy.mo (Ex.new (eh.back hl))⟩⟩
theorem ev_sum {ns : List Int} (h : Ev F ta σ G (rLst (ns.map isI))) : Ev F (tCB (rSum K) (tCons ta tNil)) σ G (isI ns.sum) :=
  ev_cbv (ea_cons h ea_nil) fun vs G1 H1 _ eh hs Q q => by
    cases hs with
    | cons r t =>
      cases t
      obtain ⟨a, ys, rfl, ha, hy⟩ := r
      have e := all_vals hy
      subst e
      exact ⟨a, ns, rfl, sq_of (eh _ _ ha), q _ rfl⟩
theorem ev_all {bs : List Bool} (h : Ev F ta σ G (rLst (bs.map isB))) : Ev F (tCB (rAll K) (tCons ta tNil)) σ G (isB (bs.all id)) :=
  ev_cbv (ea_cons h ea_nil) fun vs G1 H1 _ eh hs Q q => by
    cases hs with
    | cons r t =>
      cases t
      obtain ⟨a, ys, rfl, ha, hy⟩ := r
      have e := all_vals hy
      subst e
      exact ⟨a, bs, rfl, sq_of (eh _ _ ha), q _ rfl⟩
/-- isinstance(x, D), x an instance of the class at C -/
theorem ev_isi {C D : Addr} {fs : List (Str × Rp)} {b : Bool} (h : Ev F ta σ G (rIns C fs)) (k : PySem.W.kitOne K (.ref C) (.ref D) = some b)
    (ty : ∀ (H : Hp) (a dx : Addr) (vs : List (Str × V)), H a = some (.ins C dx vs) → TyX K H (.ref a) (.ref C)) : Ev F (tCB (rIsi K) (tCons ta (tCons (tC (.ref D)) tNil))) σ G (isB b) :=
  ev_cbv (ea_cons h (ea_cons ev_c ea_nil)) fun vs G1 H1 _ eh hs Q q => by
    cases hs with
    | cons r t =>
      cases t with
      | cons r2 t =>
        cases t
        obtain ⟨a, dx, vs, rfl, ha, _⟩ := r
        cases r2
        exact ⟨_, _, .ref C, .ref D, b, rfl, .own D, ty H1 a dx vs (eh _ _ ha), k, q _ rfl⟩
end
/-! ### the program's objects -/
def rAny : Rp := ⟨fun _ _ => True, fun _ _ _ _ h => h⟩
section
variable (K : PySem.W.Frag)
def rMem (sz : List Nat) : Rp := rIns (He.ga K "Memory") [("sizes", rTup (sz.map isN))]
def rSto (s : Sto) : Rp := rIns (He.ga K "Store") [("line", isN s.l), ("word", isN s.w), ("number", isI s.n)]
def rCmd : Cmd → Rp
  | .store s => rSto K s
  | .flush l => rIns (He.ga K "Flush") [("line", isN l)]
  | .fence => rIns (He.ga K "Fence") []
def rProg (sz : List Nat) (cs : List Cmd) : Rp := rIns (He.ga K "Program") [("memory", rMem K sz), ("commands", rTup (cs.map (rCmd K)))]
def rBx (b : Bx) : Rp := rIns (He.ga K "Box") [("time", rAny), ("low", rTup (b.1.map isN)), ("high", rTup (b.2.map isN))]
def rNums (ns : List Int) : Rp := rSome fun ms : List Int => rIf (∀ x, x ∈ ms ↔ x ∈ ns) (rTup (ms.map isI))
def rCond (c : Cond) : Rp := rIns (He.ga K "Is") [("line", isN c.l), ("word", isN c.w), ("numbers", rNums c.ns)]
def rMv : Mv → Rp
  | .store s => rSto K s
  | .copy l w fl fw => rIns (He.ga K "Copy") [("line", isN l), ("word", isN w), ("from_line", isN fl), ("from_word", isN fw)]
def rStp (p : Stp) : Rp := rIns (He.ga K "Step") [("conditions", rTup (p.1.map (rCond K))), ("moves", rTup (p.2.map (rMv K)))]
def rRec (sz : List Nat) (r : List Stp) : Rp := rIns (He.ga K "Recovery") [("memory", rMem K sz), ("steps", rTup (r.map (rStp K)))]
end
def rWords (x : Words) : Rp := rTup (x.map fun l => rTup (l.map isI))
def rNow (x : Words) : Rp := rLst (x.map fun l => rLst (l.map isI))
def rImg (i : Img) : Rp := rTup (i.map isN)
def rOpt {α : Type} (R : α → Rp) : Option α → Rp
  | none => isV .non
  | some x => R x
def rFail (K : PySem.W.Frag) (i : Img) (s : Option Img) (x : Words) : Rp := rIns (He.ga K "Failed") [("image", rImg i), ("second", rOpt rImg s), ("words", rWords x)]
end Ls

/-! LsDat -/
/-! data: == and in of what is made of ints, None, tuples and lists -/
namespace Ls
open PySem PySem.Spec PyProof.Rows L2
def Sh (n : Nat) (d : PyData) : Prop := d.canLay0 = true ∧ d.depth ≤ n
theorem Sh.le {n m : Nat} {d : PyData} (h : Sh n d) (e : n ≤ m) : Sh m d := ⟨h.1, Nat.le_trans h.2 e⟩
theorem sh_int {i : Int} {n : Nat} : Sh n (.int i) := ⟨by simp [PyData.canLay0], by simp [PyData.depth]⟩
theorem sh_none {n : Nat} : Sh n .none := ⟨by simp [PyData.canLay0], by simp [PyData.depth]⟩
theorem sh_all {n : Nat} : ∀ {ds : List PyData}, (∀ d ∈ ds, Sh n d) → PyData.canLayAll0 ds = true ∧ PyData.depthAll ds ≤ n
  | [], _ => ⟨by simp [PyData.canLayAll0], by simp [PyData.depthAll]⟩
  | d :: ds, h => by
    obtain ⟨a, b⟩ := h d List.mem_cons_self
    obtain ⟨c, e⟩ := sh_all (ds := ds) fun x hx => h x (List.mem_cons_of_mem _ hx)
    refine ⟨by simp [PyData.canLayAll0, a, c], ?_⟩
    simp only [PyData.depthAll]
    omega
theorem sh_tup {n : Nat} {ds : List PyData} (h : ∀ d ∈ ds, Sh n d) : Sh (n + 1) (.tuple ds) := by
  obtain ⟨a, b⟩ := sh_all h
  refine ⟨by simp only [PyData.canLay0]; exact a, ?_⟩
  simp only [PyData.depth]
  omega
theorem sh_lst {n : Nat} {ds : List PyData} (h : ∀ d ∈ ds, Sh n d) : Sh (n + 1) (.list ds) := by
  obtain ⟨a, b⟩ := sh_all h
  refine ⟨by simp only [PyData.canLay0]; exact a, ?_⟩
  simp only [PyData.depth]
  omega
theorem Sh.ok {n : Nat} {d : PyData} (h : Sh n d) (e : n ≤ 64 := by decide) : SeqAt.shaped d = true := by
  show (d.canLay0 && decide (d.depth ≤ 64)) = true
  rw [Bool.and_eq_true]
  exact ⟨h.1, decide_eq_true (Nat.le_trans h.2 e)⟩
def Enc {α : Type} [DecidableEq α] (f : α → PyData) : Prop := ∀ x y, PyData.eqv (f x) (f y) = decide (x = y)
theorem enc_int : Enc (fun i : Int => PyData.int i) := fun x y => by
  simp only [PyData.eqv]
  exact Bool.beq_eq_decide_eq x y
theorem enc_nat : Enc (fun n : Nat => PyData.int (n : Int)) := fun x y => by
  simp only [PyData.eqv]
  rw [Bool.beq_eq_decide_eq]
  by_cases h : x = y
  · subst h
    simp
  · rw [decide_eq_false h, decide_eq_false (by omega)]
section
variable {α β : Type} [DecidableEq α] [DecidableEq β] {f : α → PyData} {g : β → PyData}
theorem enc_all (h : Enc f) : ∀ xs ys : List α, PyData.eqvAll (xs.map f) (ys.map f) = decide (xs = ys)
  | [], [] => by simp [PyData.eqvAll]
  | [], y :: ys => by simp [PyData.eqvAll]
  | x :: xs, [] => by simp [PyData.eqvAll]
  | x :: xs, y :: ys => by
    simp only [List.map_cons, PyData.eqvAll]
    rw [h x y, enc_all h xs ys]
    by_cases h1 : x = y
    · by_cases h2 : xs = ys
      · rw [decide_eq_true h1, decide_eq_true h2, decide_eq_true (by rw [h1, h2])] <;> rfl
      · rw [decide_eq_false h2, Bool.and_false, decide_eq_false fun z => h2 (List.cons.inj z).2]
    · rw [decide_eq_false h1, Bool.false_and, decide_eq_false fun z => h1 (List.cons.inj z).1]
theorem enc_tup (h : Enc f) : Enc (fun xs : List α => PyData.tuple (xs.map f)) := fun xs ys => by
  simp only [PyData.eqv]
  exact enc_all h xs ys
theorem enc_lst (h : Enc f) : Enc (fun xs : List α => PyData.list (xs.map f)) := fun xs ys => by
  simp only [PyData.eqv]
  exact enc_all h xs ys
theorem enc_pair (h : Enc f) (k : Enc g) : Enc (fun p : α × β => PyData.tuple [f p.1, g p.2]) := fun x y => by
  obtain ⟨a, b⟩ := x
  obtain ⟨c, d⟩ := y
  simp only [PyData.eqv, PyData.eqvAll]
  rw [h a c, k b d, Bool.and_true]
  by_cases h1 : a = c
  · by_cases h2 : b = d
    · rw [decide_eq_true h1, decide_eq_true h2, decide_eq_true (by rw [h1, h2])] <;> rfl
    · rw [decide_eq_false h2, Bool.and_false, decide_eq_false fun z => h2 (Prod.mk.inj z).2]
  · rw [decide_eq_false h1, Bool.false_and, decide_eq_false fun z => h1 (Prod.mk.inj z).1]
theorem enc_any0 (h : Enc f) (x : α) : ∀ xs : List α, ((xs.map f).any fun z => PyData.eqv z (f x)) = true ↔ x ∈ xs
  | [] => by simp
  | y :: ys => by
    rw [List.map_cons, List.any_cons, Bool.or_eq_true, enc_any0 h x ys, h y x, decide_eq_true_iff, List.mem_cons]
    exact ⟨fun z => z.elim (fun z => .inl z.symm) .inr, fun z => z.elim (fun z => .inl z.symm) .inr⟩
theorem enc_any (h : Enc f) (x : α) (xs : List α) {inst : Decidable (x ∈ xs)} : ((xs.map f).any fun z => PyData.eqv z (f x)) = @decide (x ∈ xs) inst := by
  rw [Bool.eq_iff_iff, enc_any0 h x xs, decide_eq_true_iff]
end
/-! the words' encodings -/
def eInts (l : List Int) : PyData := .tuple (l.map fun i => PyData.int i)
def eWords (x : Words) : PyData := .tuple (x.map eInts)
def eImg (i : Img) : PyData := .tuple (i.map fun n : Nat => PyData.int (n : Int))
def eOpt : Option Img → PyData
  | none => .none
  | some i => eImg i
def ePair (p : Option Img × Words) : PyData := .tuple [eOpt p.1, eWords p.2]
theorem enc_ints : Enc eInts := enc_tup enc_int
theorem enc_words : Enc eWords := enc_tup enc_ints
theorem enc_img : Enc eImg := enc_tup enc_nat
theorem enc_opt : Enc eOpt := fun x y => by
  cases x with
  | none =>
    cases y with
    | none => simp [eOpt, PyData.eqv]
    | some j => simp [eOpt, eImg, PyData.eqv]
  | some i =>
    cases y with
    | none => simp [eOpt, eImg, PyData.eqv]
    | some j =>
      show PyData.eqv (eImg i) (eImg j) = _
      rw [enc_img i j]
      by_cases h : i = j
      · rw [decide_eq_true h, decide_eq_true (by rw [h])]
      · rw [decide_eq_false h, decide_eq_false fun z => h (Option.some.inj z)]
theorem enc_pr : Enc ePair := enc_pair enc_opt enc_words
theorem sh_ints {l : List Int} : Sh 1 (eInts l) := sh_tup fun d hd => by
  obtain ⟨i, _, rfl⟩ := List.mem_map.mp hd
  exact sh_int
theorem sh_words {x : Words} : Sh 2 (eWords x) := sh_tup fun d hd => by
  obtain ⟨i, _, rfl⟩ := List.mem_map.mp hd
  exact sh_ints
theorem sh_img {i : Img} : Sh 1 (eImg i) := sh_tup fun d hd => by
  obtain ⟨i, _, rfl⟩ := List.mem_map.mp hd
  exact sh_int
theorem sh_opt {i : Option Img} : Sh 1 (eOpt i) := by
  cases i with
  | none => exact sh_none
  | some i => exact sh_img
theorem sh_pr {p : Option Img × Words} : Sh 3 (ePair p) := sh_tup fun d hd => by
  rcases List.mem_cons.mp hd with rfl | hd
  · exact sh_opt.le (by decide)
  · rcases List.mem_cons.mp hd with rfl | hd
    · exact sh_words
    · cases hd
theorem sh_map {α : Type} {f : α → PyData} {n : Nat} (h : ∀ x, Sh n (f x)) (xs : List α) : Sh (n + 1) (.list (xs.map f)) := sh_lst fun d hd => by
  obtain ⟨i, _, rfl⟩ := List.mem_map.mp hd
  exact h i
/-! what a value that stands for data is -/
def Dat (K : PySem.W.Frag) (R : Rp) (d : PyData) : Prop := ∀ v G, R.p v G → Dp K G v d
section
variable {K : PySem.W.Frag} {R S : Rp} {d e : PyData}
theorem dat_int {i : Int} : Dat K (isI i) (.int i) := fun v G h => by
  cases h
  exact .int i
theorem dat_nat {i : Nat} : Dat K (isN i) (.int (i : Int)) := fun v G h => by
  cases h
  exact .int i
theorem dat_none : Dat K (isV .non) .none := fun v G h => by
  cases h
  exact .non
theorem dat_str {x : Str} : Dat K (isV (.str x)) (.str x) := fun v G h => by
  cases h
  exact .str x
theorem dat_all : ∀ {Rs : List Rp} {ds : List PyData} {vs : List V} {G : Hp}, Paired (Dat K) Rs ds → All Rs vs G → DpAll K G vs ds
  | _, _, _, _, .nil, .nil => .nil
  | _, _, _, _, .cons r t, .cons a b => .cons (r _ _ a) (dat_all t b)
theorem dat_tup {Rs : List Rp} {ds : List PyData} (h : Paired (Dat K) Rs ds) : Dat K (rTup Rs) (.tuple ds) := fun v G ⟨a, vs, hv, ha, hs⟩ => by
  subst hv
  exact .tup (st_of ha) (dat_all h hs)
theorem dat_lst {Rs : List Rp} {ds : List PyData} (h : Paired (Dat K) Rs ds) : Dat K (rLst Rs) (.list ds) := fun v G ⟨a, vs, hv, ha, hs⟩ => by
  subst hv
  exact .lst (sq_of ha) (dat_all h hs)
theorem dat_map {α : Type} {f : α → Rp} {g : α → PyData} (h : ∀ x, Dat K (f x) (g x)) : ∀ xs : List α, Paired (Dat K) (xs.map f) (xs.map g)
  | [] => .nil
  | x :: xs => .cons (h x) (dat_map h xs)
theorem dat_ints {l : List Int} : Dat K (rTup (l.map isI)) (eInts l) := dat_tup (dat_map (fun _ => dat_int) l)
theorem dat_words {x : Words} : Dat K (rWords x) (eWords x) := dat_tup (dat_map (fun _ => dat_ints) x)
theorem dat_img {i : Img} : Dat K (rImg i) (eImg i) := dat_tup (dat_map (fun _ => dat_nat) i)
theorem dat_opt {i : Option Img} : Dat K (rOpt rImg i) (eOpt i) := by
  cases i with
  | none => exact dat_none
  | some i => exact dat_img
def rPair (p : Option Img × Words) : Rp := rTup [rOpt rImg p.1, rWords p.2]
theorem dat_pr {p : Option Img × Words} : Dat K (rPair p) (ePair p) := dat_tup (.cons dat_opt (.cons dat_words .nil))
variable {F : Fm} {σ : L2.St} {G : Hp} {ta tb : TE}
theorem ev_eqD {n m : Nat} (ha : Ev F ta σ G R) (hb : Ev F tb σ G S) (hd : Dat K R d) (he : Dat K S e) (sd : Sh n d) (se : Sh m e) (hn : n ≤ 64 := by decide) (hm : m ≤ 64 := by decide) : Ev F (tOp (rEqD K) ta tb) σ G (isB (PyData.eqv d e)) :=
  ev_opv ha hb fun x y G1 H1 _ eh rx ry Q q => ⟨d, e, hd x H1 (R.mo x _ _ eh rx), he y H1 (S.mo y _ _ eh ry), sd.ok hn, se.ok hm, q _ rfl⟩
theorem ev_neD {n m : Nat} (ha : Ev F ta σ G R) (hb : Ev F tb σ G S) (hd : Dat K R d) (he : Dat K S e) (sd : Sh n d) (se : Sh m e) (hn : n ≤ 64 := by decide) (hm : m ≤ 64 := by decide) : Ev F (tOp (rNeD K) ta tb) σ G (isB (!PyData.eqv d e)) :=
  ev_opv ha hb fun x y G1 H1 _ eh rx ry Q q => ⟨d, e, hd x H1 (R.mo x _ _ eh rx), he y H1 (S.mo y _ _ eh ry), sd.ok hn, se.ok hm, q _ rfl⟩
theorem ev_inD {n m : Nat} {ds : List PyData} (ha : Ev F ta σ G R) (hb : Ev F tb σ G S) (hd : Dat K R d) (he : Dat K S (.list ds)) (sd : Sh n d) (se : Sh m (.list ds)) (hn : n ≤ 64 := by decide) (hm : m ≤ 64 := by decide) : Ev F (tOp (rInD K) ta tb) σ G (isB (ds.any fun z => PyData.eqv z d)) :=
  ev_opv ha hb fun x y G1 H1 _ eh rx ry Q q => ⟨d, ds, hd x H1 (R.mo x _ _ eh rx), he y H1 (S.mo y _ _ eh ry), sd.ok hn, se.ok hm, q _ rfl⟩
theorem ev_niD {n m : Nat} {ds : List PyData} (ha : Ev F ta σ G R) (hb : Ev F tb σ G S) (hd : Dat K R d) (he : Dat K S (.list ds)) (sd : Sh n d) (se : Sh m (.list ds)) (hn : n ≤ 64 := by decide) (hm : m ≤ 64 := by decide) : Ev F (tOp (rNotInD K) ta tb) σ G (isB (!ds.any fun z => PyData.eqv z d)) :=
  ev_opv ha hb fun x y G1 H1 _ eh rx ry Q q => ⟨d, ds, hd x H1 (R.mo x _ _ eh rx), he y H1 (S.mo y _ _ eh ry), sd.ok hn, se.ok hm, q _ rfl⟩
/-- words in a list of words -/
def rGood (g : List Words) : Rp := rLst (g.map rWords)
theorem dat_good {g : List Words} : Dat K (rGood g) (.list (g.map eWords)) := dat_lst (dat_map (fun _ => dat_words) g)
theorem ev_inG {x : Words} {g : List Words} (ha : Ev F ta σ G (rWords x)) (hb : Ev F tb σ G (rGood g)) : Ev F (tOp (rInD K) ta tb) σ G (isB (decide (x ∈ g))) := by
  have h := ev_inD (K := K) ha hb dat_words dat_good sh_words (sh_map (fun _ => sh_words) g)
  rw [enc_any enc_words x g (inst := inferInstance)] at h
  exact h
theorem ev_niG {x : Words} {g : List Words} (ha : Ev F ta σ G (rWords x)) (hb : Ev F tb σ G (rGood g)) : Ev F (tOp (rNotInD K) ta tb) σ G (isB (!decide (x ∈ g))) := by
  have h := ev_niD (K := K) ha hb dat_words dat_good sh_words (sh_map (fun _ => sh_words) g)
  rw [enc_any enc_words x g (inst := inferInstance)] at h
  exact h
end
end Ls

/-! LsOwn1 -/
set_option maxHeartbeats 4000000
/-! rules of our own: C() without an __init__, (0,) * k -/
namespace Ls
open PySem PySem.Spec PyProof.Rows L2
section
variable {X : Cx} {x : Str} {p pos : Pos} {C : Addr}
/-- C() of a class without an __init__ -/
def tMake0 (C : Addr) : TE := fun _ H Q => ∀ x dx, H x = none → H dx = none → dx ≠ x → Q (.ref x) (upd (upd H dx (.own x)) x (.ins C dx []))
theorem run_make0 {pins : List (Addr × Obj)} {σ : L2.St} {H : Hp} {s : Shared} {Q : VK} (hm : PySem.W.makesIn X.K C = true) (hi : PySem.W.findIn X.K (.ref C) "__init__" = some (some (.builtin "object.__init__")))
    (I : Inv X pins σ H s) (h : tMake0 C σ H Q) : wpAny (model X.prog X.w) X.A (call (.ref C) []) (EP X pins σ Q) X.xe s := by
  have hq := h (s.heap.objs.size + 1) s.heap.objs.size (I.hok.fresh (Nat.le_succ _)) (I.hok.fresh (Nat.le_refl _)) (Nat.ne_of_lt (Nat.lt_succ_self _))
  have I2 := Inv.made (C := C) I
  have e1 : ((s.heap.push PySem.W.emptyDict).push (PySem.W.instObj C s.heap.objs.size)).get? (s.heap.objs.size + 1) = some (PySem.W.instObj C s.heap.objs.size) := by
    have z := Heap.get?_push_size (h := s.heap.push PySem.W.emptyDict) (o := PySem.W.instObj C s.heap.objs.size) rfl
    rw [Heap.size_push] at z
    exact z
  have t1 : PySem.W.Looks (model X.prog X.w) ((s.heap.push PySem.W.emptyDict).push (PySem.W.instObj C s.heap.objs.size)) (typeOf (.ref (s.heap.objs.size + 1))) (.ref C) := (PySem.W.Looks.ld e1).andThen .now
  have Y := PySem.W.makes_of (M := model X.prog X.w) I.kIn hm
  have t2 : PySem.W.Looks (model X.prog X.w) ((s.heap.push PySem.W.emptyDict).push (PySem.W.instObj C s.heap.objs.size)) (isInstance (.ref (s.heap.objs.size + 1)) (.type "object")) true :=
    t1.andThen (Y.top.keeps fun b o e => Heap.get?_push_of_some _ (Heap.get?_push_of_some _ e))
  refine wpAny_call (make_map0 I.kIn hm hi (fun self => PySem.W.Looks.of_pure (PySem.W.oi_bind self)) ?_)
  refine codeAny_call_builtin PySem.W.oi_plain PySem.W.entry_oi (@PySem.W.check_slot (model X.prog X.w) _ _ _ "object.__init__" "object" "__init__" (.ref (s.heap.objs.size + 1)) [] [] _ PySem.W.oi_kind PySem.W.oi_split t2 (PySem.W.oi_args (.ref (s.heap.objs.size + 1))) ?_)
  rw [PySem.W.oi_run]
  exact wpAny_pure (And.intro rfl ⟨V.ref (s.heap.objs.size + 1), _, I2, rfl, hq⟩)
theorem pe_make00 (hm : PySem.W.makesIn X.K C = true) (hi : PySem.W.findIn X.K (.ref C) "__init__" = some (some (.builtin "object.__init__"))) (hk : PySem.W.keepIn X.K (.ref C) = true) (hx : X.mg x = some (.ref C)) (hg : Gl X x := by rfl)
    (hdb : (x == ("__debug__" : Str)) = false := by decide) : PE X (.Call (.Name x p) [] [] pos) (tMake0 C) := by
  refine ⟨fun pins s σ H Q I h => ?_⟩
  refine wpAny_Call_Name_kw (ld_glob I hg hx ?_ hdb)
  exact PySem.W.callWith_K0 I.kIn hk (run_make0 hm hi I h)
theorem pe_mk0 {k : Nat} (T : Tx X.K X.mg) (hr : Room k X.A) (hg : Gl X "Fence" := by rfl) : PE X (.Call (.Name "Fence" p) [] [] pos) (tMake0 (He.ga X.K "Fence")) :=
  let ⟨a, b, c⟩ := mk0_Fence T
  pe_make00 a b c (g_Fence T) hg
theorem ev_make0 {F : Fm} {σ : L2.St} {G : Hp} : Ev F (tMake0 C) σ G (rIns C []) := fun G1 H1 e a Q q x dx nx nd ne => by
  have g1 : Gr F G1 H1 G1 (upd H1 dx (.own x)) := Gr.newH a nd
  have nx1 : upd H1 dx (.own x) x = none := by
    rw [upd_ne (Ne.symm ne)]
    exact nx
  exact q (.ref x) _ _ (g1.trans (Gr.new g1.at_ nx1)) ⟨x, dx, [], rfl, upd_same, .nil⟩
end
/-! (0,) * k, k at least 1 -/
theorem tuple_mul1 (l : Addr) (items : Array Value) (n : Nat) (dd : Option Addr) (sl : Array (Option Value)) (u : Tok) :
    Meets (Builtin.«tuple.__mul__» ⟨[.ref l, .int 1 u], []⟩) (fun _ R s => s.heap.get? l = some { cls := .type "tuple", dict := dd, data := .seq items n, slots := sl } ∧ R (.ok (.ret (Value.ref l))) s) :=
  .of_wp fun prog w A R s h => by
    obtain ⟨hp, g, d, tk, os⟩ := s
    obtain ⟨hl, h⟩ := h
    have f1 := AutoSeq1.idx_int
    wp_walk using wpAny_loadPart' hl
    exact ⟨_, rfl, h⟩
def rRepZ (K : PySem.W.Frag) : R2 := fun x y H Q => ∃ l k xs, x = .ref l ∧ y = .int k ∧ SqT K H l xs ∧ xs ≠ [] ∧ 1 ≤ k ∧ k ≤ 1000 ∧ xs.length ≤ 1000 ∧ (k = 1 → Q (.ref l) H) ∧ (k ≠ 1 → ∀ p, H p = none → Q (.ref p) (upd H p (.tup (List.replicate k.toNat xs).flatten)))
theorem op_repZ {X : Cx} : OpR X (binaryOp .Mult) (rRepZ X.K) := by
  intro pins s σ H x y v u Q I rx ry h
  obtain ⟨l, k, xs, rfl, rfl, hT, hne, h1, h2, hz, q1, q2⟩ := h
  by_cases hk : k = 1
  · subst hk
    cases rx
    obtain ⟨t, rfl⟩ := ry
    obtain ⟨its, r, ⟨⟨cls, dd, data, sl⟩, ho, hc, n, hd⟩, hs⟩ := I.tuple hT
    simp only at hc hd
    subst hc hd
    refine wpAny_binaryOp_repeat_ref (T := "tuple") (U := "int") (by decide) ⟨_, ho, rfl⟩ (fun s' => typeIs_int s' 1 t) noFill_tuple_mul F.fills_int_mul F.slot_int_rmul repeat_tuple F.slot_int_index.lookup
      (call_meets F.slot_int_rmul (typeIs_int s 1 t) F.entry_int_rmul (F.args_int_rmul_2 _ _) (int_rmul_tuple 1 t l its.toArray n dd sl)
        ⟨ho, rfl, ⟨_, ho, rfl⟩, call_meets F.slot_tuple_mul ⟨_, ho, rfl⟩ F.entry_tuple_mul (F.args_tuple_mul_2 _ _) (tuple_mul1 l its.toArray n dd sl t) ⟨ho, ?_⟩⟩)
    exact ⟨.ref l, H, I, rfl, q1 rfl⟩
  · exact op_repT pins s σ H _ _ v u Q I rx ry ⟨l, k, xs, rfl, rfl, hT, hne, by omega, h2, hz, q2 hk⟩
section
variable {F : Fm} {σ : L2.St} {G : Hp} {R : Rp} {ta tb : TE} {K : PySem.W.Frag}
theorem all_rep {Rs : List Rp} {vs : List V} {G : Hp} (h : All Rs vs G) : ∀ n : Nat, All (List.replicate n Rs).flatten (List.replicate n vs).flatten G
  | 0 => .nil
  | n + 1 => by
    rw [List.replicate_succ, List.replicate_succ, List.flatten_cons, List.flatten_cons]
    exact h.app (all_rep h n)
theorem ev_repZ {k : Nat} (ha : Ev F ta σ G (rTup [R])) (hb : Ev F tb σ G (isN k)) (h1 : 1 ≤ k) (h2 : k ≤ 1000) : Ev F (tOp (rRepZ K) ta tb) σ G (rTup (List.replicate k R)) :=
  ev_op ha hb fun x y G1 H1 _ eh ⟨a, vs, hx, hv, hs⟩ hy Q q => by
    have hl := hs.len
    have fl : ∀ n : Nat, (List.replicate n [R]).flatten = List.replicate n R := fun n => by
      induction n with
      | zero => rfl
      | succ n ih => rw [List.replicate_succ, List.flatten_cons, ih, List.replicate_succ] <;> rfl
    refine ⟨a, k, vs, hx, hy, st_of (eh _ _ hv), (fun z => by rw [z] at hl; cases hl), by omega, by omega, by rw [← hl]; show 1 ≤ 1000; decide, (fun e => ?_), (fun e p hp => ?_)⟩
    · have e1 : k = 1 := by omega
      subst e1
      exact q (.ref a) G1 H1 (Gr.refl (At.no eh)) ⟨a, vs, rfl, hv, hs⟩
    · refine q (.ref p) _ _ (Gr.new (At.no eh) hp) ⟨p, _, rfl, upd_same, ?_⟩
      have z := (all_rep hs k).mo (Ex.new (o := .tup (List.replicate (k : Int).toNat vs).flatten) (eh.back hp))
      rw [fl] at z
      exact z
/-- [0] * k -/
theorem ev_rep {k : Nat} (ha : Ev F ta σ G (rLst [R])) (hb : Ev F tb σ G (isN k)) (h2 : k ≤ 1000) : Ev F (tOp rRep ta tb) σ G (rLst (List.replicate k R)) :=
  ev_op ha hb fun x y G1 H1 _ eh ⟨a, vs, hx, hv, hs⟩ hy Q q => by
    have hl := hs.len
    have fl : ∀ n : Nat, (List.replicate n [R]).flatten = List.replicate n R := fun n => by
      induction n with
      | zero => rfl
      | succ n ih => rw [List.replicate_succ, List.flatten_cons, ih, List.replicate_succ] <;> rfl
    have hl1 : vs.length = 1 := hl.symm
    refine ⟨a, k, vs, hx, hy, eh _ _ hv, by omega, by omega, by rw [hl1, sizeLine_eq]; omega, fun p hp => ?_⟩
    refine q (.ref p) _ _ (Gr.new (At.no eh) hp) ⟨p, _, rfl, upd_same, ?_⟩
    have z := (all_rep hs k).mo (Ex.new (o := .lst (List.replicate (k : Int).toNat vs).flatten) (eh.back hp))
    rw [fl] at z
    exact z
end
end Ls

/-! LsOwn2 -/
/-! rules of our own: x in o and o != o2 by the class's own methods -/
namespace Ls
open PySem PySem.Spec PyProof.Rows L2
theorem one_bind (self : Value) : bindSpecial (.builtin "object.__ne__") self = pure (.builtin "object.__ne__", [self]) := by
  cases self <;> kernel_rfl
theorem one_plain : plainId "object.__ne__" = true := by decide +kernel
section
variable {prog : Program} {w : World} {A : Around} {E : Value → Shared → Prop} {s : Shared} {K : PySem.W.Frag} {x C f : Addr} {ox : Obj} {od : Option Obj} {name : Str}
theorem ifBound_B {id : String} {M : Model} {args : List Value} {Q : Option Value → Shared → Prop} (X : K.In s.heap) (I : PySem.W.InstAt s.heap x ox C od) (hs : PySem.W.findIn K (.ref C) name = some (some (.builtin id)))
    (hb : bindSpecial (.builtin id) (.ref x) = pure (.builtin id, [.ref x])) (h : wpAny M A (call (.builtin id) (.ref x :: args)) (fun v => Q (some v)) E s) : wpAny M A (callSpecialIfBound? (.ref x) name args) Q E s := by
  simp only [callSpecialIfBound?, bindSpecialIfBound?]
  refine wpAny_holding (wpAny_bind (wpAny_bind (wpAny_bind (I.type.here ((PySem.W.looks_findIn X hs).here ?_)))))
  refine wpAny_bind (wpAny_askSetting (wpAny_ite ?_))
  have fin : wpAny M A (call (.builtin id) ([.ref x] ++ args) >>= fun v => pure (some v)) Q E s := wpAny_bind (wpAny_mono h (fun v s' h' => wpAny_pure h') fun _ _ h' => h')
  split
  · rw [hb]
    exact wpAny_bind (wpAny_pure (wpAny_pure (by exact fin)))
  · refine wpAny_tryCatch ?_
    rw [hb]
    exact wpAny_bind (wpAny_pure (wpAny_pure (by exact fin)))
theorem objNe_K {y : Addr} {Q : Fin → Shared → Prop} (X : K.In s.heap) (I : PySem.W.InstAt s.heap x ox C od) (hs : PySem.W.findIn K (.ref C) "__eq__" = some (some (.ref f))) (hf : PySem.W.isFn K (.ref f) = true) (hu : A.units < cLine)
    (hcall : wpAny (model prog w) A (call (.ref f) [.ref x, .ref y]) (fun v s' => ∃ b, v = .bool b ∧ Q (.done (.ret (.bool (!b)))) s') E s) : wpAny (model prog w) A (Builtin.«object.__ne__» ⟨[.ref x, .ref y], []⟩) Q E s := by
  unfold Builtin.«object.__ne__»
  repeat (first
    | with_reducible refine wpAny_cRoomFor hu ?_
    | (refine wpAny_bind (m := callSpecialIfBound? (.ref x) (Str.ofString "__eq__") [.ref y])
        (PySem.W.ifBound_K X I hs hf (wpAny_mono hcall (fun r s' hr => by
          obtain ⟨b, rfl, hq⟩ := hr
          repeat (first | exact hq | exact wpAny_pure hq | exact wpAny_truthy_bool hq | (refine wpAny_bind (m := truthy (.bool _)) (wpAny_truthy_bool ?_)) | wp_step)) fun _ _ e => e)))
    | wp_step)
theorem ne_K {y : Addr} {h₀ : Heap} {L : Addr} {m : Str → Option Value} {Q : Value → Shared → Prop} (hu : A.units + 1 < cLine) (F : Fr h₀ L s.heap m) (X₀ : K.In h₀) (I : PySem.W.InstAt s.heap x ox C od) (hy : PySem.W.Looks (model prog w) s.heap (typeOf (.ref y)) (.ref C))
    (hm : PySem.W.makesIn K C = true) (hn : PySem.W.findIn K (.ref C) "__ne__" = some (some (.builtin "object.__ne__"))) (hs : PySem.W.findIn K (.ref C) "__eq__" = some (some (.ref f))) (hf : PySem.W.isFn K (.ref f) = true)
    (hcall : wpAny (model prog w) A.in1 (call (.ref f) [.ref x, .ref y]) (fun v s' => ∃ b, v = .bool b ∧ Q (.bool (!b)) s') E s) : wpAny (model prog w) A (richCompare .NotEq (.ref x) (.ref y)) Q E s := by
  have X := X₀.keeps F.keep
  have Y := PySem.W.makes_of (M := model prog w) X hm
  have t2 : PySem.W.Looks (model prog w) s.heap (isInstance (.ref x) (.type "object")) true := I.type.andThen Y.top
  have one : wpAny (model prog w) A (tryCompare (.ref x) "__ne__" (.ref y)) (fun r s' => ∃ v, r = some v ∧ Q v s') E s := by
    unfold tryCompare
    refine wpAny_bind (ifBound_B X I hn (one_bind _) (wpAny_call (codeAny_call_builtin one_plain PySem.F.cmpEntry_ne
      (PySem.W.check_slot PySem.F.cmpKind_ne PySem.F.cmpSplit_ne t2 (PySem.F.cmpArgs_ne _ _) (objNe_K (A := A.in1) X I hs hf hu (wpAny_mono hcall (fun v s' hv => ?_) fun _ _ e => e))))))
    obtain ⟨b, rfl, hq⟩ := hv
    first | exact ⟨b, rfl, wpAny_pure ⟨_, rfl, hq⟩⟩ | exact ⟨_, rfl, wpAny_pure ⟨_, rfl, hq⟩⟩ | exact ⟨b, rfl, ⟨_, rfl, wpAny_pure ⟨_, rfl, hq⟩⟩⟩
  unfold richCompare
  simp only [oneThing_ref]
  refine wpAny_holding (wpAny_bind (wpAny_cRoomFor (Nat.lt_of_succ_lt hu) ?_))
  refine wpAny_bind (I.type.here (wpAny_bind (hy.here ?_)))
  split
  · rename_i q
    simp at q
  · refine wpAny_bind (wpAny_pure ?_)
    simp only [Bool.false_eq_true, if_false]
    refine wpAny_bind (wpAny_mono one (fun r s' z => ?_) fun _ _ e => e)
    obtain ⟨v, rfl, hq⟩ := z
    exact wpAny_pure hq
end
section
variable {X : Cx} {k : Nat} {f C : Addr} {ps : List Str} {sp : Sp}
/-- x in o -/
def rInOwn (C : Addr) (sp : Sp) : R2 := fun x y H Q => ∃ a dx fs, y = .ref a ∧ H a = some (.ins C dx fs) ∧ sp [.ref a, x] H (fun v H' => ∃ b, v = .bl b ∧ Q (.bl b) H') E0
theorem op_inOwn0 (D : Dk X.prog X.w X.K X.mg X.base f k ps sp) (hm : Meth X.K C "__contains__" f) (hr : Room k X.A) : OpR X (compareOp .In) (rInOwn C sp) := by
  intro pins s σ H x y v u Q I rx ry h
  obtain ⟨a, dx, fs, rfl, ha, q⟩ := h
  cases ry
  obtain ⟨fd, b, F⟩ := D.ex
  obtain ⟨mA, J, _⟩ := ins_get I.hok ha
  obtain ⟨od, J, _⟩ := J.look
  obtain ⟨m, hF⟩ := I.fr
  refine PySem.W.in_K hF I.ok.mod.kin J hm.at_ hm.fn ?_
  refine thn (run_fn (us := [.ref a, v]) (vs := [.ref a, x]) F hr b .nil pass0 I (.cons rfl (.cons rx .nil)) q) fun r s' hq => ?_
  obtain ⟨z, H', I', rz, c, ez, qq⟩ := hq
  subst ez
  cases rz
  exact wpAny_truthy_bool ⟨.bl c, H', I', rfl, qq⟩
/-- o != o2 -/
def rNeOwn (C : Addr) (sp : Sp) : R2 := fun x y H Q => ∃ a dx fs b dy gs, x = .ref a ∧ H a = some (.ins C dx fs) ∧ y = .ref b ∧ H b = some (.ins C dy gs) ∧ sp [.ref a, .ref b] H (fun v H' => ∃ c, v = .bl c ∧ Q (.bl (!c)) H') E0
theorem op_neOwn0 (D : Dk X.prog X.w X.K X.mg X.base f k ps sp) (hm : Meth X.K C "__eq__" f) (hk : PySem.W.makesIn X.K C = true) (hn : PySem.W.findIn X.K (.ref C) "__ne__" = some (some (.builtin "object.__ne__"))) (hr : Room (k + 1) X.A) : OpR X (compareOp .NotEq) (rNeOwn C sp) := by
  intro pins s σ H x y v u Q I rx ry h
  obtain ⟨a, dx, fs, b, dy, gs, rfl, ha, rfl, hb, q⟩ := h
  cases rx
  cases ry
  obtain ⟨fd, bd, F⟩ := D.ex
  obtain ⟨mA, J, _⟩ := ins_get I.hok ha
  obtain ⟨mB, J', _⟩ := ins_get I.hok hb
  obtain ⟨od, J, _⟩ := J.look
  obtain ⟨od', J', _⟩ := J'.look
  obtain ⟨m, hF⟩ := I.fr
  show wpAny (model X.prog X.w) X.A (richCompare .NotEq (.ref a) (.ref b)) (EP X pins σ Q) X.xe s
  refine ne_K (by have := hr.un; omega) hF I.ok.mod.kin J J'.type hk hn hm.at_ hm.fn ?_
  have hl := F.len _ _ _ _ q
  have r2 : Vals [V.ref a, V.ref b] [Value.ref a, Value.ref b] := .cons rfl (.cons rfl .nil)
  refine wpAny_call (codeAny_mono (F.run X.A.in1 X.stack s H ⟨[.ref a, .ref b], []⟩ [.ref a, .ref b] [.ref a, .ref b] _ E0 hr.in1 I.env0.in1 (by
    have := bd s [.ref a, .ref b] I.kIn (by simpa using hl)
    simpa using this) r2 q) fun r s' hq => ?_)
  cases r with
  | error e => exact (pass0 (X := X) pins σ H s e s' I hq)
  | ok fl =>
    cases fl with
    | ret w =>
      obtain ⟨z, H', I', rz, c, ez, qq⟩ := I.after hq
      subst ez
      cases rz
      exact ⟨c, rfl, .bl (!c), H', I', rfl, qq⟩
    | next => exact False.elim hq
    | brk => exact False.elim hq
    | cont => exact False.elim hq
end
section
variable {F : Fm} {σ : L2.St} {G : Hp} {R S : Rp} {ta tb : TE} {C : Addr}
theorem ev_inOwn {pre : List V → Hp → Rp → Prop} {fs : List (Str × Rp)} {b : Bool} (ha : Ev F ta σ G R) (hb : Ev F tb σ G (rIns C fs)) (hp : ∀ x y G1, Ex G G1 → R.p x G1 → (rIns C fs).p y G1 → pre [y, x] G1 (isB b)) : Ev F (tOp (rInOwn C (Prom pre)) ta tb) σ G (isB b) :=
  ev_op ha hb fun x y G1 H1 e eh rx ry Q q => by
    obtain ⟨a, dx, vs, rfl, h2, h3⟩ := id ry
    exact ⟨a, dx, vs, rfl, eh _ _ h2, G1, isB b, eh, hp x _ G1 e rx ry, fun v G' H' g rv => ⟨b, rv, q _ G' H' g rfl⟩⟩
theorem ev_neOwn {pre : List V → Hp → Rp → Prop} {fs gs : List (Str × Rp)} {b : Bool} (ha : Ev F ta σ G (rIns C fs)) (hb : Ev F tb σ G (rIns C gs)) (hp : ∀ x y G1, Ex G G1 → (rIns C fs).p x G1 → (rIns C gs).p y G1 → pre [x, y] G1 (isB b)) : Ev F (tOp (rNeOwn C (Prom pre)) ta tb) σ G (isB (!b)) :=
  ev_op ha hb fun x y G1 H1 e eh rx ry Q q => by
    obtain ⟨a, dx, vs, rfl, h2, h3⟩ := id rx
    obtain ⟨a', dx', vs', rfl, h2', h3'⟩ := id ry
    exact ⟨a, dx, vs, a', dx', vs', rfl, eh _ _ h2, rfl, eh _ _ h2', G1, isB b, eh, hp _ _ G1 e rx ry, fun v G' H' g rv => ⟨b, rv, q _ G' H' g rfl⟩⟩
end
end Ls

/-! LsOwn3 -/
/-! rules of our own: enumerate(tuple), zip of three tuples -/
namespace PySem
open AutoSeq1 (wpAny_loadPart')
set_option maxHeartbeats 1000000 in
theorem ls_enumerate_newB {v : Value} {o : Obj} {H : Heap → Prop} (B : Begins v o H) :
    Meets (Builtin.«enumerate.__new__» ⟨[.type "enumerate", v], []⟩) (fun _ R s => H s.heap ∧
      R (.ok (.ret (.ref (s.heap.push o).objs.size))) { s with heap := (s.heap.push o).push { cls := .type "enumerate", data := .fields #[.none, .bool false, .ref s.heap.objs.size, rawInt 0, .none, .none] } }) :=
  .of_wp fun prog w A R s h => by
    obtain ⟨hp, g, d, tk, os⟩ := s; obtain ⟨h1, h⟩ := h
    have hsub := sub_enumerate
    have q1 : ∀ {A' : Around} {E : Value → Shared → Prop} {Q : Value → Shared → Prop}, Q (.ref hp.objs.size) ⟨hp.push o, g, d, tk, os⟩ → wpAny (model prog w) A' (pyIter v) Q E ⟨hp, g, d, tk, os⟩ :=
      fun q => B.iter prog w _ _ ⟨hp, g, d, tk, os⟩ _ h1 q
    wp_walk using q1
    refine wpAny_stack_any fun st => wpAny_pure ?_
    split
    · rename_i c _ _ _ _ _
      cases (c == Value.type "enumerate")
      · wp_walk using q1
        exact ⟨_, rfl, h⟩
      · wp_walk using q1
        exact ⟨_, rfl, h⟩
    · wp_walk using q1
      exact ⟨_, rfl, h⟩
theorem ls_enum_begins {prog : Program} {w : World} {A : Around} {E : Value → Shared → Prop} {s : Shared} {v : Value} {o : Obj} {H : Heap → Prop} {Q : Value → Shared → Prop} (B : Begins v o H) (h1 : H s.heap)
    (h : ∀ h', IsEnum h' (s.heap.objs.size + 1) s.heap.objs.size 0 .none → h'.get? s.heap.objs.size = some o → h'.objs.size = s.heap.objs.size + 2 →
      (∀ b o, s.heap.get? b = some o → h'.get? b = some o) → Q (.ref (s.heap.objs.size + 1)) { s with heap := h' }) :
    wpAny (model prog w) A (call (.type "enumerate") [v]) Q E s := by
  refine callType_new F.called_enumerate (by decide) (F.typeCall_enumerate_1 _) (F.newCall_enumerate_1 _) (fun obj => F.args_object_init_2 obj _) F.entry_enumerate_new
    (ls_enumerate_newB B) ⟨h1, ?_⟩
  have hz : (s.heap.push o).objs.size = s.heap.objs.size + 1 := Heap.size_push ..
  show _ ∧ _
  rw [hz]
  have he : IsEnum ((s.heap.push o).push { cls := .type "enumerate", data := .fields #[.none, .bool false, .ref s.heap.objs.size, rawInt 0, .none, .none] }) (s.heap.objs.size + 1) s.heap.objs.size 0 .none := by
    have := Heap.get?_push_size (s.heap.push o) (o := { cls := .type "enumerate", data := .fields #[.none, .bool false, .ref s.heap.objs.size, rawInt 0, .none, .none] }) rfl
    rw [hz] at this; exact this
  refine ⟨⟨_, he, rfl⟩, h _ he (Heap.get?_push_of_some _ (Heap.get?_push_size _ B.free)) (by rw [Heap.size_push, hz]) fun b o x => Heap.get?_push_of_some _ (Heap.get?_push_of_some _ x)⟩
end PySem
namespace Ls
open PySem PySem.Spec PyProof.Rows L2
theorem tupit_ne {h : Heap} {it a : Addr} {i : Nat} {items : Array Value} (h1 : h.IsTupleIter it a i) (h2 : h.IsTuple a items) : a ≠ it := fun e => by
  obtain ⟨o1, e1, c1, _⟩ := h1
  obtain ⟨o2, e2, c2, _⟩ := h2
  rw [e, e1] at e2
  cases e2
  rw [c1] at c2
  injection c2 with c2
  exact absurd c2 (by decide)
theorem enum_ne {h : Heap} {e it a : Addr} {i : Int} {old : Value} {items : Array Value} (h1 : IsEnum h e it i old) (h2 : h.IsTuple a items) : a ≠ e := fun z => by
  obtain ⟨o2, e2, c2, _⟩ := h2
  have e1 : h.get? e = some _ := h1
  rw [z, e1] at e2
  cases e2
  injection c2 with c2
  exact absurd c2 (by decide)
/-- enumerate(tuple): new pairs -/
def IteT (K : PySem.W.Frag) (a : Addr) : It :=
  ⟨fun i H => ∃ (xs : List V) (x : V), SqT K H a xs ∧ xs[i]? = some x, fun i H v H' => ∃ T x, v = .ref T ∧ H T = none ∧ H' = upd H T (.tup [.int (i : Nat), x]) ∧ ∀ xs, SqT K H a xs → xs[i]? = some x, fun i H => ∃ xs : List V, SqT K H a xs ∧ xs.length = i⟩
theorem turn_enumT {P : Program} {w : World} {K : PySem.W.Frag} {elts : List Expr} {kk : Nat} {tpos : Pos} (a e it : Addr) :
    Turn P w K (.Tuple elts kk tpos) (IteT K a) [e, it] e (fun i h => (∃ old, IsEnum h e it ((i : Nat) : Int) old) ∧ h.IsTupleIter it a i ∧ e ≠ it) where
  mem := by simp
  obj := fun i h st b hb => by
    obtain ⟨⟨old, he⟩, ⟨o, ho, hc, hd⟩, _⟩ := st
    have e' : b = e ∨ b = it := by simpa using hb
    rcases e' with z | z
    · rw [z]; exact ⟨_, he, fun v q => nomatch q⟩
    · rw [z]; exact ⟨o, ho, fun v q => by rw [hd] at q; cases q⟩
  keep := fun i h h' st k => let ⟨⟨old, he⟩, hi, hne⟩ := st; ⟨⟨old, k e (by simp) _ he⟩, hi.at fun o q => k it (by simp) o q, hne⟩
  item := by
    intro X hP hw hK hc i pins s σ H E I hf st hg
    subst hP hw hK
    obtain ⟨⟨old, he⟩, hit, hne⟩ := st
    obtain ⟨xs, x, hq, hx⟩ := hg
    obtain ⟨its, rv, p, hz⟩ := I.tuple hq
    obtain ⟨u, hu, ru⟩ := rv.get hx
    have hel : e < s.heap.objs.size := Heap.lt_size he
    have hil : it < s.heap.objs.size := by obtain ⟨_, q, _⟩ := hit; exact Heap.lt_size q
    have pT : s.heap.IsTuple a its.toArray := p
    have hua : its.toArray[i]? = some u := by simpa using hu
    have hlt : i < its.toArray.size := (Array.getElem?_eq_some_iff.mp hua).1
    refine wpAny_pyNext_enum_itemD (Draws.tuple (A := X.A.in1) (I.ok.hd hc) it a (tupit_ne hit pT) its.toArray) he ⟨hit, pT⟩ hlt hne (by simp [hne, Ne.symm (enum_ne he pT)]) fun x' h' tk hP ho hst' hT hsz hk => ?_
    have ex' : x' = u := Option.some.inj (hP.symm.trans hua)
    subst ex'
    refine ⟨_, rfl, wpAny_letOwnedTupleGo_enum (s := { s with heap := h', toks := tk + 1 }) ho fun h'' he' sb => ?_⟩
    have hT2 : h''.get? s.heap.objs.size = some { cls := .type "tuple", data := .seq #[.int i tk, x'] } := (sb.2 _ (Nat.ne_of_gt hel)).trans hT
    have new : ObjOk X.prog X.w (upd H s.heap.objs.size (.tup [.int (i : Nat), x])) h'' s.heap.objs.size (.tup [.int (i : Nat), x]) :=
      ⟨by show 2 ≤ sizeLine; decide, [.int i tk, x'], .cons ⟨_, rfl⟩ (.cons ru .nil), ⟨_, hT2, rfl, _, rfl⟩⟩
    have I1 : Inv X pins σ (upd H s.heap.objs.size (.tup [.int (i : Nat), x])) { s with heap := h'', toks := tk + 1 } :=
      I.turnedNew (ch := [e, it]) (fun b ob hb q => (sb.2 b (fun z => hb (by simp [z]))).trans (hk b ob (fun z => hb (by simp [z])) (fun z => hb (by simp [z])) q)) hf (Nat.le_refl _) new
    refine ⟨.ref s.heap.objs.size, _, I1, rfl, ⟨_, x, rfl, I.hok.fresh (Nat.le_refl _), rfl, fun ys hy => by rw [I.tuple_inj hy hq]; exact hx⟩, ⟨⟨x', ?_⟩, hst'.1.at fun o q => (sb.2 it (Ne.symm hne)).trans q, hne⟩, fun b hb => ?_⟩
    · have e1 : ((i + 1 : Nat) : Int) = (i : Int) + 1 := by omega
      rw [e1]; exact he'
    · have hb' : b < s.heap.objs.size := by
        have e' : b = e ∨ b = it := by simpa using hb
        rcases e' with z | z
        · rw [z]; exact hel
        · rw [z]; exact hil
      rw [upd_ne (Nat.ne_of_lt hb')]
      exact (hf b hb).1
  done := by
    intro X hP hw hK hc i pins s σ H E I hf st hg
    subst hP hw hK
    obtain ⟨⟨old, he⟩, hit, hne⟩ := st
    obtain ⟨xs, hq, hx⟩ := hg
    obtain ⟨its, rv, p, hz⟩ := I.tuple hq
    obtain ⟨f0, f1, f2, f3, f4, f5⟩ := hf it (by simp)
    have hl := rv.length
    have pT : s.heap.IsTuple a its.toArray := p
    have hi : its.toArray.size = i := by rw [List.size_toArray, ← hl, hx]
    have D := Draws.tuple (prog := X.prog) (w := X.w) (A := X.A.in1) (I.ok.hd hc) it a (tupit_ne hit pT) its.toArray
    rw [hi] at D
    exact wpAny_pyNext_enum_endD D he ⟨hit, pT⟩ fun h' eb => ⟨rfl, I.turned (t' := s.toks) (fun b o hb q => eb b o hb q) f0 f1 f3 f4 f5⟩
  self := fun A i s Q E st h => let ⟨⟨_, he⟩, _⟩ := st; wpAny_pyIter_enum he h
def iEnumT (K : PySem.W.Frag) (ta : TA) : TI := fun σ H R => ta σ H fun vs H1 => ∃ a xs, vs = [.ref a] ∧ SqT K H1 a xs ∧ R (IteT K a) H1
theorem pi_enumT {X : Cx} {e : Expr} {ta : TA} {p pos tpos : Pos} {elts : List Expr} {kk : Nat} (hg : Gl X "enumerate") (hm : X.mg "enumerate" = none) (ha : PA X [e] ta) (hs : starEach [e] X.env = [(false, eval e X.env)] := by rfl) :
    PI X (.Tuple elts kk tpos) (.Call (.Name "enumerate" p) [e] [] pos) (iEnumT X.K ta) := by
  refine ⟨fun pins s σ H R I h => ?_⟩
  refine Call_ (ld_blt I hg hm boot_enumerate (PyProof.Rows.callWith_type1 (thn (ha.run pos pins s σ H _ I h) fun us s1 ⟨vs, H1, I1, r1, q1⟩ => ?_) hs rfl))
  obtain ⟨a, xs, ex, hq, q⟩ := q1
  subst ex
  cases r1 with
  | cons r rr =>
    cases rr
    cases r
    obtain ⟨its, rv, p', hz⟩ := I1.tuple hq
    refine ls_enum_begins (begins_tuple a its.toArray) (show s1.heap.IsTuple a its.toArray from p') fun h' he hit hsz hk => wpAny_pyIter_enum he ?_
    have I2 : Inv X pins σ H1 { s1 with heap := h' } := I1.kept (t' := s1.toks) hk
    refine ⟨s1.heap.objs.size + 1, [s1.heap.objs.size + 1, s1.heap.objs.size], _, _, H1, rfl, I2, turn_enumT a (s1.heap.objs.size + 1) s1.heap.objs.size, ⟨⟨.none, he⟩, ⟨_, hit, rfl, rfl⟩, Nat.succ_ne_self _⟩, fun b hb => ?_, q⟩
    have e' : b = s1.heap.objs.size + 1 ∨ b = s1.heap.objs.size := by simpa using hb
    have hle : s1.heap.objs.size ≤ b := by
      rcases e' with z | z
      · rw [z]; exact Nat.le_add_right _ _
      · rw [z]; exact Nat.le_refl _
    exact I1.fpOk hle (I1.hok.fresh hle)
theorem pi_enumS {X : Cx} {e : Expr} {ta : TA} {p pos tpos : Pos} {elts : List Expr} {kk : Nat} (hg : Gl X "enumerate") (hm : X.mg "enumerate" = none) (ha : PA X [e] ta) (hs : starEach [e] X.env = [(false, eval e X.env)] := by rfl) :
    PI X (.Tuple elts kk tpos) (.Call (.Name "enumerate" p) [e] [] pos) (iAlt (iEnum X.K ta) (iEnumT X.K ta)) := pi_alt (pi_enum hg hm ha hs) (pi_enumT hg hm ha hs)
/-- zip of three tuples: new triples -/
def Itz3 (K : PySem.W.Frag) (a b c : Addr) : It :=
  ⟨fun i H => ∃ (xs ys zs : List V) (x y z : V), SqT K H a xs ∧ SqT K H b ys ∧ SqT K H c zs ∧ xs[i]? = some x ∧ ys[i]? = some y ∧ zs[i]? = some z,
    fun i H v H' => ∃ T x y z, v = .ref T ∧ H T = none ∧ H' = upd H T (.tup [x, y, z]) ∧ (∀ xs, SqT K H a xs → xs[i]? = some x) ∧ (∀ ys, SqT K H b ys → ys[i]? = some y) ∧ ∀ zs, SqT K H c zs → zs[i]? = some z,
    fun i H => ∃ xs ys zs : List V, SqT K H a xs ∧ SqT K H b ys ∧ SqT K H c zs ∧ i ≤ xs.length ∧ i ≤ ys.length ∧ i ≤ zs.length ∧ (i = xs.length ∨ i = ys.length ∨ i = zs.length)⟩
theorem turn_zip3 {P : Program} {w : World} {K : PySem.W.Frag} {elts : List Expr} {kk : Nat} {tpos : Pos} {a b c z TI TO i1 i2 i3 : Addr} (D : ZipSep3 z TI TO i1 i2 i3 [i1, a] [i2, b] [i3, c]) :
    Turn P w K (.Tuple elts kk tpos) (Itz3 K a b c) [z, TI, TO, i1, i2, i3] z (fun i h => IsZip h z TI TO .none ∧ IsTupOf3 h TI (.ref i1) (.ref i2) (.ref i3) ∧ (∃ x y u, IsTupOf3 h TO x y u) ∧ h.IsTupleIter i1 a i ∧ h.IsTupleIter i2 b i ∧ h.IsTupleIter i3 c i) where
  mem := by simp
  obj := fun i h st d hd => by
    obtain ⟨hz, hTI, ⟨x, y, u, hTO⟩, ⟨o1, e1, _, d1⟩, ⟨o2, e2, _, d2⟩, ⟨o3, e3, _, d3⟩⟩ := st
    have e' : d = z ∨ d = TI ∨ d = TO ∨ d = i1 ∨ d = i2 ∨ d = i3 := by simpa using hd
    rcases e' with q | q | q | q | q | q
    · rw [q]; exact ⟨_, hz, fun v q => nomatch q⟩
    · rw [q]; exact ⟨_, hTI, fun v q => nomatch q⟩
    · rw [q]; exact ⟨_, hTO, fun v q => nomatch q⟩
    · rw [q]; exact ⟨o1, e1, fun v q => by rw [d1] at q; cases q⟩
    · rw [q]; exact ⟨o2, e2, fun v q => by rw [d2] at q; cases q⟩
    · rw [q]; exact ⟨o3, e3, fun v q => by rw [d3] at q; cases q⟩
  keep := fun i h h' st k => by
    obtain ⟨hz, hTI, ⟨x, y, u, hTO⟩, h1, h2, h3⟩ := st
    exact ⟨k z (by simp) _ hz, k TI (by simp) _ hTI, ⟨x, y, u, k TO (by simp) _ hTO⟩, h1.at fun o q => k i1 (by simp) o q, h2.at fun o q => k i2 (by simp) o q, h3.at fun o q => k i3 (by simp) o q⟩
  item := by
    intro X hP hw hK hc i pins s σ H E I hf st hg
    subst hP hw hK
    obtain ⟨hz, hTI, ⟨x0, y0, u0, hTO⟩, h1, h2, h3⟩ := st
    obtain ⟨xs, ys, zs, x, y, zz, hqx, hqy, hqz, hx, hy, hzz⟩ := hg
    obtain ⟨its, rv, p, _⟩ := I.tuple hqx
    obtain ⟨its2, rv2, p2, _⟩ := I.tuple hqy
    obtain ⟨its3, rv3, p3, _⟩ := I.tuple hqz
    obtain ⟨u, hu, ru⟩ := rv.get hx
    obtain ⟨u2, hu2, ru2⟩ := rv2.get hy
    obtain ⟨u3, hu3, ru3⟩ := rv3.get hzz
    have hzl : z < s.heap.objs.size := Heap.lt_size hz
    have g1 : its.toArray[i]? = some u := by simpa using hu
    have g2 : its2.toArray[i]? = some u2 := by simpa using hu2
    have g3 : its3.toArray[i]? = some u3 := by simpa using hu3
    have pa : s.heap.IsTuple a its.toArray := p
    have pb : s.heap.IsTuple b its2.toArray := p2
    have pc : s.heap.IsTuple c its3.toArray := p3
    refine wpAny_pyNext_zipD3_item D (Draws.tuple (A := X.A.in1) (I.ok.hd hc) i1 a (tupit_ne h1 pa) its.toArray) (Draws.tuple (A := X.A.in1) (I.ok.hd hc) i2 b (tupit_ne h2 pb) its2.toArray) (Draws.tuple (A := X.A.in1) (I.ok.hd hc) i3 c (tupit_ne h3 pc) its3.toArray)
      hz hTI hTO ⟨h1, pa⟩ ⟨h2, pb⟩ ⟨h3, pc⟩ (Array.getElem?_eq_some_iff.mp g1).1 (Array.getElem?_eq_some_iff.mp g2).1 (Array.getElem?_eq_some_iff.mp g3).1 fun v1 v2 v3 h' tk e1 e2 e3 z' TO' s1' s2' s3' hT hsz hk => ?_
    have q1 : v1 = u := Option.some.inj (e1.symm.trans g1)
    have q2 : v2 = u2 := Option.some.inj (e2.symm.trans g2)
    have q3 : v3 = u3 := Option.some.inj (e3.symm.trans g3)
    subst q1 q2 q3
    refine ⟨_, rfl, wpAny_letOwnedTupleGo_zip (s := { s with heap := h', toks := tk }) z' fun h'' z'' sb => ?_⟩
    have hT2 : h''.get? s.heap.objs.size = some { cls := .type "tuple", data := .seq #[v1, v2, v3] } := (sb.2 _ (Nat.ne_of_gt hzl)).trans hT
    have new : ObjOk X.prog X.w (upd H s.heap.objs.size (.tup [x, y, zz])) h'' s.heap.objs.size (.tup [x, y, zz]) :=
      ⟨by show 3 ≤ sizeLine; decide, [v1, v2, v3], .cons ru (.cons ru2 (.cons ru3 .nil)), ⟨_, hT2, rfl, _, rfl⟩⟩
    have I1 : Inv X pins σ (upd H s.heap.objs.size (.tup [x, y, zz])) { s with heap := h'', toks := tk } :=
      I.turnedNew (t' := tk) (ch := [z, TI, TO, i1, i2, i3]) (fun d o hb q => (sb.2 d (fun q' => hb (by simp [q']))).trans (hk d o (fun q' => hb (by simp [q'])) (fun q' => hb (by simp [q'])) (fun q' => hb (by simp [q'])) (fun q' => hb (by simp [q'])) (fun q' => hb (by simp [q'])) q)) hf (Nat.le_refl _) new
    refine ⟨.ref s.heap.objs.size, _, I1, rfl, ⟨_, x, y, zz, rfl, I.hok.fresh (Nat.le_refl _), rfl, fun l hl => by rw [I.tuple_inj hl hqx]; exact hx, fun l hl => by rw [I.tuple_inj hl hqy]; exact hy, fun l hl => by rw [I.tuple_inj hl hqz]; exact hzz⟩, ⟨z'', ?_, ⟨v1, v2, v3, ?_⟩, ?_, ?_, ?_⟩, fun d hdm => ?_⟩
    · exact (sb.2 _ D.TIz).trans (hk _ _ D.TIz D.TITO D.TIi1 D.TIi2 D.TIi3 hTI)
    · exact (sb.2 _ D.TOz).trans TO'
    · exact s1'.1.at fun o q => (sb.2 _ (Ne.symm D.zi1)).trans q
    · exact s2'.1.at fun o q => (sb.2 _ (Ne.symm D.zi2)).trans q
    · exact s3'.1.at fun o q => (sb.2 _ (Ne.symm D.zi3)).trans q
    · have hlt : d < s.heap.objs.size := by
        have e' : d = z ∨ d = TI ∨ d = TO ∨ d = i1 ∨ d = i2 ∨ d = i3 := by simpa using hdm
        rcases e' with q | q | q | q | q | q
        · rw [q]; exact hzl
        · rw [q]; exact Heap.lt_size hTI
        · rw [q]; exact Heap.lt_size hTO
        · rw [q]; obtain ⟨_, e1, _⟩ := h1; exact Heap.lt_size e1
        · rw [q]; obtain ⟨_, e2, _⟩ := h2; exact Heap.lt_size e2
        · rw [q]; obtain ⟨_, e3, _⟩ := h3; exact Heap.lt_size e3
      rw [upd_ne (Nat.ne_of_lt hlt)]
      exact (hf d hdm).1
  done := by
    intro X hP hw hK hc i pins s σ H E I hf st hg
    subst hP hw hK
    obtain ⟨hz, hTI, ⟨x0, y0, u0, hTO⟩, h1, h2, h3⟩ := st
    obtain ⟨xs, ys, zs, hqx, hqy, hqz, l1, l2, l3, hend⟩ := hg
    obtain ⟨its, rv, p, _⟩ := I.tuple hqx
    obtain ⟨its2, rv2, p2, _⟩ := I.tuple hqy
    obtain ⟨its3, rv3, p3, _⟩ := I.tuple hqz
    have e1 : its.toArray.size = xs.length := by rw [List.size_toArray, ← rv.length]
    have e2 : its2.toArray.size = ys.length := by rw [List.size_toArray, ← rv2.length]
    have e3 : its3.toArray.size = zs.length := by rw [List.size_toArray, ← rv3.length]
    have pa : s.heap.IsTuple a its.toArray := p
    have pb : s.heap.IsTuple b its2.toArray := p2
    have pc : s.heap.IsTuple c its3.toArray := p3
    exact wpAny_pyNext_zipD3_end D (Draws.tuple (A := X.A.in1) (I.ok.hd hc) i1 a (tupit_ne h1 pa) its.toArray) (Draws.tuple (A := X.A.in1) (I.ok.hd hc) i2 b (tupit_ne h2 pb) its2.toArray) (Draws.tuple (A := X.A.in1) (I.ok.hd hc) i3 c (tupit_ne h3 pc) its3.toArray)
      hz hTI hTO ⟨h1, pa⟩ ⟨h2, pb⟩ ⟨h3, pc⟩ (by rw [e1]; exact l1) (by rw [e2]; exact l2) (by rw [e3]; exact l3) (by rw [e1, e2, e3]; exact hend) fun h' tk hk => ⟨rfl, I.turnedL (t' := tk) (ch := [z, TI, TO, i1, i2, i3]) (fun d o hb q =>
      hk d o (fun q' => hb (by simp [q'])) (fun q' => hb (by simp [q'])) (fun q' => hb (by simp [q'])) (fun q' => hb (by simp [q'])) (fun q' => hb (by simp [q'])) q) hf⟩
  self := fun A i s Q E st h => wpAny_pyIter_zip st.1 h
def iZip3 (K : PySem.W.Frag) (ta : TA) : TI := fun σ H R => ta σ H fun vs H1 => ∃ a b c xs ys zs, vs = [.ref a, .ref b, .ref c] ∧ SqT K H1 a xs ∧ SqT K H1 b ys ∧ SqT K H1 c zs ∧ R (Itz3 K a b c) H1
theorem pi_zip3 {X : Cx} {e e2 e3 : Expr} {ta : TA} {p pos tpos : Pos} {elts : List Expr} {kk : Nat} (hg : Gl X "zip") (hm : X.mg "zip" = none) (ha : PA X [e, e2, e3] ta)
    (hs : starEach [e, e2, e3] X.env = (false, eval e X.env) :: starEach [e2, e3] X.env := by rfl) (hpl : (backTo pos (starEach [e2, e3] X.env)).any (·.1) = false := by rfl) :
    PI X (.Tuple elts kk tpos) (.Call (.Name "zip" p) [e, e2, e3] [] pos) (iZip3 X.K ta) := by
  refine ⟨fun pins s σ H R I h => ?_⟩
  refine Call_ (ld_blt I hg hm PyProof.Rows.boot_zip (PyProof.Rows.callWith_type1 (thn (ha.run pos pins s σ H _ I h) fun us s1 ⟨vs, H1, I1, r1, q1⟩ => ?_) hs hpl))
  obtain ⟨a, b, c, xs, ys, zs, ex, hqx, hqy, hqz, q⟩ := q1
  subst ex
  cases r1 with
  | cons r rr =>
    cases rr with
    | cons r' rr =>
      cases rr with
      | cons r'' rr =>
        cases rr
        cases r
        cases r'
        cases r''
        obtain ⟨its, rv, p1, _⟩ := I1.tuple hqx
        obtain ⟨its2, rv2, p2, _⟩ := I1.tuple hqy
        obtain ⟨its3, rv3, p3, _⟩ := I1.tuple hqz
        have pa : s1.heap.IsTuple a its.toArray := p1
        have pb : s1.heap.IsTuple b its2.toArray := p2
        have pc : s1.heap.IsTuple c its3.toArray := p3
        refine zip_begins3 (begins_tuple a its.toArray) (begins_tuple b its2.toArray) (begins_tuple c its3.toArray) pa pb pc fun h' hz hTI hTO h1 h2 h3 hsz hk => wpAny_pyIter_zip hz ?_
        have I2 : Inv X pins σ H1 { s1 with heap := h' } := I1.kept (t' := s1.toks) hk
        have la : a < s1.heap.objs.size := by obtain ⟨o, ho, _⟩ := pa; exact Heap.lt_size ho
        have lb : b < s1.heap.objs.size := by obtain ⟨o, ho, _⟩ := pb; exact Heap.lt_size ho
        have lc : c < s1.heap.objs.size := by obtain ⟨o, ho, _⟩ := pc; exact Heap.lt_size ho
        refine ⟨s1.heap.objs.size + 5, [s1.heap.objs.size + 5, s1.heap.objs.size + 3, s1.heap.objs.size + 4, s1.heap.objs.size, s1.heap.objs.size + 1, s1.heap.objs.size + 2], _, _, H1, rfl, I2,
          turn_zip3 (zip_sep3 (N := s1.heap.objs.size) (fp1 := [a]) (fp2 := [b]) (fp3 := [c]) (fun d hd => by rw [List.mem_singleton.mp hd]; exact la) (fun d hd => by rw [List.mem_singleton.mp hd]; exact lb) (fun d hd => by rw [List.mem_singleton.mp hd]; exact lc)),
          ⟨hz, hTI, ⟨_, _, _, hTO⟩, ⟨_, h1, rfl, rfl⟩, ⟨_, h2, rfl, rfl⟩, ⟨_, h3, rfl, rfl⟩⟩, fun d hd => ?_, q⟩
        have e' : d = s1.heap.objs.size + 5 ∨ d = s1.heap.objs.size + 3 ∨ d = s1.heap.objs.size + 4 ∨ d = s1.heap.objs.size ∨ d = s1.heap.objs.size + 1 ∨ d = s1.heap.objs.size + 2 := by simpa using hd
        have hle : s1.heap.objs.size ≤ d := by
          rcases e' with z | z | z | z | z | z <;> rw [z] <;> first | exact Nat.le_add_right _ _ | exact Nat.le_refl _
        exact I1.fpOk hle (I1.hok.fresh hle)
end Ls

/-! LsOwn4 -/
/-! rules of our own: a dict whose keys are contents (tuples of tuples of ints) -/
namespace Ls
open PySem PySem.Spec PyProof.Rows L2
def kW (x : Words) : NestedKey := .tup (x.map fun l => .tup (l.map .num))
theorem nums_inj : ∀ {xs ys : List Int}, xs.map NestedKey.num = ys.map NestedKey.num → xs = ys
  | [], [], _ => rfl
  | [], _ :: _, h => by cases h
  | _ :: _, [], h => by cases h
  | x :: xs, y :: ys, h => by
    rw [List.map_cons, List.map_cons] at h
    injection h with h1 h2
    injection h1 with h1
    rw [h1, nums_inj h2]
theorem tups_inj : ∀ {xs ys : Words}, xs.map (fun l => NestedKey.tup (l.map .num)) = ys.map (fun l => NestedKey.tup (l.map .num)) → xs = ys
  | [], [], _ => rfl
  | [], _ :: _, h => by cases h
  | _ :: _, [], h => by cases h
  | x :: xs, y :: ys, h => by
    rw [List.map_cons, List.map_cons] at h
    injection h with h1 h2
    injection h1 with h1
    rw [nums_inj h1, tups_inj h2]
theorem kW_inj {x y : Words} (h : kW x = kW y) : x = y := by
  unfold kW at h
  injection h with h
  exact tups_inj h
theorem dep_nums : ∀ xs : List Int, NestedKey.depthAll (xs.map NestedKey.num) = 0
  | [] => by simp [NestedKey.depthAll]
  | x :: xs => by
    rw [List.map_cons]
    simp only [NestedKey.depthAll, NestedKey.depth, dep_nums xs]
    rfl
theorem dep_tups : ∀ xs : Words, NestedKey.depthAll (xs.map fun l => NestedKey.tup (l.map .num)) ≤ 1
  | [] => by simp [NestedKey.depthAll]
  | x :: xs => by
    rw [List.map_cons]
    have h := dep_tups xs
    simp only [NestedKey.depthAll, NestedKey.depth, dep_nums x]
    omega
theorem kW_depth (x : Words) : (kW x).depth ≤ 8 := by
  have h := dep_tups x
  unfold kW
  simp only [NestedKey.depth]
  omega
section
variable {P : Program} {w : World} {H : Hp} {h : Heap}
theorem nest_ints {G : Hp} : ∀ {l : List Int} {vs : List V} {us : List Value}, All (l.map isI) vs G → Vals vs us → NestedAll h (l.map .num) us
  | [], _, _, .nil, .nil => .nil
  | i :: l, _, _, .cons r t, .cons a b => by
    cases r
    obtain ⟨tk, rfl⟩ := a
    exact .cons (.int i tk) (nest_ints t b)
theorem nest_line (ok : HOk P w H h) {l : List Int} {v : V} {u : Value} (r : (rTup (l.map isI)).p v H) (rv : RelV v u) : NestedIs h (.tup (l.map .num)) u := by
  obtain ⟨a, vs, rfl, ha, hs⟩ := r
  cases rv
  obtain ⟨_, its, rr, o, ho, hc, n, hd⟩ := ok a _ ha
  exact .tup ho hc hd (nest_ints hs (by simpa using rr))
theorem nest_all (ok : HOk P w H h) : ∀ {x : Words} {vs : List V} {us : List Value}, All (x.map fun l => rTup (l.map isI)) vs H → Vals vs us → NestedAll h (x.map fun l => .tup (l.map .num)) us
  | [], _, _, .nil, .nil => .nil
  | l :: x, _, _, .cons r t, .cons a b => .cons (nest_line ok r a) (nest_all ok t b)
theorem nest_words (ok : HOk P w H h) {x : Words} {a : Addr} (r : (rWords x).p (.ref a) H) : (nestedKind P w).is h (kW x) a := by
  obtain ⟨b, vs, e, ha, hs⟩ := r
  cases e
  obtain ⟨_, its, rr, o, ho, hc, n, hd⟩ := ok a _ ha
  exact ⟨.tup ho hc hd (nest_all ok hs (by simpa using rr)), kW_depth x⟩
end
/-- entries: the key's contents, its tuple, the value -/
abbrev KE : Type := Words × Addr × Value
def keX (xs : List KE) : List (NestedKey × Addr × Value) := xs.map fun e => (kW e.1, e.2.1, e.2.2)
/-- the dict at d holds these entries -/
def dictO (P : Program) (w : World) (xs : List KE) (d : Addr) : Heap → Prop := fun h => ∃ o es ep, h.get? d = some o ∧ o.ExactDict ∧ o.data = .dict es ep ∧ es.toList = (keX xs).map (entryOfKey (nestedKind P w))
/-- .. and its keys stand in H -/
structure KD (P : Program) (w : World) (H : Hp) (d : Addr) (xs : List KE) : Prop where
  at_ : H d = some (.ext (dictO P w xs d))
  sys : (d == sysModules) = false
  nd : (xs.map (·.1)).Nodup
  keys : ∀ e ∈ xs, (rWords e.1).p (.ref e.2.1) H
def lookE (xs : List KE) (x : Words) : Option Value := (xs.find? fun e => decide (e.1 = x)).map (·.2.2)
theorem atKey_keX (x : Words) : ∀ xs : List KE, (atKey (keX xs) (kW x)).map (·.2) = lookE xs x
  | [] => rfl
  | e :: xs => by
    have ih := atKey_keX x xs
    unfold atKey lookE keX at ih ⊢
    rw [List.map_cons, List.find?_cons, List.find?_cons]
    by_cases q : e.1 = x
    · rw [decide_eq_true q, decide_eq_true (by rw [q] : kW e.1 = kW x)]
      rfl
    · rw [decide_eq_false q, decide_eq_false fun z => q (kW_inj z)]
      exact ih
section
variable {X : Cx} {pins : List (Addr × Obj)} {σ : L2.St} {H : Hp} {s : Shared} {d : Addr} {xs : List KE}
theorem KD.dict (I : Inv X pins σ H s) (k : KD X.prog X.w H d xs) : s.heap.DictOfH (nestedKind X.prog X.w) d (keX xs) := by
  obtain ⟨⟨o, es, ep, h1, h2, h3, h4⟩, _, _⟩ := I.hok d _ k.at_
  refine ⟨o, es, ep, h1, h2, h3, h4, fun y hy => ?_, ?_⟩
  · obtain ⟨e, he, rfl⟩ := List.mem_map.mp hy
    exact nest_words I.hok (k.keys e he)
  · have z := k.nd
    unfold keX
    rw [List.map_map]
    have e1 : ((fun x : NestedKey × Addr × Value => x.1) ∘ fun e : KE => (kW e.1, e.2.1, e.2.2)) = fun e : KE => kW e.1 := rfl
    rw [e1]
    have e2 : (xs.map fun e : KE => kW e.1) = (xs.map (·.1)).map kW := by rw [List.map_map]; rfl
    rw [e2]
    exact List.Pairwise.map kW (fun a b hab e => hab (kW_inj e)) z
theorem room_K {k : Nat} {A : Around} (hr : Room k A) : A.units + 1 + 8 < cLine := by
  have := hr.un
  omega
/-- x not in d -/
def rNotInK (P : Program) (w : World) : R2 := fun x y H Q => ∃ d xs z a, y = .ref d ∧ x = .ref a ∧ KD P w H d xs ∧ (rWords z).p (.ref a) H ∧ Q (.bl (!(lookE xs z).isSome)) H
theorem op_notInK {k : Nat} (hr : Room k X.A) : OpR X (compareOp .NotIn) (rNotInK X.prog X.w) := by
  intro pins s σ H x y v u Q I rx ry h
  obtain ⟨d, xs, z, a, rfl, rfl, kd, rz, q⟩ := h
  cases rx
  cases ry
  have hm := kd.dict I
  have e : valueAt (pairsH (keX xs)) (kW z) = lookE xs z := by rw [valueAt_pairsH, atKey_keX]
  refine notIn_keyed (knd := nestedKind X.prog X.w) (kvs := pairsH (keX xs)) (room_K hr) (nest_words I.hok rz) kd.sys ⟨keX xs, hm, rfl⟩ ?_
  rw [e]
  exact ⟨.bl _, H, I.tok _, rfl, q⟩
/-- d[x] -/
def tGetK (P : Program) (w : World) (td ty : TE) : TE := fun σ H Q => td σ H fun x H1 => ty σ H1 fun y H2 => ∃ d xs z a u, x = .ref d ∧ y = .ref a ∧ KD P w H2 d xs ∧ (rWords z).p (.ref a) H2 ∧ lookE xs z = some u ∧ ∃ v, RelV v u ∧ Q v H2
theorem pe_getK {k : Nat} {o i : Expr} {pos : Pos} {td ty : TE} (hr : Room k X.A) (ho : PE X o td) (hi : PE X i ty) (hs : NoSl i := by intro _ _; rfl) : PE X (.Subscript o i pos) (tGetK X.prog X.w td ty) := by
  refine ⟨fun pins s σ H Q I h => ?_⟩
  refine subD_of PySem.F.slot_dict_getitem.lookup hs (thn (ho.run pins s σ H _ I h) fun u s1 ⟨x, H1, I1, rx, q1⟩ => thn (hi.run pins s1 σ H1 _ I1 q1) fun iv s2 ⟨y, H2, I2, ry, d, xs, z, a, uv, e1, e2, kd, rz, hl, v, rv, q2⟩ => ?_)
  subst e1 e2
  cases rx
  cases ry
  have hm := kd.dict I2
  have e : valueAt (pairsH (keX xs)) (kW z) = lookE xs z := by rw [valueAt_pairsH, atKey_keX]
  exact ⟨hm.typeIs, getItem_keyed (knd := nestedKind X.prog X.w) (kvs := pairsH (keX xs)) (room_K hr) (nest_words I2.hok rz) ⟨keX xs, hm, rfl⟩ (by rw [e]; exact hl) ⟨v, H2, I2.tok _, rv, q2⟩⟩
/-- d[x] = v, x not in d -/
def rSetK (P : Program) (w : World) : V → V → V → Hp → (Hp → Prop) → Prop := fun o i v H Q => ∃ d xs z a, o = .ref d ∧ i = .ref a ∧ KD P w H d xs ∧ xs.length ≤ 100000 ∧ (rWords z).p (.ref a) H ∧ lookE xs z = none ∧ ∀ u, RelV v u → Q (upd H d (.ext (dictO P w (xs ++ [(z, a, u)]) d)))
theorem setK {k : Nat} (hr : Room k X.A) : PSet X (rSetK X.prog X.w) := by
  intro pins s σ H o i v ov iv u Q I ro ri rv h
  obtain ⟨d, xs, z, a, rfl, rfl, kd, hz, rz, hn, q⟩ := h
  cases ro
  cases ri
  have hm := kd.dict I
  have hak : atKey (keX xs) (kW z) = none := by
    have e := atKey_keX z xs
    rw [hn] at e
    exact Option.map_eq_none_iff.mp e
  have hlen : (keX xs).length ≤ sizeLine := by
    unfold keX
    rw [List.length_map]
    exact Nat.le_trans hz (by rw [sizeLine_eq]; decide)
  refine wpAny_setItem_heap (knd := nestedKind X.prog X.w) (hsz := hlen) (room_K hr) (nest_words I.hok rz) hm fun h' hm' hs => ?_
  rw [storedH_new hak] at hm'
  obtain ⟨o', es, ep, h1, h2, h3, h4, _⟩ := hm'
  have e4 : keX xs ++ [(kW z, a, u)] = keX (xs ++ [(z, a, u)]) := by
    unfold keX
    rw [List.map_append]
    rfl
  rw [e4] at h4
  have fi : dictO X.prog X.w (xs ++ [(z, a, u)]) d h' := ⟨o', es, ep, h1, h2, h3, h4⟩
  have new : ObjOk X.prog X.w (upd H d (.ext (dictO X.prog X.w (xs ++ [(z, a, u)]) d))) h' d (.ext (dictO X.prog X.w (xs ++ [(z, a, u)]) d)) := ⟨fi, ⟨o', h1⟩, fun h1' h2' φ k' => by
    obtain ⟨o2, es2, ep2, g1, g2, g3, g4⟩ := φ
    exact ⟨o2, es2, ep2, k' _ g1, g2, g3, g4⟩⟩
  exact ⟨_, I.write (x := d) (e := d) (by rw [kd.at_]; exact True.intro) (.inl rfl) (fun b ob hb e => (hs.2 b hb).trans e) ⟨o', h1⟩ new, q u rv⟩
/-- {} -/
def tNewK (P : Program) (w : World) : TE := fun _ H Q => ∀ p, H p = none → (p == sysModules) = false → Q (.ref p) (upd H p (.ext (dictO P w [] p)))
theorem pe_dnewX {pos : Pos} : PE X (.Dict [] [] pos) (tNewK X.prog X.w) := ⟨fun pins s σ H Q I h => by
  have hs : (s.heap.objs.size == sysModules) = false := beq_eq_false_iff_ne.mpr (Nat.ne_of_gt I.big)
  have g : (s.heap.push { cls := .type "dict", data := .dict #[] }).get? s.heap.objs.size = some { cls := .type "dict", data := .dict #[] } := Heap.get?_push_size _ rfl
  have fi : dictO X.prog X.w [] s.heap.objs.size (s.heap.push { cls := .type "dict", data := .dict #[] }) := ⟨_, #[], 0, g, ⟨rfl, rfl, rfl⟩, rfl, rfl⟩
  refine wpAny_Dict_empty ⟨.ref s.heap.objs.size, _, I.laid (a := s.heap.objs.size) (o := .ext (dictO X.prog X.w [] s.heap.objs.size)) (t' := s.toks) (fun _ _ q => Heap.get?_push_of_some _ q) (Nat.le_refl _) ⟨fi, ⟨_, g⟩, fun h1' h2' φ k' => ?_⟩, rfl, h _ (I.hok.fresh (Nat.le_refl _)) hs⟩
  obtain ⟨o2, es2, ep2, g1, g2, g3, g4⟩ := φ
  exact ⟨o2, es2, ep2, k' _ g1, g2, g3, g4⟩⟩
end
end Ls

/-! LsOwn5 -/
/-! rules of our own: list(zip(t, u)) of two tuples -/
namespace Ls
open PySem PySem.Spec PyProof.Rows L2
section
variable {prog : Program} {w : World} {A : Around} {E : Value → Shared → Prop} {s : Shared}
theorem zh_item {z TI TO T i1 i2 l1 l2 : Addr} {f : Bool} {oT : Obj} {k1 k2 : Nat} {xs ys : Array Value} {x y : Value} {Q : Value → Shared → Prop} (D : ZipApart z TI TO i1 i2 l1 l2)
    (hz : IsZipHeld s.heap z TI TO T f) (hT : s.heap.get? T = some oT) (hTI : IsPair s.heap TI (.ref i1) (.ref i2))
    (h1 : s.heap.IsTupleIter i1 l1 k1) (h2 : s.heap.IsTupleIter i2 l2 k2) (hl1 : s.heap.IsTuple l1 xs) (hl2 : s.heap.IsTuple l2 ys) (hx : xs[k1]? = some x) (hy : ys[k2]? = some y)
    (hQ : ∀ h', IsZipHeld h' z TI TO T true → h'.IsTupleIter i1 l1 (k1 + 1) → h'.IsTupleIter i2 l2 (k2 + 1) → IsPair h' s.heap.objs.size x y → h'.objs.size = s.heap.objs.size + 1 →
      (∀ c o, c ≠ z → c ≠ i1 → c ≠ i2 → s.heap.get? c = some o → h'.get? c = some o) → Q (.ref s.heap.objs.size) { s with heap := h' }) :
    wpAny (model prog w) A (Builtin.«zip.__next__» ⟨[.ref z], []⟩) (fun fin s' => ∃ v, fin = .done (.ret v) ∧ Q v s') E s := by
  show wpAny _ _ (field (.ref z) 2 >>= _) _ _ _
  refine wpAny_bind (wpAny_field hz rfl (x := .bool false) rfl ?_)
  show wpAny _ _ (field (.ref z) 3 >>= _) _ _ _
  refine wpAny_bind (wpAny_field hz rfl (x := .ref TI) rfl ?_)
  refine wpAny_bind (wpAny_seqItems hTI rfl ?_)
  show wpAny _ _ (Builtin.SmallTypes.ownedTupleIsFree (.ref z) >>= _) _ _ _
  refine wpAny_bind (wpAny_tupleHeld_zip hz hT fun h₁ hz₁ hs₁ => ?_)
  simp only [Bool.false_eq_true, if_false]
  refine wpAny_bind ?_
  rw [← Array.forIn_toList]
  simp only [List.forIn_cons, List.forIn_nil]
  refine wpAny_bind (wpAny_bind (wpAny_holding ?_))
  show wpAny _ _ (Builtin.SmallTypes.nextOf (.ref i1) >>= _) _ _ _
  refine wpAny_bind (RZ.nextOf_tuple_item (s := { s with heap := h₁ }) (h1.extBut hs₁.extBut D.i1z) (hl1.extBut hs₁.extBut D.l1z) hx fun h₂ h1₂ hs₂ => wpAny_pure ?_)
  refine wpAny_pure ?_
  refine wpAny_bind (wpAny_bind (wpAny_holding ?_))
  show wpAny _ _ (Builtin.SmallTypes.nextOf (.ref i2) >>= _) _ _ _
  refine wpAny_bind (RZ.nextOf_tuple_item (s := { s with heap := h₂ }) ((h2.extBut hs₁.extBut D.i2z).extBut hs₂.extBut D.i12.symm) ((hl2.extBut hs₁.extBut D.l2z).extBut hs₂.extBut D.l2i1) hy fun h₃ h2₃ hs₃ => wpAny_pure ?_)
  refine wpAny_pure (wpAny_pure ?_)
  show wpAny _ _ (newTuple [x, y] >>= _) _ _ _
  refine wpAny_bind (wpAny_newTuple ?_)
  have hsz : h₃.objs.size = s.heap.objs.size := by rw [hs₃.1, hs₂.1, hs₁.1]
  have hz₃ : IsZipHeld h₃ z TI TO T true := hs₃.extBut _ _ D.i2z.symm (hs₂.extBut _ _ D.i1z.symm hz₁)
  have hk : ∀ c o, c ≠ z → c ≠ i1 → c ≠ i2 → s.heap.get? c = some o → h₃.get? c = some o := fun c o c1 c2 c3 e => hs₃.extBut _ _ c3 (hs₂.extBut _ _ c2 (hs₁.extBut _ _ c1 e))
  have h1₃ : h₃.IsTupleIter i1 l1 (k1 + 1) := h1₂.extBut hs₃.extBut D.i12
  refine wpAny_pure ⟨_, rfl, ?_⟩
  show Q (.ref h₃.objs.size) _
  have hp : IsPair (h₃.push { cls := .type "tuple", data := .seq #[x, y] }) h₃.objs.size x y := Heap.get?_push_size _ rfl
  have hz4 : (h₃.push { cls := .type "tuple", data := .seq #[x, y] }).objs.size = h₃.objs.size + 1 := Heap.size_push ..
  rw [hsz] at hp hz4 ⊢
  exact hQ _ (Heap.get?_push_of_some _ hz₃) (h1₃.at fun o e => Heap.get?_push_of_some _ e) (h2₃.at fun o e => Heap.get?_push_of_some _ e) hp hz4 fun c o c1 c2 c3 e => Heap.get?_push_of_some _ (hk c o c1 c2 c3 e)
theorem zh_end {z TI TO T i1 i2 l1 l2 : Addr} {f : Bool} {oT : Obj} {k1 k2 : Nat} {xs ys : Array Value} {Q : Fin → Shared → Prop} (hh : A.handled = none) (D : ZipApart z TI TO i1 i2 l1 l2)
    (hz : IsZipHeld s.heap z TI TO T f) (hT : s.heap.get? T = some oT) (hTI : IsPair s.heap TI (.ref i1) (.ref i2))
    (h1 : s.heap.IsTupleIter i1 l1 k1) (hl1 : s.heap.IsTuple l1 xs) (hend : xs[k1]? = none)
    (hE : ∀ h' e, (∀ c o, c ≠ z → c ≠ i1 → c ≠ i2 → s.heap.get? c = some o → h'.get? c = some o) → (∃ o, h'.get? e = some o ∧ o.cls = .type "StopIteration") → E (.ref e) { s with heap := h' }) :
    wpAny (model prog w) A (Builtin.«zip.__next__» ⟨[.ref z], []⟩) Q E s := by
  show wpAny _ _ (field (.ref z) 2 >>= _) _ _ _
  refine wpAny_bind (wpAny_field hz rfl (x := .bool false) rfl ?_)
  show wpAny _ _ (field (.ref z) 3 >>= _) _ _ _
  refine wpAny_bind (wpAny_field hz rfl (x := .ref TI) rfl ?_)
  refine wpAny_bind (wpAny_seqItems hTI rfl ?_)
  show wpAny _ _ (Builtin.SmallTypes.ownedTupleIsFree (.ref z) >>= _) _ _ _
  refine wpAny_bind (wpAny_tupleHeld_zip hz hT fun h₁ hz₁ hs₁ => ?_)
  simp only [Bool.false_eq_true, if_false]
  refine wpAny_bind ?_
  rw [← Array.forIn_toList]
  simp only [List.forIn_cons, List.forIn_nil]
  refine wpAny_bind (wpAny_bind (wpAny_holding ?_))
  show wpAny _ _ (Builtin.SmallTypes.nextOf (.ref i1) >>= _) _ _ _
  refine wpAny_bind (RZ.nextOf_tuple_end (s := { s with heap := h₁ }) hh (h1.extBut hs₁.extBut D.i1z) (hl1.extBut hs₁.extBut D.l1z) hend fun h₂ e hs₂ he => ?_)
  exact hE h₂ e (fun c o c1 c2 _ x => hs₂ _ _ c2 (hs₁.extBut _ _ c1 x)) he
theorem pyNext_zh_item {z TI TO T i1 i2 l1 l2 : Addr} {f : Bool} {oT : Obj} {k1 k2 : Nat} {xs ys : Array Value} {x y : Value} {Q : Option Value → Shared → Prop} (D : ZipApart z TI TO i1 i2 l1 l2)
    (hz : IsZipHeld s.heap z TI TO T f) (hT : s.heap.get? T = some oT) (hTI : IsPair s.heap TI (.ref i1) (.ref i2))
    (h1 : s.heap.IsTupleIter i1 l1 k1) (h2 : s.heap.IsTupleIter i2 l2 k2) (hl1 : s.heap.IsTuple l1 xs) (hl2 : s.heap.IsTuple l2 ys) (hx : xs[k1]? = some x) (hy : ys[k2]? = some y)
    (hQ : ∀ h', IsZipHeld h' z TI TO T true → h'.IsTupleIter i1 l1 (k1 + 1) → h'.IsTupleIter i2 l2 (k2 + 1) → IsPair h' s.heap.objs.size x y → h'.objs.size = s.heap.objs.size + 1 →
      (∀ c o, c ≠ z → c ≠ i1 → c ≠ i2 → s.heap.get? c = some o → h'.get? c = some o) → Q (some (.ref s.heap.objs.size)) { s with heap := h' }) :
    wpAny (model prog w) A (pyNext (.ref z)) Q E s := by
  have hTy : s.TypeIs (.ref z) "zip" := ⟨_, hz, rfl⟩
  unfold pyNext
  exact wpAny_bind (wpAny_attempt (wpAny_callSpecial?_slot (name := Str.ofString "__next__") hTy PySem.F.slot_zip_next
    (wpAny_call_entry PySem.F.slot_zip_next hTy PySem.F.entry_zip_next
      (zh_item D hz hT hTI h1 h2 hl1 hl2 hx hy fun h' a1 a3 a4 a5 a6 a7 => wpAny_pure (hQ h' a1 a3 a4 a5 a6 a7)) (PySem.F.args_zip_next_1 _))))
theorem pyNext_zh_end {z TI TO T i1 i2 l1 l2 : Addr} {f : Bool} {oT : Obj} {k1 : Nat} {xs : Array Value} {Q : Option Value → Shared → Prop} (hh : A.handled = none) (D : ZipApart z TI TO i1 i2 l1 l2)
    (hz : IsZipHeld s.heap z TI TO T f) (hT : s.heap.get? T = some oT) (hTI : IsPair s.heap TI (.ref i1) (.ref i2))
    (h1 : s.heap.IsTupleIter i1 l1 k1) (hl1 : s.heap.IsTuple l1 xs) (hend : xs[k1]? = none)
    (hQ : ∀ h', (∀ c o, c ≠ z → c ≠ i1 → c ≠ i2 → s.heap.get? c = some o → h'.get? c = some o) → Q none { s with heap := h' }) : wpAny (model prog w) A (pyNext (.ref z)) Q E s := by
  have hTy : s.TypeIs (.ref z) "zip" := ⟨_, hz, rfl⟩
  unfold pyNext
  refine wpAny_bind (wpAny_attempt (wpAny_callSpecial?_slot (name := Str.ofString "__next__") hTy PySem.F.slot_zip_next
    (wpAny_call_entry PySem.F.slot_zip_next hTy PySem.F.entry_zip_next (zh_end (k2 := 0) (ys := #[]) hh D hz hT hTI h1 hl1 hend fun h' e hk he => ?_) (PySem.F.args_zip_next_1 _))))
  obtain ⟨o, ho, hc⟩ := he
  refine wpAny_bind (wpAny_isInstance (T := "StopIteration") (b := true) ⟨o, ho, hc⟩ isSubtype_stop ?_)
  exact wpAny_pure (hQ _ hk)
end
/-- the state of list(zip(..)) ahead of turn i: as are the pairs so far -/
structure ZG (h : Heap) (S z TI TO i1 i2 a b : Addr) (xs ys : Array Value) (i : Nat) (as : List Addr) : Prop where
  st : (as = [] ∧ IsZip h z TI TO .none ∧ ∃ u v, IsPair h TO u v) ∨ (∃ T f, T ∈ as ∧ IsZipHeld h z TI TO T f)
  ti : IsPair h TI (.ref i1) (.ref i2)
  it1 : h.IsTupleIter i1 a i
  it2 : h.IsTupleIter i2 b i
  ta : h.IsTuple a xs
  tb : h.IsTuple b ys
  len : as.length = i
  rise : as.Pairwise (· < ·)
  above : ∀ t ∈ as, S < t
  prs : ∀ (j : Nat) (t : Addr), as[j]? = some t → ∃ x y, xs[j]? = some x ∧ ys[j]? = some y ∧ IsPair h t x y
theorem ZG.live {h : Heap} {S z TI TO i1 i2 a b : Addr} {xs ys : Array Value} {i : Nat} {as : List Addr} (g : ZG h S z TI TO i1 i2 a b xs ys i as) {t : Addr} (ht : t ∈ as) : ∃ o, h.get? t = some o := by
  obtain ⟨j, hj⟩ := List.mem_iff_getElem?.mp ht
  obtain ⟨_, _, _, _, e⟩ := g.prs j t hj
  exact ⟨_, e⟩
section
variable {prog : Program} {w : World} {A : Around} {s : Shared} {R : Result → Shared → Prop} {S z TI TO i1 i2 a b : Addr} {xs ys : Array Value}
theorem zl_loop (hh : A.handled = none) (D : ZipApart z TI TO i1 i2 a b) (hS : z < S ∧ TI < S ∧ TO < S ∧ i1 < S ∧ i2 < S ∧ a < S ∧ b < S) (hxy : xs.size = ys.size) (hn : xs.size ≤ 1000) (res : Value) {h₁ : Heap}
    (hR : ∀ (h' : Heap) (acc : Array Value) (c : Nat) (as : List Addr), (∀ d o, d ≠ S → d ≠ z → d ≠ TO → d ≠ i1 → d ≠ i2 → h₁.get? d = some o → h'.get? d = some o) → h'.get? S = some { cls := .type "list", dict := none, data := .seq acc c, slots := #[] } → as.length = xs.size → as.Pairwise (· < ·) → (∀ t ∈ as, S < t) →
      (∀ (j : Nat) (t : Addr), as[j]? = some t → ∃ x y, xs[j]? = some x ∧ ys[j]? = some y ∧ IsPair h' t x y) → acc.toList = as.map Value.ref → R (.ok (.ret res)) { s with heap := h' }) :
    ∀ (k i : Nat) (h : Heap) (c : Nat) (acc : Array Value) (as : List Addr), xs.size - i = k → i ≤ xs.size → ZG h S z TI TO i1 i2 a b xs ys i as → (∀ d o, d ≠ S → d ≠ z → d ≠ TO → d ≠ i1 → d ≠ i2 → h₁.get? d = some o → h.get? d = some o) →
      h.get? S = some { cls := .type "list", dict := none, data := .seq acc c, slots := #[] } → acc.toList = as.map Value.ref → codeAny (model prog w) A (.builtin "list.extend.loop" ⟨[.ref S, .ref z, res], []⟩) R { s with heap := h } := by
  obtain ⟨zS, TIS, TOS, i1S, i2S, aS, bS⟩ := hS
  have nz : S ≠ z := Nat.ne_of_gt zS
  have nTO : S ≠ TO := Nat.ne_of_gt TOS
  have n1 : S ≠ i1 := Nat.ne_of_gt i1S
  have n2 : S ≠ i2 := Nat.ne_of_gt i2S
  intro k
  induction k with
  | zero =>
    intro i h c acc as hk hi g hkeep hSl hacc
    have hin : i = xs.size := by omega
    refine codeAny_builtin PySem.F.entry_extend_loop ?_
    rw [Around.under_plainId PySem.F.plain_extend_loop _]
    show wpAny _ A.in1 (pyNext (.ref z) >>= _) _ _ _
    have hend : xs[i]? = none := by simp [hin]
    have fin : ∀ h', (∀ c o, c ≠ z → c ≠ TO → c ≠ i1 → c ≠ i2 → h.get? c = some o → h'.get? c = some o) → R (.ok (.ret res)) { s with heap := h' } := fun h' hk' => by
      refine hR h' acc c as (fun d o c0 c1 c2 c3 c4 e => hk' d o c1 c2 c3 c4 (hkeep d o c0 c1 c2 c3 c4 e)) (hk' S _ nz nTO n1 n2 hSl) (by rw [g.len, hin]) g.rise g.above (fun j t hj => ?_) hacc
      obtain ⟨x, y, e1, e2, e3⟩ := g.prs j t hj
      have ht := g.above t (List.mem_of_getElem? hj)
      exact ⟨x, y, e1, e2, hk' t _ (Nat.ne_of_gt (Nat.lt_trans zS ht)) (Nat.ne_of_gt (Nat.lt_trans TOS ht)) (Nat.ne_of_gt (Nat.lt_trans i1S ht)) (Nat.ne_of_gt (Nat.lt_trans i2S ht)) e3⟩
    rcases g.st with ⟨_, hz, u, v, hTO⟩ | ⟨T, f, hT, hz⟩
    · refine wpAny_bind (RZ.pyNext_zipT_end (A := A.in1) (s := { s with heap := h }) hh D hz g.ti hTO g.it1 g.it2 g.ta g.tb (.inl hend) fun h' hk' => wpAny_pure (fin h' hk'))
    · obtain ⟨oT, eT⟩ := g.live hT
      refine wpAny_bind (pyNext_zh_end (A := A.in1) (s := { s with heap := h }) hh D hz eT g.ti g.it1 g.ta hend fun h' hk' => wpAny_pure (fin h' fun c o c1 _ c3 c4 e => hk' c o c1 c3 c4 e))
  | succ k ih =>
    intro i h c acc as hk hi g hkeep hSl hacc
    have hlt : i < xs.size := by omega
    have hlt2 : i < ys.size := by omega
    have hx : xs[i]? = some xs[i] := Array.getElem?_eq_getElem hlt
    have hy : ys[i]? = some ys[i] := Array.getElem?_eq_getElem hlt2
    have hsz : acc.size = i := by rw [← Array.length_toList, hacc, List.length_map, g.len]
    have hSz : S < h.objs.size := Heap.lt_size hSl
    refine codeAny_builtin PySem.F.entry_extend_loop ?_
    rw [Around.under_plainId PySem.F.plain_extend_loop _]
    show wpAny _ A.in1 (pyNext (.ref z) >>= _) _ _ _
    have go : ∀ h' f, IsZipHeld h' z TI TO (if as = [] then h.objs.size else (as.headD 0)) f ∨ (∃ T, T ∈ as ∧ IsZipHeld h' z TI TO T f) → h'.IsTupleIter i1 a (i + 1) → h'.IsTupleIter i2 b (i + 1) → IsPair h' h.objs.size xs[i] ys[i] → h'.objs.size = h.objs.size + 1 →
        (∀ c o, c ≠ z → c ≠ TO → c ≠ i1 → c ≠ i2 → h.get? c = some o → h'.get? c = some o) → (as = [] ∨ ∃ T, T ∈ as ∧ IsZipHeld h' z TI TO T f) → wpAny (model prog w) A.in1 (updateSeq S (·.push (Value.ref h.objs.size)) >>= fun _ => again (.builtin "list.extend.loop" ⟨[.ref S, .ref z, res], []⟩))
          (fun fin s' => match fin with | .done f => R (.ok f) s' | .again c' => c'.quiet = true ∧ codeAny (model prog w) A c' R s') (fun e s' => R (.error e) s') { s with heap := h' } := by
      intro h' f hz' h1' h2' hp hz4 hk' hcase
      have hS' := hk' S _ nz nTO n1 n2 hSl
      have up : ∀ d o, d ≠ S → h'.get? d = some o → (h'.update S (Obj.mapSeq (·.push (Value.ref h.objs.size)))).get? d = some o := fun d o hd e => (Heap.get?_update_other _ _ (Ne.symm hd)).trans e
      refine wpAny_bind ?_
      refine wpAny_updateSeq hS' rfl (wpAny_pure ⟨plainId_quiet PySem.F.plain_extend_loop _, ih (i + 1) _ _ (acc.push (Value.ref h.objs.size)) (as ++ [h.objs.size]) (by omega) hlt ⟨?_, ?_, ?_, ?_, ?_, ?_, ?_, ?_, ?_, ?_⟩
        (fun d o c0 c1 c2 c3 c4 e => up d o c0 (hk' d o c1 c2 c3 c4 (hkeep d o c0 c1 c2 c3 c4 e))) (Heap.get?_update_self _ hS' rfl) (by rw [Array.toList_push, hacc, List.map_append]; rfl)⟩) (by rw [hsz, sizeLine_eq]; omega) (by show (acc.push (Value.ref h.objs.size)).size ≤ sizeLine + 1; rw [Array.size_push, hsz, sizeLine_eq]; omega)
      · refine .inr ?_
        by_cases e : as = []
        · rcases hz' with hz' | ⟨T, hT, hz'⟩
          · rw [if_pos e] at hz'
            exact ⟨_, f, by simp, up z _ (Ne.symm nz) hz'⟩
          · exact ⟨T, f, List.mem_append_left _ hT, up z _ (Ne.symm nz) hz'⟩
        · rcases hcase with e' | ⟨T, hT, hz'⟩
          · exact absurd e' e
          · exact ⟨T, f, List.mem_append_left _ hT, up z _ (Ne.symm nz) hz'⟩
      · exact up TI _ (Nat.ne_of_lt TIS) (hk' TI _ D.TIz D.TITO D.TIi1 D.TIi2 g.ti)
      · exact h1'.at fun o e => up i1 o (Ne.symm n1) e
      · exact h2'.at fun o e => up i2 o (Ne.symm n2) e
      · exact g.ta.at fun o e => up a o (Nat.ne_of_lt aS) (hk' a o D.l1z D.l1TO D.l1i1 D.l1i2 e)
      · exact g.tb.at fun o e => up b o (Nat.ne_of_lt bS) (hk' b o D.l2z D.l2TO D.l2i1 D.l2i2 e)
      · rw [List.length_append, g.len]
        rfl
      · refine List.pairwise_append.mpr ⟨g.rise, List.pairwise_singleton _ _, fun t ht u hu => ?_⟩
        rw [List.mem_singleton.mp hu]
        obtain ⟨o, e⟩ := g.live ht
        exact Heap.lt_size e
      · intro t ht
        rcases List.mem_append.mp ht with ht | ht
        · exact g.above t ht
        · rw [List.mem_singleton.mp ht]
          exact hSz
      · intro j t hj
        rcases Nat.lt_trichotomy j as.length with q | q | q
        · rw [List.getElem?_append_left q] at hj
          obtain ⟨x, y, e1, e2, e3⟩ := g.prs j t hj
          have ht := g.above t (List.mem_of_getElem? hj)
          exact ⟨x, y, e1, e2, up t _ (Nat.ne_of_gt ht) (hk' t _ (Nat.ne_of_gt (Nat.lt_trans zS ht)) (Nat.ne_of_gt (Nat.lt_trans TOS ht)) (Nat.ne_of_gt (Nat.lt_trans i1S ht)) (Nat.ne_of_gt (Nat.lt_trans i2S ht)) e3)⟩
        · subst q
          have ht : h.objs.size = t := by simpa using hj
          subst ht
          rw [g.len]
          exact ⟨xs[i], ys[i], hx, hy, up _ _ (Nat.ne_of_gt hSz) hp⟩
        · have hnone : (as ++ [h.objs.size])[j]? = none := List.getElem?_eq_none (by rw [List.length_append, List.length_singleton]; omega)
          rw [hnone] at hj
          cases hj
    rcases g.st with ⟨e0, hz, u, v, hTO⟩ | ⟨T, f, hT, hz⟩
    · refine wpAny_bind (RZ.pyNext_zipT_item (A := A.in1) (s := { s with heap := h }) D hz g.ti hTO g.it1 g.it2 g.ta g.tb hx hy fun h' hz' hTO' h1' h2' hp hz4 hk' => ?_)
      exact go h' false (.inl (by rw [if_pos e0]; exact hz')) h1' h2' hp hz4 hk' (.inl e0)
    · obtain ⟨oT, eT⟩ := g.live hT
      refine wpAny_bind (pyNext_zh_item (A := A.in1) (s := { s with heap := h }) D hz eT g.ti g.it1 g.it2 g.ta g.tb hx hy fun h' hz' h1' h2' hp hz4 hk' => ?_)
      exact go h' true (.inr ⟨T, hT, hz'⟩) h1' h2' hp hz4 (fun c o c1 _ c3 c4 e => hk' c o c1 c3 c4 e) (.inr ⟨T, hT, hz'⟩)
end
structure ZG0 (h : Heap) (z TI TO i1 i2 a b : Addr) (xs ys : Array Value) : Prop where
  hz : IsZip h z TI TO .none
  hTO : IsPair h TO .none .none
  ti : IsPair h TI (.ref i1) (.ref i2)
  it1 : h.IsTupleIter i1 a 0
  it2 : h.IsTupleIter i2 b 0
  ta : h.IsTuple a xs
  tb : h.IsTuple b ys
theorem ZG0.keep {h h' : Heap} {S z TI TO i1 i2 a b : Addr} {xs ys : Array Value} (g : ZG0 h z TI TO i1 i2 a b xs ys) (hS : z < S ∧ TI < S ∧ TO < S ∧ i1 < S ∧ i2 < S ∧ a < S ∧ b < S) (k : ∀ d o, d ≠ S → h.get? d = some o → h'.get? d = some o) : ZG0 h' z TI TO i1 i2 a b xs ys := by
  obtain ⟨zS, TIS, TOS, i1S, i2S, aS, bS⟩ := hS
  exact ⟨k _ _ (Nat.ne_of_lt zS) g.hz, k _ _ (Nat.ne_of_lt TOS) g.hTO, k _ _ (Nat.ne_of_lt TIS) g.ti, g.it1.at fun o e => k _ o (Nat.ne_of_lt i1S) e, g.it2.at fun o e => k _ o (Nat.ne_of_lt i2S) e, g.ta.at fun o e => k _ o (Nat.ne_of_lt aS) e, g.tb.at fun o e => k _ o (Nat.ne_of_lt bS) e⟩
theorem ZG0.to {h : Heap} {S z TI TO i1 i2 a b : Addr} {xs ys : Array Value} (g : ZG0 h z TI TO i1 i2 a b xs ys) : ZG h S z TI TO i1 i2 a b xs ys 0 [] :=
  ⟨.inl ⟨rfl, g.hz, _, _, g.hTO⟩, g.ti, g.it1, g.it2, g.ta, g.tb, rfl, List.Pairwise.nil, (fun _ h => nomatch h), fun j t h => by simp at h⟩
theorem zip_no_len : typeLookup (.type "zip") "__len__" = pure none := by rw [typeLookup_type, builtinLookup_eq_fast]; kernel_rfl
theorem zip_no_hint : typeLookup (.type "zip") "__length_hint__" = pure none := by rw [typeLookup_type, builtinLookup_eq_fast]; kernel_rfl
section
variable {prog : Program} {w : World} {A : Around} {s : Shared} {R : Result → Shared → Prop} {S z TI TO i1 i2 a b : Addr} {xs ys : Array Value}
theorem zl_extend (hh : A.handled = none) (D : ZipApart z TI TO i1 i2 a b) (hL : z < S ∧ TI < S ∧ TO < S ∧ i1 < S ∧ i2 < S ∧ a < S ∧ b < S) (hxy : xs.size = ys.size) (hn : xs.size ≤ 1000) (res : Value) (c₀ : Nat) (g : ZG0 s.heap z TI TO i1 i2 a b xs ys)
    (hS : s.heap.get? S = some { cls := .type "list", data := .seq #[] c₀ })
    (hR : ∀ (h' : Heap) (acc : Array Value) (c : Nat) (as : List Addr), (∀ d o, d ≠ S → d ≠ z → d ≠ TO → d ≠ i1 → d ≠ i2 → s.heap.get? d = some o → h'.get? d = some o) → h'.get? S = some { cls := .type "list", dict := none, data := .seq acc c, slots := #[] } → as.length = xs.size → as.Pairwise (· < ·) → (∀ t ∈ as, S < t) →
      (∀ (j : Nat) (t : Addr), as[j]? = some t → ∃ x y, xs[j]? = some x ∧ ys[j]? = some y ∧ IsPair h' t x y) → acc.toList = as.map Value.ref → R (.ok (.ret res)) { s with heap := h' }) :
    wpAny (model prog w) A.in1 (Builtin.List.listExtendWith (.ref S) (.ref z) res)
      (fun fin s' => match fin with | .done f => R (.ok f) s' | .again c' => c'.quiet = true ∧ codeAny (model prog w) A c' R s') (fun e s' => R (.error e) s') s := by
  have hTy : s.TypeIs (.ref z) "zip" := ⟨_, g.hz, rfl⟩
  have hSz : S ≠ z := Nat.ne_of_gt hL.1
  unfold Builtin.List.listExtendWith
  refine wpAny_bind (wpAny_typeOf hTy ?_)
  have h1 : Builtin.List.listSameRef (.ref S) (.ref z) = false := by simp [Builtin.List.listSameRef, hSz]
  have h2 : (Value.type "zip" == Value.type "list") = false := by decide
  have h3 : (Value.type "zip" == Value.type "tuple") = false := by decide
  simp only [h1, h2, h3, Bool.or_false, Bool.false_eq_true, if_false]
  refine wpAny_bind (wpAny_pyIter_zip g.hz ?_)
  refine wpAny_bind (wpAny_holding ?_)
  unfold Builtin.List.listLengthHint
  refine wpAny_bind (wpAny_specialOf hTy zip_no_len ?_)
  show wpAny _ A.in1 (specialOf (Value.ref z) (Str.ofString "__length_hint__") >>= _) _ _ _
  refine wpAny_bind (wpAny_specialOf hTy zip_no_hint ?_)
  refine wpAny_pure ?_
  show wpAny _ A.in1 (rule "list.extend.makes-room" >>= fun _ => Builtin.List.listTouch (.ref S) >>= fun _ =>
    again (.builtin "list.extend.loop" ⟨[.ref S, .ref z, res], []⟩)) _ _ _
  refine wpAny_bind (wpAny_rule ?_)
  refine wpAny_bind ?_
  show wpAny _ A.in1 (updateSeq S (·.push .none) >>= fun _ => updateSeq S (·.pop)) _ _ _
  refine wpAny_bind (wpAny_updateSeq hS rfl ?_)
  have hS₂ := Heap.get?_update_self (Obj.mapSeq (·.push Value.none)) hS rfl
  refine wpAny_updateSeq (hz := by seq_fits) hS₂ rfl ?_
  have hS₃ := Heap.get?_update_self (Obj.mapSeq (·.pop)) hS₂ rfl
  have oth : ∀ b o, b ≠ S → s.heap.get? b = some o → ((s.heap.update S (Obj.mapSeq (·.push Value.none))).update S (Obj.mapSeq (·.pop))).get? b = some o :=
    fun b o hb e => (Heap.get?_update_other _ _ (Ne.symm hb)).trans ((Heap.get?_update_other _ _ (Ne.symm hb)).trans e)
  refine wpAny_pure ⟨plainId_quiet PySem.F.plain_extend_loop _, zl_loop hh D hL hxy hn res (h₁ := s.heap) hR xs.size 0 _ _ #[] [] (Nat.sub_zero _) (Nat.zero_le _) (g.keep hL oth).to (fun d o c0 _ _ _ _ e => oth d o c0 e) hS₃ rfl⟩
theorem zl_init (hh : A.handled = none) (D : ZipApart z TI TO i1 i2 a b) (hL : z < S ∧ TI < S ∧ TO < S ∧ i1 < S ∧ i2 < S ∧ a < S ∧ b < S) (hxy : xs.size = ys.size) (hn : xs.size ≤ 1000) (g : ZG0 s.heap z TI TO i1 i2 a b xs ys)
    (hS : s.heap.get? S = some { cls := .type "list", data := .seq #[] })
    (hR : ∀ (h' : Heap) (acc : Array Value) (c : Nat) (as : List Addr), (∀ d o, d ≠ S → d ≠ z → d ≠ TO → d ≠ i1 → d ≠ i2 → s.heap.get? d = some o → h'.get? d = some o) → h'.get? S = some { cls := .type "list", dict := none, data := .seq acc c, slots := #[] } → as.length = xs.size → as.Pairwise (· < ·) → (∀ t ∈ as, S < t) →
      (∀ (j : Nat) (t : Addr), as[j]? = some t → ∃ x y, xs[j]? = some x ∧ ys[j]? = some y ∧ IsPair h' t x y) → acc.toList = as.map Value.ref → R (.ok (.ret .none)) { s with heap := h' }) :
    wpAny (model prog w) A.in1 (Builtin.«list.__init__» ⟨[.ref S, .ref z], []⟩)
      (fun fin s' => match fin with | .done f => R (.ok f) s' | .again c' => c'.quiet = true ∧ codeAny (model prog w) A c' R s') (fun e s' => R (.error e) s') s := by
  show wpAny _ A.in1 (do let old ← Builtin.List.listItems (.ref S); Builtin.List.listUpdate (.ref S) (fun _ => #[]); letGo old.toList.reverse; Builtin.List.listExtendWith (.ref S) (.ref z) .none) _ _ s
  refine wpAny_bind ?_
  unfold Builtin.List.listItems
  refine wpAny_bind (wpAny_seqItems hS rfl (wpAny_pure ?_))
  show wpAny _ A.in1 (updateSeq S (fun _ => #[]) >>= fun _ => letGo (#[] : Array Value).toList.reverse >>= fun _ => Builtin.List.listExtendWith (.ref S) (.ref z) .none) _ _ s
  refine wpAny_bind (wpAny_updateSeq hS rfl ?_)
  have hS₂ := Heap.get?_update_self (Obj.mapSeq (fun _ => (#[] : Array Value))) hS rfl
  have oth : ∀ b o, b ≠ S → s.heap.get? b = some o → (s.heap.update S (Obj.mapSeq (fun _ => (#[] : Array Value)))).get? b = some o :=
    fun b o hb e => (Heap.get?_update_other _ _ (Ne.symm hb)).trans e
  refine wpAny_bind (wpAny_letGo ?_)
  exact zl_extend hh D hL hxy hn .none _ (g.keep hL oth) hS₂ fun h' acc c as hk => hR h' acc c as fun d o c0 c1 c2 c3 c4 e => hk d o c0 c1 c2 c3 c4 (oth d o c0 e)
theorem zl_call {E : Value → Shared → Prop} {Q : Value → Shared → Prop} (hh : A.handled = none) (D : ZipApart z TI TO i1 i2 a b) (hL : z < s.heap.objs.size ∧ TI < s.heap.objs.size ∧ TO < s.heap.objs.size ∧ i1 < s.heap.objs.size ∧ i2 < s.heap.objs.size ∧ a < s.heap.objs.size ∧ b < s.heap.objs.size) (hxy : xs.size = ys.size) (hn : xs.size ≤ 1000) (g : ZG0 s.heap z TI TO i1 i2 a b xs ys)
    (hQ : ∀ (h' : Heap) (acc : Array Value) (c : Nat) (as : List Addr), (∀ d o, d ≠ z → d ≠ TO → d ≠ i1 → d ≠ i2 → s.heap.get? d = some o → h'.get? d = some o) → h'.get? s.heap.objs.size = some { cls := .type "list", dict := none, data := .seq acc c, slots := #[] } → as.length = xs.size → as.Pairwise (· < ·) → (∀ t ∈ as, s.heap.objs.size < t) →
      (∀ (j : Nat) (t : Addr), as[j]? = some t → ∃ x y, xs[j]? = some x ∧ ys[j]? = some y ∧ IsPair h' t x y) → acc.toList = as.map Value.ref → Q (.ref s.heap.objs.size) { s with heap := h' }) :
    wpAny (model prog w) A (call (.type "list") [.ref z]) Q E s := by
  refine callType_codes (Q₁ := fun obj s₁ => obj = .ref s.heap.objs.size ∧ s₁ = { s with heap := s.heap.push { cls := .type "list", data := .seq #[] } }) PySem.F.called_list (PySem.F.typeCall_list_1 _) PySem.F.entry_list_init
    (code_list_new _ ⟨rfl, rfl⟩) fun obj s₁ h₁ => ?_
  obtain ⟨rfl, rfl⟩ := h₁
  have hS : (s.heap.push { cls := .type "list", data := .seq #[] }).get? s.heap.objs.size = some { cls := .type "list", data := .seq #[] } := Heap.get?_push_size _ rfl
  refine ⟨⟨_, hS, rfl⟩, PySem.F.args_list_init_2 _ _, zl_init (A := A.in1) (s := { s with heap := s.heap.push { cls := .type "list", data := .seq #[] } }) hh D hL hxy hn (g.keep hL fun d o _ e => Heap.get?_push_of_some _ e) hS fun h' acc c as hk hS' hl hr ha hp hacc => ?_⟩
  exact ⟨rfl, hQ h' acc c as (fun d o c1 c2 c3 c4 e => hk d o (Nat.ne_of_lt (Heap.lt_size e)) c1 c2 c3 c4 (Heap.get?_push_of_some _ e)) hS' hl hr ha hp hacc⟩
end
end Ls

/-! LsOwn6 -/
/-! rules of our own: list(zip(t, u)), the rule -/
namespace Ls
open PySem PySem.Spec PyProof.Rows L2
open LiI (paired_ix paired_get)
def putP : Hp → List Addr → List (V × V) → Hp
  | H, a :: as, p :: kvs => putP (upd H a (.tup [p.1, p.2])) as kvs
  | H, _, _ => H
theorem putP_off {b : Addr} : ∀ (as : List Addr) (kvs : List (V × V)) (H : Hp), b ∉ as → putP H as kvs b = H b
  | [], _, _, _ => rfl
  | _ :: _, [], _, _ => rfl
  | a :: as, p :: kvs, H, h => by
    show putP (upd H a (.tup [p.1, p.2])) as kvs b = H b
    rw [putP_off as kvs _ (fun z => h (List.mem_cons_of_mem _ z)), upd_ne (fun z => h (by rw [z]; exact List.mem_cons_self))]
theorem putP_at : ∀ (as : List Addr) (kvs : List (V × V)) (H : Hp), as.length = kvs.length → as.Nodup → Paired (fun (t : Addr) (p : V × V) => putP H as kvs t = some (.tup [p.1, p.2])) as kvs
  | [], [], _, _, _ => .nil
  | [], _ :: _, _, h, _ => by cases h
  | _ :: _, [], _, h, _ => by cases h
  | a :: as, p :: kvs, H, h, hn => by
    have hn' := List.nodup_cons.mp hn
    have ih := putP_at as kvs (upd H a (.tup [p.1, p.2])) (Nat.succ.inj h) hn'.2
    refine .cons ?_ ih
    show putP (upd H a (.tup [p.1, p.2])) as kvs a = some (.tup [p.1, p.2])
    rw [putP_off as kvs _ hn'.1, upd_same]
section
variable {X : Cx} {pins : List (Addr × Obj)} {σ : L2.St} {H : Hp} {s : Shared}
theorem pairs_laid {h' : Heap} {kvs : List (V × V)} {acc : Array Value} {c : Nat} {as ch : List Addr} (I : Inv X pins σ H s) (hz : kvs.length ≤ 1000) (hf : ∀ b ∈ ch, FpOk X pins H b)
    (hk : ∀ b o, b ∉ ch → s.heap.get? b = some o → h'.get? b = some o) (hS : h'.get? s.heap.objs.size = some { cls := .type "list", dict := none, data := .seq acc c, slots := #[] }) (hchS : ∀ b ∈ ch, b < s.heap.objs.size) (hl : as.length = kvs.length)
    (rise : as.Pairwise (· < ·)) (above : ∀ t ∈ as, s.heap.objs.size < t) (prs : ∀ (j : Nat) (t : Addr) (p : V × V), as[j]? = some t → kvs[j]? = some p → ∃ x y, RelV p.1 x ∧ RelV p.2 y ∧ IsPair h' t x y) (hacc : acc.toList = as.map Value.ref) :
    ∃ H' : Hp, (∀ b o, H b = some o → H' b = some o) ∧ H s.heap.objs.size = none ∧ (∀ t ∈ as, H t = none) ∧ s.heap.objs.size ∉ as ∧ H' s.heap.objs.size = some (.lst (as.map V.ref)) ∧ Paired (fun (t : Addr) (q : V × V) => H' t = some (.tup [q.1, q.2])) as kvs ∧ Inv X pins σ H' { s with heap := h' } := by
  have hSn : s.heap.objs.size ∉ as := fun z => Nat.lt_irrefl _ (above _ z)
  have nd : as.Nodup := List.Pairwise.imp (fun {a b} (h : a < b) => Nat.ne_of_lt h) rise
  have new : ∀ t ∈ as, H t = none := fun t ht => I.hok.fresh (Nat.le_of_lt (above t ht))
  have newS : H s.heap.objs.size = none := I.hok.fresh (Nat.le_refl _)
  have atP := putP_at as kvs (upd H s.heap.objs.size (.lst (as.map V.ref))) hl nd
  have off : ∀ b, b ∉ as → b ≠ s.heap.objs.size → putP (upd H s.heap.objs.size (.lst (as.map V.ref))) as kvs b = H b := fun b h1 h2 => by rw [putP_off as kvs _ h1, upd_ne h2]
  have low : ∀ b o, s.heap.get? b = some o → b ∉ as ∧ b ≠ s.heap.objs.size := fun b o e => ⟨fun z => absurd (Heap.lt_size e) (Nat.not_lt.mpr (Nat.le_of_lt (above b z))), Nat.ne_of_lt (Heap.lt_size e)⟩
  have kp : ∀ b u, H b = some u → (putP (upd H s.heap.objs.size (.lst (as.map V.ref))) as kvs) b = some u := fun b u e => by
    rw [off b (fun z => by rw [new b z] at e; cases e) (fun z => by rw [z, newS] at e; cases e)]
    exact e
  have eS : putP (upd H s.heap.objs.size (.lst (as.map V.ref))) as kvs s.heap.objs.size = some (.lst (as.map V.ref)) := by rw [putP_off as kvs _ hSn, upd_same]
  have nit : ∀ b u, H b = some u → b ∉ ch := fun b u e z => by
    have q := (hf b z).1
    rw [q] at e; cases e
  refine ⟨putP (upd H s.heap.objs.size (.lst (as.map V.ref))) as kvs, kp, newS, new, hSn, eS, atP, ?_⟩
  refine I.step (t' := s.toks) (g' := s.gens) (d' := s.drawn) (ch := ch) (fun b hb => ⟨(hf b hb).2.2.2.1, (hf b hb).2.1, (hf b hb).2.2.2.2.1, (hf b hb).2.2.2.2.2⟩) (fun b o _ _ hc e _ => hk b o hc e) (fun b o _ _ hc e _ => ⟨o.slots, hk b o hc e⟩)
    (fun b o _ e n => ?_) (fun b o hc e => ⟨o, hk b o hc e⟩) (fun b xs e => kp b _ e) (fun b o u e => kp b _ e) (fun b ps e => ⟨#[], by rw [kp b _ e]; simp⟩) (fun m hm => ?_) (fun b u e => ?_) I.bare
  · obtain ⟨z1, z2⟩ := low b o e
    rw [off b z1 z2]
    exact n
  · obtain ⟨o, es, ep, ho, r⟩ := hm
    exact ⟨o, es, ep, hk _ o (fun z => (hf _ z).2.1 rfl) ho, r⟩
  · by_cases hb : b ∈ as
    · obtain ⟨j, pk, e1, e2, e3⟩ := paired_ix atP hb
      rw [e3] at e
      cases e
      obtain ⟨x, y, f1, f2, f3⟩ := prs j b pk e1 e2
      exact ⟨by show 2 ≤ sizeLine; decide, [x, y], .cons f1 (.cons f2 .nil), ⟨_, f3, rfl, _, rfl⟩⟩
    · by_cases hb2 : b = s.heap.objs.size
      · rw [hb2] at e ⊢
        rw [eS] at e
        cases e
        refine ⟨by rw [List.length_map, hl, sizeLine_eq]; omega, acc.toList, c, by rw [hacc]; exact LiI.vals_refs as, ?_⟩
        rw [Array.toArray_toList]
        exact hS
      · rw [off b hb hb2] at e
        refine (I.hok b u e).stay (fun d v hc y => hk d v ?_ y) (fun d y => kp d _ y) fun d xs y => kp d _ y
        rcases hc with z | z
        · rw [z]; exact nit b u e
        · exact nit d _ z
/-- list(zip(t, u)), tuples of one length -/
def tZipL (K : PySem.W.Frag) (ta : TA) : TE := fun σ H Q => ta σ H fun vs H1 => ∃ (a b : Addr) (xs ys : List V), vs = [.ref a, .ref b] ∧ SqT K H1 a xs ∧ SqT K H1 b ys ∧ xs.length = ys.length ∧ xs.length ≤ 1000 ∧
  ∀ (H' : Hp) (p : Addr) (ts : List Addr), (∀ b o, H1 b = some o → H' b = some o) → H1 p = none → (∀ t ∈ ts, H1 t = none) → p ∉ ts → H' p = some (.lst (ts.map V.ref)) → Paired (fun (t : Addr) (q : V × V) => H' t = some (.tup [q.1, q.2])) ts (xs.zip ys) → Q (.ref p) H'
theorem pe_zipL {e e2 : Expr} {ta : TA} {p p2 pos pos2 : Pos} (hc : X.calm = true) (hg : Gl X "list") (hm : X.mg "list" = none) (hg2 : Gl X "zip") (hm2 : X.mg "zip" = none) (ha : PA X [e, e2] ta)
    (hs : starEach [e, e2] X.env = (false, eval e X.env) :: starEach [e2] X.env := by rfl) (hpl : (backTo pos2 (starEach [e2] X.env)).any (·.1) = false := by rfl)
    (hs2 : starEach [.Call (.Name "zip" p2) [e, e2] [] pos2] X.env = (false, eval (.Call (.Name "zip" p2) [e, e2] [] pos2) X.env) :: starEach [] X.env := by rfl) :
    PE X (.Call (.Name "list" p) [.Call (.Name "zip" p2) [e, e2] [] pos2] [] pos) (tZipL X.K ta) := by
  refine ⟨fun pins s σ H Q I h => ?_⟩
  refine Call_ (ld_blt I hg hm boot_list ?_)
  refine PyProof.Rows.callWith_type1 (PyProof.Rows.args_cons ?_ hs2) hs2 rfl
  refine Call_ (ld_blt I hg2 hm2 PyProof.Rows.boot_zip (PyProof.Rows.callWith_type1 (thn (ha.run pos2 pins s σ H _ I h) fun us s1 ⟨vs, H1, I1, r1, q1⟩ => ?_) hs hpl))
  obtain ⟨a, b, xs, ys, ex, hqx, hqy, hlen, hle, q⟩ := q1
  subst ex
  cases r1 with
  | cons r rr =>
    cases rr with
    | cons r' rr =>
      cases rr
      cases r
      cases r'
      obtain ⟨its, rv, p1, _⟩ := I1.tuple hqx
      obtain ⟨its2, rv2, p2, _⟩ := I1.tuple hqy
      obtain ⟨o1, ho1, _⟩ := id p1
      obtain ⟨o2, ho2, _⟩ := id p2
      have l1 := rv.length
      have l2 := rv2.length
      have la : a < s1.heap.objs.size := Heap.lt_size ho1
      have lb : b < s1.heap.objs.size := Heap.lt_size ho2
      refine RZ.call_zipT (show s1.heap.IsTuple a its.toArray from p1) (show s1.heap.IsTuple b its2.toArray from p2) fun h' hz hTI hTO h1 h2 hsz hk => PyProof.Rows.args_nil ?_
      have I2 : Inv X pins σ H1 { s1 with heap := h' } := I1.kept (t' := s1.toks) hk
      have D := PySem.W.ktu_apart s1.heap.objs.size a b la lb
      have L : ∀ x, x < s1.heap.objs.size + 5 → x < h'.objs.size := fun x h => by rw [hsz]; exact h
      refine zl_call (s := { s1 with heap := h' }) (I1.ok.hd hc) D ⟨L _ (by omega), L _ (by omega), L _ (by omega), L _ (by omega), L _ (by omega), L _ (Nat.lt_of_lt_of_le la (by omega)), L _ (Nat.lt_of_lt_of_le lb (by omega))⟩ (xs := its.toArray) (ys := its2.toArray) (by simp; omega) (by simp; omega) ⟨hz, hTO, hTI, h1, h2, (show s1.heap.IsTuple a its.toArray from p1).at fun o e => hk a o e, (show s1.heap.IsTuple b its2.toArray from p2).at fun o e => hk b o e⟩ fun h2' acc c as hk2 hS hl hr hab hp hacc => ?_
      have hf : ∀ c, c ∈ [s1.heap.objs.size + 4, s1.heap.objs.size + 3, s1.heap.objs.size, s1.heap.objs.size + 1] → FpOk X pins H1 c := fun c hcm => by
        have e' : c = s1.heap.objs.size + 4 ∨ c = s1.heap.objs.size + 3 ∨ c = s1.heap.objs.size ∨ c = s1.heap.objs.size + 1 := by simpa using hcm
        have hle : s1.heap.objs.size ≤ c := by omega
        exact I1.fpOk hle (I1.hok.fresh hle)
      have hf2 : ∀ c, c ∈ [s1.heap.objs.size + 4, s1.heap.objs.size + 3, s1.heap.objs.size, s1.heap.objs.size + 1] → FpOk X pins H1 c := hf
      obtain ⟨H', k1, k2, k3, k4, k5, k6, J⟩ := pairs_laid (h' := h2') (kvs := xs.zip ys) (as := as) (acc := acc) (c := c) I2 (by rw [List.length_zip]; omega) hf2
        (fun d o hd e => hk2 d o (fun z => hd (by simp [z])) (fun z => hd (by simp [z])) (fun z => hd (by simp [z])) (fun z => hd (by simp [z])) e) hS
        (fun c hcm => by
          have e' : c = s1.heap.objs.size + 4 ∨ c = s1.heap.objs.size + 3 ∨ c = s1.heap.objs.size ∨ c = s1.heap.objs.size + 1 := by simpa using hcm
          refine L c ?_
          rcases e' with z | z | z | z <;> rw [z]
          · exact Nat.add_lt_add_left (show 4 < 5 by decide) _
          · exact Nat.add_lt_add_left (show 3 < 5 by decide) _
          · exact Nat.add_lt_add_left (show 0 < 5 by decide) _
          · exact Nat.add_lt_add_left (show 1 < 5 by decide) _) (by
          have hl' : as.length = its.length := by rw [hl]; simp
          rw [List.length_zip, hl', ← l1, ← hlen]
          exact (Nat.min_self _).symm) hr hab (fun j t pr ht hpr => by
          obtain ⟨x, y, ex, ey, ip⟩ := hp j t ht
          rw [List.getElem?_zip_eq_some] at hpr
          obtain ⟨u, hu, ru⟩ := rv.get hpr.1
          obtain ⟨u2, hu2, ru2⟩ := rv2.get hpr.2
          have ex' : its[j]? = some x := by simpa using ex
          have ey' : its2[j]? = some y := by simpa using ey
          rw [hu] at ex'
          rw [hu2] at ey'
          cases ex'
          cases ey'
          exact ⟨_, _, ru, ru2, ip⟩) hacc
      exact ⟨.ref _, H', J, rfl, q H' _ as k1 k2 k3 k4 k5 k6⟩
end
end Ls

/-! LsOwn7 -/
/-! rules of our own: sorted(set(list of ints)), min of a list of data -/
namespace Ls
open PySem PySem.Spec PyProof.Rows L2
section
variable {P : Program} {w : World} {A : Around} {E : Value → Shared → Prop} {s : Shared}
set_option maxRecDepth 100000 in
set_option maxHeartbeats 3200000 in
theorem call_set_lstI {l : Addr} {items : Array Value} (ns : List Int) {Q : Value → Shared → Prop} (hh : A.handled = none) (hl : s.heap.IsList l items) (hit : IntsAre items.toList ns) (hb : ns.length + 1 < scanBound)
    (h : ∀ (h' : Heap) (tk c : Nat), SetR w h' s.heap.objs.size (fun j => decide (j ∈ ns)) c → c ≤ ns.length → (∀ b o, s.heap.get? b = some o → h'.get? b = some o) → Q (.ref s.heap.objs.size) { s with heap := h', toks := tk }) :
    wpAny (model P w) A (call (.type "set") [.ref l]) Q E s := by
  have hisz : items.size = ns.length := by
    have q := IntsAre.length hit
    rw [Array.length_toList] at q
    exact q
  obtain ⟨c, tl, hmro⟩ := F.called_set.mro
  have hmade := F.called_set.made
  have hsub := F.called_set.sub
  refine wpAny_call (codeAny_of_tree ?_)
  show wpAny _ _ (callAny (.type "set") _) _ _ _
  refine wpAny_pure ⟨Code.quiet_builtin _ (by decide +kernel), codeAny_builtin F.entry_type_call ?_⟩
  rw [Around.under_plain (weight_type_call_type "set" [.ref l] []) rfl]
  have h1 := F.called_set.notType
  have h2 := F.called_set.canCreate
  have hct := F.typeCall_set_1 (.ref l)
  repeat (any_goals (first | assumption | wp_step))

  refine codeAny_mono (code_set_led1 (.ref l) (E := E) (Q₁ := fun obj s₁ => obj = .ref s.heap.objs.size ∧ s₁ = { s with heap := s.heap.push { cls := .type "set", dict := none, data := .set #[] 0 (.fresh 0 0 (!w.params.followText "set-order")) } }) ⟨rfl, rfl⟩) fun r s₁ hr => ?_
  cases r with
  | error e => exact hr
  | ok fl =>
    cases fl with
    | ret obj =>
      obtain ⟨rfl, rfl⟩ := hr
      have hS : (s.heap.push { cls := .type "set", dict := none, data := .set #[] 0 (.fresh 0 0 (!w.params.followText "set-order")) }).get? s.heap.objs.size = some { cls := .type "set", dict := none, data := .set #[] 0 (.fresh 0 0 (!w.params.followText "set-order")) } := Heap.get?_push_size _ rfl
      have hT : Shared.TypeIs { s with heap := s.heap.push { cls := .type "set", dict := none, data := .set #[] 0 (.fresh 0 0 (!w.params.followText "set-order")) } } (.ref s.heap.objs.size) "set" := ⟨_, hS, rfl⟩
      have hli := F.called_set.init.lookup
      have hbi := F.called_set.init.bind (.ref s.heap.objs.size)
      repeat (any_goals (first | assumption | wp_step))

      refine codeAny_mono (codeAny_call_builtin (R := wants (fun r s₂ => r = .none ∧ ∃ h' tk c, s₂ = { s with heap := h', toks := tk } ∧ SetR w h' s.heap.objs.size (fun j => decide (j ∈ ns)) c ∧ c ≤ ns.length ∧
          (∀ b o, s.heap.get? b = some o → h'.get? b = some o)) E) F.called_set.init.plain F.entry_set_init (check_set_init_1 hT ?_)) fun r₂ s₂ hr₂ => ?_
      · obtain ⟨ol, hol, hcl, nl, hdl⟩ := hl
        obtain ⟨ocls, odict, odata, oslots⟩ := ol
        simp only at hcl hdl
        subst hcl; subst hdl
        have hol' : (s.heap.push { cls := .type "set", dict := none, data := .set #[] 0 (.fresh 0 0 (!w.params.followText "set-order")) }).get? l = some { cls := .type "list", dict := odict, data := .seq items nl, slots := oslots } := Heap.get?_push_of_some _ hol
        have hsls := F.sub_list_set
        have hslf := F.sub_list_frozenset
        have hne : (Value.type "list" == Value.type "dict") = false := by decide
        have hl1 : (s.heap.push { cls := .type "set", dict := none, data := .set #[] 0 (.fresh 0 0 (!w.params.followText "set-order")) }).IsList l items := ⟨_, hol', rfl, nl, rfl⟩
        unfold Builtin.«set.__init__» noKeywords Builtin.Frozenset.updateFrom
        generalize hPI : pyIter = PI
        wp_walk
        subst hPI

        refine wpAny_pyIter_list hl1 ?_
        refine wpAny_bind (wpAny_runValue ?_)
        have hlS : l < s.heap.objs.size := Heap.lt_size hol
        have hh3 : A.in1.in1.in1.handled = none := by simp [hh]
        have hz1 : (s.heap.push { cls := .type "set", dict := none, data := .set #[] 0 (.fresh 0 0 (!w.params.followText "set-order")) }).objs.size = s.heap.objs.size + 1 := Heap.size_push ..
        have hneI : l ≠ (s.heap.push { cls := .type "set", dict := none, data := .set #[] 0 (.fresh 0 0 (!w.params.followText "set-order")) }).objs.size := by
          rw [Heap.size_push]; exact Nat.ne_of_lt (Nat.lt_succ_of_lt hlS)
        have hSf : s.heap.objs.size ∉ [(s.heap.push { cls := .type "set", dict := none, data := .set #[] 0 (.fresh 0 0 (!w.params.followText "set-order")) }).objs.size, l] := by
          rw [Heap.size_push]; simp only [List.mem_cons, List.mem_singleton, List.not_mem_nil, or_false, not_or]
          exact ⟨Nat.ne_of_lt (Nat.lt_succ_self _), Nat.ne_of_gt hlS⟩
        have hval : ∀ (i : Nat) (v : Value), items[i]? = some v → ∃ k t, ns[i]? = some k ∧ v = .int k t := fun i v hv => by
          have hi : i < ns.length := by rw [← hisz]; exact (Array.getElem?_eq_some_iff.mp hv).1
          obtain ⟨t, e⟩ := PyProof.Rows.IntsAre.int_at hit i v (by rw [Array.getElem?_toList]; exact hv)
          refine ⟨ns[i], t, List.getElem?_eq_getElem hi, ?_⟩
          rw [e, List.getD_eq_getElem?_getD, List.getElem?_eq_getElem hi] <;> rfl
        refine set_update_ints ((Walks.list hh3 _ l hneI items).toS) s.heap.objs.size
          hSf ns hisz hb hval (items.size - 0) 0 _ (by omega) (Nat.zero_le _)
          ⟨⟨_, Heap.get?_push_size _ rfl, rfl, rfl⟩, (hl1.push _)⟩ ?hS0 ?hR
        case hS0 =>
          have hget : ((s.heap.push { cls := .type "set", dict := none, data := .set #[] 0 (.fresh 0 0 (!w.params.followText "set-order")) }).push { cls := .type "list_iterator", data := .fields #[.ref l, .int 0 0] }).get? s.heap.objs.size
              = some { cls := .type "set", dict := none, data := .set #[] 0 (.fresh 0 0 (!w.params.followText "set-order")) } := Heap.get?_push_of_some _ hS
          exact ⟨0, Nat.le_refl 0, setR_new_at hget⟩
        case hR =>
          intro s' c' hm hc' hS'
          obtain ⟨h', g2, d', tk', os'⟩ := s'
          have eg : g2 = s.gens := hm.gens
          have ed : d' = s.drawn := hm.drawn
          have eo : os' = s.os := hm.os
          subst eg; subst ed; subst eo
          show wpAny _ _ _ _ _ _
          refine wpAny_pure ?_
          show wpAny _ _ (ret Value.none) _ _ _
          rw [hisz] at hc'
          refine wpAny_pure ⟨rfl, h', tk', c', rfl, hS', hc', fun b o e => ?_⟩
          have hb0 : b < s.heap.objs.size := Heap.lt_size e
          have hb1 : b ≠ s.heap.objs.size := Nat.ne_of_lt hb0
          have hb2 : b ≠ (s.heap.push { cls := .type "set", dict := none, data := .set #[] 0 (.fresh 0 0 (!w.params.followText "set-order")) }).objs.size := by
            rw [Heap.size_push]; exact Nat.ne_of_lt (Nat.lt_succ_of_lt hb0)
          exact hm.heap b o (by simp only [List.mem_cons, List.mem_singleton, List.not_mem_nil, or_false, not_or]; exact ⟨hb1, hb2⟩) (Heap.get?_push_of_some _ (Heap.get?_push_of_some _ e))

      · cases r₂ with
        | error e => exact hr₂
        | ok fl₂ =>
          cases fl₂ with
          | ret r =>
            obtain ⟨rfl, h', tk, c', rfl, hS', hc', hk'⟩ := hr₂
            repeat (any_goals (first | assumption | wp_step))
            exact h _ _ _ hS' hc' hk'
          | _ => exact hr₂.elim
    | _ => exact hr.elim

end
section
variable {X : Cx}
theorem pget2 {α β : Type} {F : α → β → Prop} : ∀ {xs : List α} {ys : List β}, Paired F xs ys → ∀ {i : Nat} {y : β}, ys[i]? = some y → ∃ x, xs[i]? = some x ∧ F x y
  | _, _, .nil, i, x, h => by simp at h
  | _, _, .cons r t, 0, x, h => by
    have e := Option.some.inj h
    subst e
    exact ⟨_, rfl, r⟩
  | _, _, .cons r t, i + 1, x, h => pget2 t (by simpa using h)
/-- sorted(set(xs)), xs a list of ints: their members, each once -/
def tSortSet (K : PySem.W.Frag) (ta : TE) : TE := fun σ H Q => ta σ H fun x H1 => ∃ (l : Addr) (ns : List Int), x = .ref l ∧ SqL K H1 l (ns.map V.int) ∧ ns.length < 60 ∧
  ∀ (ms : List Int) (p : Addr), (∀ k : Int, k ∈ ms ↔ k ∈ ns) → ms.length ≤ ns.length → H1 p = none → Q (.ref p) (upd H1 p (.lst (ms.map V.int)))
theorem pe_sortSet {a : Expr} {ta : TE} {p p2 q pos : Pos} (hg : Gl X "sorted") (hm : X.mg "sorted" = none) (hg2 : Gl X "set") (hm2 : X.mg "set" = none) (ha : PE X a ta) (hc : X.calm = true)
    (na : starEach [a] X.env = (false, eval a X.env) :: starEach [] X.env := by rfl) : PE X (.Call (.Name "sorted" p) [.Call (.Name "set" p2) [a] [] q] [] pos) (tSortSet X.K ta) := by
  refine ⟨fun pins s σ H Q I h => ?_⟩
  refine Call_ (ld_blt I hg hm boot_sorted ?_)
  refine PyProof.Rows.callWith_builtin1 (PyProof.Rows.args_cons ?_ rfl) rfl rfl
  refine Call_ (ld_blt I hg2 hm2 boot_set ?_)
  refine PyProof.Rows.callWith_type1 (PyProof.Rows.args_cons (thn (ha.run pins s σ H _ I h) fun v s1 ⟨x, H1, I1, r1, q1⟩ => PyProof.Rows.args_nil ?_) na) na rfl
  obtain ⟨l, ns, rfl, hq, hl, q1⟩ := q1
  cases r1
  obtain ⟨its, r, pl, hz⟩ := I1.list hq
  refine call_set_lstI ns (I1.ok.hd hc) pl.isList (by simpa using RZ.intsAre_vals r) (by unfold scanBound; omega) fun h' tk c hS hcn hk => ?_
  refine PyProof.Rows.args_nil ?_
  have I2 : Inv X pins σ H1 { s1 with heap := h', toks := tk } := I1.kept hk
  refine sorted_set hS (I1.ok.hd hc) (by omega) fun s' p out c2 ms k g o hp hg hi hs hm2 hl2 => ?_
  have hlen : (ms.map V.int).length ≤ sizeLine := by rw [List.length_map, hl2, sizeLine_eq]; omega
  have hn : H1 p = none := I2.hok.fresh hp
  have J : Inv X pins σ (upd H1 p (.lst (ms.map V.int))) { s1 with heap := s'.heap, gens := s'.gens, drawn := s'.drawn, toks := s'.toks } :=
    L2.Inv.call (s := { s1 with heap := h', toks := tk }) (ch := []) I2 (Un.laid k hp hn) (I2.hok.laid k hp ⟨hlen, out.toList, c2, vals_of_ints hi, hg⟩) (by rw [g]; exact I2.bare) (fun _ z => nomatch z)
  have e : s' = { s1 with heap := s'.heap, gens := s'.gens, drawn := s'.drawn, toks := s'.toks } := by
    cases s'
    cases s1
    cases o
    rfl
  rw [e]
  exact ⟨.ref p, _, J, rfl, q1 ms p (fun j => (hm2 j).trans (by rw [decide_eq_true_iff])) (by omega) hn⟩
/-- min(xs), xs a list of alike data: the item itself -/
def rMinT (K : PySem.W.Frag) : List V → Hp → VK → Prop := fun xs H Q => ∃ (a : Addr) (vs : List V) (d : PyData) (ds : List PyData), xs = [.ref a] ∧ SqL K H a vs ∧ DpAll K H vs (d :: ds) ∧ PySem.W.AlikeAll (d :: ds) ∧ PyData.depthAll (d :: ds) ≤ 60 ∧
  ∀ (x : V) (i : Nat), vs[i]? = some x → (d :: ds)[i]? = some (PySem.W.minD d ds) → Q x H
theorem cr_minT (hc : X.calm = true) (hu : X.A.units + 65 < cLine) : CallR X (.builtin "min") (rMinT X.K) := by
  intro pins s σ H vs us Q I r h
  obtain ⟨a, xs, d, ds, rfl, hs, hd, ha, hz, q⟩ := h
  obtain ⟨its, rv, hl, _⟩ := I.list hs
  rw [Vals.ref1 r]
  obtain ⟨as, ra⟩ := Dp.readsAll I (d :: ds) xs its hd rv
  have hr : ReadsAll s.heap its.toArray.toList (d :: ds) as := by simpa using ra
  have hn : its.toArray.size = ds.length + 1 := PySem.W.readsAll_len hr
  refine PySem.call_min_walkH (PySem.W.iter_listW (A := X.A.in1) (I.ok.hd hc) hl.isList fun s₂ e W st hfp hw hk => ?_)
  refine ⟨_, _, _, _, _, _, _, s.heap, _, rfl, W, st, hfp, by omega, hw, hk, PySem.W.cmpIn_lt (A := X.A.in1) hr ha (by show X.A.units + 1 + _ < _; omega), fun v s' hP m => ?_⟩
  obtain ⟨h', tk, rfl, hk'⟩ := PySem.W.moved_old e rfl m
  have e1 : its.toArray.size - 1 = ds.length := by omega
  have e2 := PySem.W.argBest_fold PySem.W.dataLt PyData.none d ds ds.length (Nat.le_refl _)
  rw [List.take_length] at e2
  rw [e1] at hP
  have hP' : its[argBest (fun i j => PySem.W.dataLt ((d :: ds).getD i .none) ((d :: ds).getD j .none)) ds.length]? = some v := by simpa using hP
  obtain ⟨x, hx, rx⟩ := pget2 rv hP'
  refine ⟨x, H, I.kept hk', rx, q x _ hx ?_⟩
  have e3 := e2.2
  rw [List.getD_eq_getElem?_getD, List.getElem?_eq_getElem (by rw [List.length_cons]; omega)] at e3
  rw [List.getElem?_eq_getElem (by rw [List.length_cons]; omega)]
  exact congrArg some e3
end
end Ls

/-! LsOwn8 -/
/-! the own rules, within the layer; objects that are written within a def -/
namespace Ls
open PySem PySem.Spec PyProof.Rows L2
/-! ### frames of one object; local objects -/
def Fm.one (d : Addr) : Fm := ⟨fun a => a = d, fun _ => True, fun _ _ _ _ => True.intro⟩
section
variable {F : Fm} {G H G1 H1 G2 H2 : Hp} {p d : Addr} {o o' : HO}
theorem Gr.down (a : Gr F G H G1 H1) (h : At F G H) : Gr F G H G H1 :=
  ⟨Ex.refl _, a.hh, fun _ _ e => e, a.th, a.gg.trans a.gh, h.sg, a.at_.sh, a.at_.i⟩
/-- what a call wrote is local -/
theorem Gr.loc (a : Gr F G H G1 H1) (b : Gr (Fm.one d) G1 H1 G2 H2) (n : H d = none) (nS : ¬ F.S d) : Gr F G H G2 H2 where
  gg := a.gg.trans b.gg
  hh := fun x o s e => b.hh x o (fun z => by
    have z' : x = d := z
    rw [z', n] at e
    cases e) (a.hh x o s e)
  fr := fun x hx z => b.fr x (a.th x hx) (a.fr x hx z)
  th := fun x hx => b.th x (a.th x hx)
  at_ := ⟨b.gh, fun x s => b.fr x (a.at_.sh x s) (a.at_.sg x s), fun x s => b.th x (a.at_.sh x s), F.st H1 H2 (fun x s => by
    cases q : H1 x with
    | none => exact absurd q (a.at_.sh x s)
    | some u => exact b.hh x u (fun z => nS (by rw [← (z : x = d)]; exact s)) q) a.at_.i⟩
/-- several local objects were written -/
theorem Gr.mut (a : Gr F G H G1 H1) (P : Addr → Prop) (n : ∀ x, P x → H x = none ∧ G1 x = none ∧ ¬ F.S x) (k : ∀ x o, ¬ P x → H1 x = some o → H2 x = some o) (t : ∀ x, H1 x ≠ none → H2 x ≠ none) : Gr F G H G1 H2 where
  gg := a.gg
  hh := fun x o s e => k x o (fun z => by rw [(n x z).1] at e; cases e) (a.hh x o s e)
  fr := a.fr
  th := fun x hx => t x (a.th x hx)
  at_ := ⟨fun x o e => k x o (fun z => by rw [(n x z).2.1] at e; cases e) (a.gh x o e), a.at_.sg, fun x s => t x (a.at_.sh x s), F.st H1 H2 (fun x s => by
    cases q : H1 x with
    | none => exact absurd q (a.at_.sh x s)
    | some u => exact k x u (fun z => (n x z).2.2 s) q) a.at_.i⟩
/-! a look at local objects: for a while they are known -/
open Classical in
noncomputable def put (P : Addr → Prop) (H G : Hp) : Hp := fun b => if P b then H b else G b
open Classical in
noncomputable def cut (P : Addr → Prop) (G : Hp) : Hp := fun b => if P b then none else G b
theorem put_in {P : Addr → Prop} {b : Addr} (h : P b) : put P H G b = H b := if_pos h
theorem put_out {P : Addr → Prop} {b : Addr} (h : ¬ P b) : put P H G b = G b := if_neg h
theorem cut_in {P : Addr → Prop} {b : Addr} (h : P b) : cut P G b = none := if_pos h
theorem cut_out {P : Addr → Prop} {b : Addr} (h : ¬ P b) : cut P G b = G b := if_neg h
structure Loc (F : Fm) (P : Addr → Prop) (G H : Hp) : Prop where
  g : ∀ a, P a → G a = none
  h : ∀ a, P a → H a ≠ none
  s : ∀ a, P a → ¬ F.S a
theorem Loc.ex {P : Addr → Prop} (l : Loc F P G H) : Ex G (put P H G) := fun a u e => by
  rw [put_out fun z => by rw [l.g a z] at e; cases e]
  exact e
theorem Loc.at {P : Addr → Prop} (l : Loc F P G H) (a : At F G H) : At F (put P H G) H where
  gh := fun b u e => by
    by_cases q : P b
    · rw [put_in q] at e
      exact e
    · rw [put_out q] at e
      exact a.gh b u e
  sg := fun b s => by
    rw [put_out fun z => l.s b z s]
    exact a.sg b s
  sh := a.sh
  i := a.i
theorem Loc.back {P : Addr → Prop} (l : Loc F P G H) (a : At F G H) (g : Gr F (put P H G) H G1 H1) : Gr F G H (cut P G1) H1 where
  gg := fun b u e => by
    have nb : ¬ P b := fun z => by rw [l.g b z] at e; cases e
    rw [cut_out nb]
    exact g.gg b u (by rw [put_out nb]; exact e)
  hh := g.hh
  fr := fun b hb e => by
    by_cases q : P b
    · rw [cut_in q]
    · rw [cut_out q]
      exact g.fr b hb (by rw [put_out q]; exact e)
  th := g.th
  at_ := ⟨fun b u e => by
    by_cases q : P b
    · rw [cut_in q] at e
      cases e
    · rw [cut_out q] at e
      exact g.gh b u e, fun b s => by
    rw [cut_out fun z => l.s b z s]
    exact g.at_.sg b s, g.at_.sh, g.at_.i⟩
theorem Loc.stay {P : Addr → Prop} (l : Loc F P G H) (g : Gr F (put P H G) H G1 H1) {b : Addr} {u : HO} (h : P b) (e : H b = some u) : H1 b = some u := g.hh b u (l.s b h) e
theorem Loc.mo {P : Addr → Prop} (l : Loc F P G H) (a : Gr F G H G1 H1) : Loc F P G1 H1 := ⟨fun b h => a.fr b (l.h b h) (l.g b h), fun b h => a.th b (l.h b h), l.s⟩
theorem loc_or {P P2 : Addr → Prop} (l : Loc F P G H) (l2 : Loc F P2 G H) : Loc F (fun a => P a ∨ P2 a) G H := ⟨fun a h => h.elim (l.g a) (l2.g a), fun a h => h.elim (l.h a) (l2.h a), fun a h => h.elim (l.s a) (l2.s a)⟩
theorem loc_one (h1 : G d = none) (h2 : H d ≠ none) (h3 : ¬ F.S d) : Loc F (fun a => a = d) G H := ⟨fun a h => by rw [h]; exact h1, fun a h => by rw [h]; exact h2, fun a h => by rw [h]; exact h3⟩
/-- a value that a look gives and that holds no local object -/
theorem Ev.peek {P : Addr → Prop} {te : TE} {σ : L2.St} {R : Rp} (l : Loc F P G H) (a : At F G H) (h : Ev F te σ (put P H G) R) {Q : VK} (q : ∀ v G1 H1, Gr F G H (cut P G1) H1 → (∀ b u, P b → H b = some u → H1 b = some u) → R.p v G1 → Ex (put P H G) G1 → Q v H1) : te σ H Q :=
  h _ H (Ex.refl _) (l.at a) _ fun v G1 H1 g r => q v G1 H1 (l.back a g) (fun b u hb e => l.stay g hb e) r g.gg
theorem EvT.peek {P : Addr → Prop} {t : TT} {σ : L2.St} {B : Bool → Prop} (l : Loc F P G H) (a : At F G H) (h : EvT F t σ (put P H G) B) {Q : Bool → Hp → Prop} (q : ∀ b G1 H1, Gr F G H (cut P G1) H1 → (∀ b u, P b → H b = some u → H1 b = some u) → B b → Q b H1) : t σ H Q :=
  h _ H (Ex.refl _) (l.at a) _ fun v G1 H1 g r => q v _ H1 (l.back a g) (fun b u hb e => l.stay g hb e) r
end
section
variable {F : Fm} {σ : L2.St} {G G' H H' : Hp} {R S T : Rp} {Rs Ys Zs Ws : List Rp} {ta tb te tc : TE} {t u : TT} {ts : TA} {K : PySem.W.Frag} {C : Addr} {x y z v : V} {wi : TI} {a b c : Addr} {vs us ws : List V}
/-! ### sources -/
theorem src_enumT (e : G a = some (.tup vs)) (h : All Ys vs G) : Src (IteT K a) (enumR Ys) G where
  go := fun i H hi eh => let ⟨x, hx⟩ := all_ix h (by rw [enumR_len] at hi; exact hi); ⟨vs, x, st_of (eh _ _ e), hx⟩
  stop := fun H eh => ⟨vs, st_of (eh _ _ e), by rw [enumR_len, ← h.len]⟩
  yld := fun i Y G1 H v H' hY e1 eh hy => by
    obtain ⟨R, hR, rfl⟩ := enumR_get hY
    obtain ⟨T, x, rfl, hT, rfl, f⟩ := hy
    obtain ⟨w, hw, rw'⟩ := h.get hR
    have q := f vs (st_of (eh _ _ (e1 _ _ e)))
    rw [hw] at q
    have qe : w = _ := Option.some.inj q
    subst qe
    exact ⟨upd G1 T (.tup [.int (i : Nat), w]), Gr.new (At.no eh) hT, T, _, rfl, upd_same, .cons rfl (.cons (R.mo w _ _ (e1.trans (Ex.new (eh.back hT))) rw') .nil)⟩
theorem ei_enumT (h : EvA F ts σ G [rTup Ys]) : EvI F (iAlt (iEnum K ts) (iEnumT K ts)) σ G (enumR Ys) := fun G1 H1 e a Q q =>
  .inr (h G1 H1 e a _ fun vs G2 H2 g hs => by
    cases hs with
    | cons r t =>
      cases t
      obtain ⟨p, xs, rfl, hp, hx⟩ := r
      exact ⟨p, xs, rfl, st_of (g.gh _ _ hp), q _ G2 H2 g (src_enumT hp hx)⟩)
theorem ei_enumL (h : EvA F ts σ G [rLst Ys]) : EvI F (iAlt (iEnum K ts) (iEnumT K ts)) σ G (enumR Ys) := fun G1 H1 e a Q q => .inl (ei_enum h G1 H1 e a Q q)
def zip3R (Ys Zs Ws : List Rp) : List Rp := (Ys.zip (Zs.zip Ws)).map fun p => rTup [p.1, p.2.1, p.2.2]
theorem src_zip3 (ea : G a = some (.tup vs)) (ha : All Ys vs G) (eb : G b = some (.tup us)) (hb : All Zs us G) (ec : G c = some (.tup ws)) (hc : All Ws ws G) : Src (Itz3 K a b c) (zip3R Ys Zs Ws) G := by
  have ln : (zip3R Ys Zs Ws).length = min Ys.length (min Zs.length Ws.length) := by
    unfold zip3R
    rw [List.length_map, List.length_zip, List.length_zip]
  exact {
    go := fun i H hi eh => by
      rw [ln] at hi
      obtain ⟨x, hx⟩ := all_ix ha (i := i) (by omega)
      obtain ⟨y, hy⟩ := all_ix hb (i := i) (by omega)
      obtain ⟨z, hz⟩ := all_ix hc (i := i) (by omega)
      exact ⟨vs, us, ws, x, y, z, st_of (eh _ _ ea), st_of (eh _ _ eb), st_of (eh _ _ ec), hx, hy, hz⟩
    stop := fun H eh => by
      have l1 := ha.len
      have l2 := hb.len
      have l3 := hc.len
      refine ⟨vs, us, ws, st_of (eh _ _ ea), st_of (eh _ _ eb), st_of (eh _ _ ec), ?_, ?_, ?_, ?_⟩ <;> rw [ln] <;> omega
    yld := fun i Y G1 H v H' hY e1 eh hy => by
      obtain ⟨T, x, y, z, rfl, hT, rfl, f1, f2, f3⟩ := hy
      unfold zip3R at hY
      rw [List.getElem?_map] at hY
      obtain ⟨⟨R, S, U⟩, hp, rfl⟩ := Option.map_eq_some_iff.mp hY
      obtain ⟨q1, q23⟩ := List.getElem?_zip_eq_some.mp hp
      obtain ⟨q2, q3⟩ := List.getElem?_zip_eq_some.mp q23
      obtain ⟨w1, hw1, r1⟩ := ha.get q1
      obtain ⟨w2, hw2, r2⟩ := hb.get q2
      obtain ⟨w3, hw3, r3⟩ := hc.get q3
      have p1 := f1 vs (st_of (eh _ _ (e1 _ _ ea)))
      have p2 := f2 us (st_of (eh _ _ (e1 _ _ eb)))
      have p3 := f3 ws (st_of (eh _ _ (e1 _ _ ec)))
      rw [hw1] at p1
      rw [hw2] at p2
      rw [hw3] at p3
      cases p1
      cases p2
      cases p3
      have ex := e1.trans (Ex.new (o := .tup [x, y, z]) (eh.back hT))
      exact ⟨upd G1 T (.tup [x, y, z]), Gr.new (At.no eh) hT, T, _, rfl, upd_same, .cons (R.mo x _ _ ex r1) (.cons (S.mo y _ _ ex r2) (.cons (U.mo z _ _ ex r3) .nil))⟩ }
theorem ei_zip3 (h : EvA F ts σ G [rTup Ys, rTup Zs, rTup Ws]) : EvI F (iZip3 K ts) σ G (zip3R Ys Zs Ws) := fun G1 H1 e a Q q =>
  h G1 H1 e a _ fun vs G2 H2 g hs => by
    cases hs with
    | cons r t =>
      cases t with
      | cons r2 t =>
        cases t with
        | cons r3 t =>
          cases t
          obtain ⟨p, xs, rfl, hp, hx⟩ := r
          obtain ⟨p2, xs2, rfl, hp2, hx2⟩ := r2
          obtain ⟨p3, xs3, rfl, hp3, hx3⟩ := r3
          exact ⟨p, p2, p3, xs, xs2, xs3, rfl, st_of (g.gh _ _ hp), st_of (g.gh _ _ hp2), st_of (g.gh _ _ hp3), q _ G2 H2 g (src_zip3 hp hx hp2 hx2 hp3 hx3)⟩
theorem ei_map {α : Type} {f g : α → Rp} {xs : List α} (h : EvI F wi σ G (xs.map f)) (e : ∀ x, f x = g x) : EvI F wi σ G (xs.map g) := by
  have e1 : f = g := funext e
  rw [← e1]
  exact h
theorem ei_to {Xs : List Rp} (h : EvI F wi σ G Xs) (e : Xs = Ys) : EvI F wi σ G Ys := e ▸ h
theorem ev_to (h : Ev F ta σ G R) (e : R = S) : Ev F ta σ G S := e ▸ h
/-! ### list(zip(t, u)) -/
theorem ev_zipL (h : EvA F ts σ G [rTup Ys, rTup Zs]) (hl : Ys.length = Zs.length) (hz : Ys.length ≤ 1000) : Ev F (tZipL K ts) σ G (rLst (List.zipWith (fun R S => rTup [R, S]) Ys Zs)) := fun G1 H1 e a Q q =>
  h G1 H1 e a _ fun vs G2 H2 g hs => by
    cases hs with
    | cons r t =>
      cases t with
      | cons r2 t =>
        cases t
        obtain ⟨p, xs, rfl, hp, hx⟩ := r
        obtain ⟨p2, xs2, rfl, hp2, hx2⟩ := r2
        have l1 := hx.len
        have l2 := hx2.len
        refine ⟨p, p2, xs, xs2, rfl, st_of (g.gh _ _ hp), st_of (g.gh _ _ hp2), by omega, by omega, fun H' L as hk n1 n2 n3 hL hP => ?_⟩
        -- what is known afterwards: the list and its pairs
        have gL : G2 L = none := g.gh.back n1
        let P : Addr → Prop := fun b => b = L ∨ b ∈ as
        have gP : ∀ b, P b → H2 b = none := fun b hb => hb.elim (fun z => by rw [z]; exact n1) (n2 b)
        have exG : Ex G2 (put P H' G2) := fun b u z => by
          rw [put_out fun w => by rw [g.gh.back (gP b w)] at z; cases z]
          exact z
        have gr : Gr F G2 H2 (put P H' G2) H' := ⟨exG, fun b u _ z => hk b u z, fun b hb z => by
            rw [put_out fun w => hb (gP b w)]
            exact z, fun b hb => by
            cases q1 : H2 b with
            | none => exact absurd q1 hb
            | some u =>
              rw [hk b u q1]
              exact Option.some_ne_none _, fun b u z => by
            by_cases w : P b
            · rw [put_in w] at z
              exact z
            · rw [put_out w] at z
              exact hk b u (g.gh b u z), fun b s => by
            rw [put_out fun w => g.at_.sh b s (gP b w)]
            exact g.at_.sg b s, fun b s => by
            cases q1 : H2 b with
            | none => exact absurd q1 (g.at_.sh b s)
            | some u =>
              rw [hk b u q1]
              exact Option.some_ne_none _, F.st H2 H' (fun b s => by
            cases q1 : H2 b with
            | none => exact absurd q1 (g.at_.sh b s)
            | some u => exact hk b u q1) g.at_.i⟩
        refine q (.ref L) _ H' (g.trans gr) ⟨L, as.map V.ref, rfl, ?_, ?_⟩
        · rw [put_in (.inl rfl)]
          exact hL
        · have go : ∀ (Ys Zs : List Rp) (xs xs2 : List V) (as' : List Addr), (∀ b ∈ as', b ∈ as) → All Ys xs G2 → All Zs xs2 G2 → Paired (fun (t : Addr) (q : V × V) => H' t = some (.tup [q.1, q.2])) as' (xs.zip xs2) →
              All (List.zipWith (fun R S => rTup [R, S]) Ys Zs) (as'.map V.ref) (put P H' G2) := by
            intro Ys
            induction Ys with
            | nil =>
              intro Zs xs xs2 as' _ h1 h2 hp
              cases h1
              cases hp
              exact .nil
            | cons Y Ys ih =>
              intro Zs xs xs2 as' hm h1 h2 hp
              cases h1 with
              | cons r1 t1 =>
                cases h2 with
                | nil =>
                  cases hp
                  exact .nil
                | cons r2 t2 =>
                  cases hp with
                  | cons rp tp =>
                    refine .cons ⟨_, _, rfl, ?_, .cons (Y.mo _ _ _ exG r1) (.cons (Rp.mo _ _ _ _ exG r2) .nil)⟩ (ih _ _ _ _ (fun b hb => hm b (List.mem_cons_of_mem _ hb)) t1 t2 tp)
                    rw [put_in (.inr (hm _ List.mem_cons_self))]
                    exact rp
          exact go Ys Zs xs xs2 as (fun b hb => hb) hx hx2 hP
/-- xs[::-1] -/
theorem ev_revL (h : Ev F ta σ G (rLst Rs)) : Ev F (tRevL K ta) σ G (rLst Rs.reverse) := fun G1 H1 e a Q q =>
  h G1 H1 e a _ fun v G2 H2 g ⟨p, xs, hv, hp, hx⟩ => ⟨p, xs, hv, sq_of (g.gh _ _ hp), fun l hl => q (.ref l) _ _ (g.trans (Gr.new g.at_ hl)) ⟨l, _, rfl, upd_same, hx.rev.mo (Ex.new (g.gh.back hl))⟩⟩
/-- sorted(set(ns)) -/
theorem ev_sortSet {ns : List Int} (h : Ev F ta σ G (rLst (ns.map isI))) (hn : ns.length < 60) : Ev F (tSortSet K ta) σ G (rSome fun ms : List Int => rIf (∀ x, x ∈ ms ↔ x ∈ ns) (rLst (ms.map isI))) := fun G1 H1 e a Q q =>
  h G1 H1 e a _ fun v G2 H2 g ⟨p, xs, hv, hp, hx⟩ => by
    have e1 := all_vals hx
    subst e1
    exact ⟨p, ns, hv, sq_of (g.gh _ _ hp), hn, fun ms l hm hl nl => q (.ref l) _ _ (g.trans (Gr.new g.at_ nl)) ⟨ms, hm, l, _, rfl, upd_same, all_of ms _⟩⟩
/-- min of images -/
theorem ev_minT {i0 : Img} {is : List Img} (h : Ev F ta σ G (rLst ((i0 :: is).map rImg))) (hd : PySem.W.AlikeAll ((i0 :: is).map eImg)) : Ev F (tCB (rMinT K) (tCons ta tNil)) σ G (rSome fun i : Img => rIf (i ∈ i0 :: is ∧ eImg i = PySem.W.minD (eImg i0) (is.map eImg)) (rImg i)) :=
  ev_cbv (ea_cons h ea_nil) fun vs G1 H1 _ eh hs Q q => by
    cases hs with
    | cons r t =>
      cases t
      obtain ⟨a, ys, rfl, ha, hy⟩ := r
      have pd : Paired (Dat K) ((i0 :: is).map rImg) ((i0 :: is).map eImg) := dat_map (fun _ => dat_img) _
      refine ⟨a, ys, eImg i0, is.map eImg, rfl, sq_of (eh _ _ ha), dat_all pd (hy.mo eh), hd, ?_, fun x i hx hi => q x ?_⟩
      · have z := (sh_all (n := 1) (ds := (i0 :: is).map eImg) fun d hd => by
          obtain ⟨i, _, rfl⟩ := List.mem_map.mp hd
          exact sh_img).2
        exact Nat.le_trans z (by decide)
      · have hi' : ((i0 :: is).map eImg)[i]? = some (PySem.W.minD (eImg i0) (is.map eImg)) := hi
        rw [List.getElem?_map] at hi'
        obtain ⟨j, hj, ej⟩ := Option.map_eq_some_iff.mp hi'
        obtain ⟨w, hw, rw'⟩ := hy.get (i := i) (R := rImg j) (by rw [List.getElem?_map, hj] <;> rfl)
        rw [hx] at hw
        cases hw
        exact ⟨j, ⟨List.mem_of_getElem? hj, ej⟩, rw'⟩
end
end Ls

/-! LsIni -/
/-! the body of an __init__: the instance at x is written -/
namespace Ls
open PySem PySem.Spec PyProof.Rows L2
def Fm.cell (x : Addr) (o : HO) : Fm := ⟨fun a => a = x, fun H => H x = some o, fun H H' k h => by rw [k x rfl]; exact h⟩
section
variable {K : PySem.W.Frag} {C x dx : Addr} {o : HO} {σ : L2.St} {G H G0 H0 G1 H1 : Hp} {vs : List (Str × V)} {fs : List (Str × Rp)} {f : Str} {R : Rp} {te : TE} {D : Ends} {Q : VK}
theorem at_cell (e : Ex G (del H x)) (hx : H x = some o) : At (Fm.cell x o) G H where
  gh := fun a u z => ex_del a u (e a u z)
  sg := fun a s => by
    have s' : a = x := s
    cases q : G a with
    | none => rfl
    | some u =>
      have z := e a u q
      rw [s', del_same] at z
      cases z
  sh := fun a s => by
    rw [(s : a = x), hx]
    exact Option.some_ne_none _
  i := hx
theorem gr_cell (g : Gr (Fm.cell x o) G H G1 H1) : Gr Fm.no G (del H x) G1 (del H1 x) where
  gg := g.gg
  hh := fun b u _ e => by
    by_cases q : b = x
    · rw [q, del_same] at e
      cases e
    · rw [del_ne q] at e ⊢
      exact g.hh b u q e
  fr := fun b hb e => by
    by_cases q : b = x
    · rw [q, del_same] at hb
      exact absurd rfl hb
    · rw [del_ne q] at hb
      exact g.fr b hb e
  th := fun b hb => by
    by_cases q : b = x
    · rw [q, del_same] at hb
      exact absurd rfl hb
    · rw [del_ne q] at hb ⊢
      exact g.th b hb
  at_ := At.no fun b u e => by
    have q : b ≠ x := fun z => by rw [z, g.at_.sg x rfl] at e; cases e
    rw [del_ne q]
    exact g.gh b u e
structure Ini (C x dx : Addr) (G0 H0 G H : Hp) (vs : List (Str × V)) (fs : List (Str × Rp)) : Prop where
  at_ : At (Fm.cell x (.ins C dx vs)) G H
  gr : Gr Fm.no G0 H0 G (del H x)
  fl : Flds fs vs G
theorem Ini.start (hx : H x = some (.ins C dx [])) (e : Ex G (del H x)) : Ini C x dx G (del H x) G H [] [] := ⟨at_cell e hx, Gr.refl (At.no e), .nil⟩
theorem Ini.up (i : Ini C x dx G0 H0 G H vs fs) (g : Gr (Fm.cell x (.ins C dx vs)) G H G1 H1) : Ini C x dx G0 H0 G1 H1 vs fs := ⟨g.at_, i.gr.trans (gr_cell g), i.fl.mo g.gg⟩
theorem lookup_flds : ∀ {fs : List (Str × Rp)} {vs : List (Str × V)} {G : Hp}, Flds fs vs G → fs.lookup f = none → vs.lookup f = none := fun h e => h.no e
theorem putF_new : ∀ {vs : List (Str × V)} {v : V}, vs.lookup f = none → putF f v vs = vs ++ [(f, v)]
  | [], _, _ => rfl
  | (g, w) :: vs, v, h => by
    rw [List.lookup_cons] at h
    by_cases q : (f == g) = true
    · rw [q] at h
      cases h
    · rw [Bool.not_eq_true] at q
      rw [q] at h
      have ih := putF_new (v := v) h
      show putF f v ((g, w) :: vs) = _
      unfold putF
      have q2 : ¬ g = f := fun z => by
        rw [z, beq_self_eq_true] at q
        cases q
      rw [if_neg q2, ih]
      rfl
theorem Flds.len : ∀ {fs : List (Str × Rp)} {vs : List (Str × V)} {G : Hp}, Flds fs vs G → fs.length = vs.length := fun h => Paired.length h
/-- self.f = te -/
theorem ini_fld (hσ : σ[0]? = some (some (.ref x))) (i : Ini C x dx G0 H0 G H vs fs) (c : Cls K C) (n : NoAttr K C f) (h : Ev (Fm.cell x (.ins C dx vs)) te σ G R) (hn : fs.lookup f = none) (hl : fs.length < 100)
    (k : ∀ v G1 H1, Ini C x dx G0 H0 G1 H1 (vs ++ [(f, v)]) (fs ++ [(f, R)]) → Ex G G1 → D.nx σ H1) : sFld K (tVar 0) te f D σ H := by
  refine h G H (Ex.refl _) i.at_ _ fun v G' H' g rv => ?_
  have i' := i.up g
  have e := putF_new (v := v) (i'.fl.no hn)
  refine ⟨.ref x, hσ, x, C, dx, vs, rfl, i'.at_.i, c, n, by rw [← i.fl.len]; omega, ?_⟩
  rw [e]
  have e2 : del (upd H' x (.ins C dx (vs ++ [(f, v)]))) x = del H' x := del_upd
  refine k v G' _ ⟨at_cell (by rw [e2]; exact i'.gr.gh) upd_same, by rw [e2]; exact i'.gr, ?_⟩ g.gg
  have go : ∀ {fs : List (Str × Rp)} {vs : List (Str × V)}, Flds fs vs G' → Flds (fs ++ [(f, R)]) (vs ++ [(f, v)]) G' := by
    intro fs
    induction fs with
    | nil =>
      intro vs h
      cases h
      exact .cons ⟨rfl, rv⟩ .nil
    | cons a fs ih =>
      intro vs h
      cases h with
      | cons r t => exact .cons r (ih t)
  exact go i'.fl
theorem ini_end (i : Ini C x dx G0 H0 G H vs fs) (nx : H0 x = none) (q : ∀ G' H', Gr Fm.no G0 H0 G' H' → (rIns C fs).p (.ref x) G' → Q .non H') : Q .non H := by
  have hx : H x = some (.ins C dx vs) := i.at_.i
  have e : upd (del H x) x (.ins C dx vs) = H := by
    funext b
    by_cases z : b = x
    · rw [z, upd_same, hx]
    · rw [upd_ne z, del_ne z]
  have gx : G x = none := i.at_.sg x rfl
  have g1 := i.gr.wrNo (o := .ins C dx vs) nx gx
  rw [e] at g1
  exact q _ _ (g1.fixNo nx gx hx) ⟨x, dx, vs, rfl, upd_same, i.fl.mo (Ex.new gx)⟩
/-- self.f within the body -/
theorem ev_self (hσ : σ[0]? = some (some (.ref x))) (c : Cls K C) (n : NoAttr K C f) (fl : Flds fs vs G) (hl : fs.lookup f = some R) : Ev (Fm.cell x (.ins C dx vs)) (tFld K (tVar 0) f) σ G R := fun G1 H1 e a Q q => by
  obtain ⟨v, hv, rv⟩ := fl.get hl
  exact ⟨.ref x, hσ, x, C, dx, vs, v, rfl, a.i, c, n, hv, q v G1 H1 (Gr.refl a) (R.mo v _ _ e rv)⟩
end
end Ls

/-! LsK -/
set_option maxHeartbeats 2000000
/-! rules whose readings name K, for use within comprehensions -/
namespace Ls
open PySem PySem.Spec PyProof.Rows L2
section
variable {X : Cx} {K : PySem.W.Frag} {e : Expr} {f : Str} {pos : Pos} {ta : TE}
theorem k_pe_fld (hk : X.K = K) (he : PE X e ta) (hb : attributeBase e f X.env (eval e X.env) = eval e X.env) : PE X (.Attribute e f pos) (tFld K ta f) := hk ▸ pe_fld he hb
theorem k_ix_list (hk : X.K = K) : IxR X (rIxL K) := hk ▸ ix_list
theorem k_ix_tup (hk : X.K = K) : IxR X (rIxT K) := hk ▸ ix_tup
theorem k_ix_seq (hk : X.K = K) : IxR X (rIx K) := hk ▸ ix_seq
theorem k_op_in_seq (hk : X.K = K) : OpR X (compareOp .In) (rIn K false) := hk ▸ op_in_seq
theorem k_op_notIn_seq (hk : X.K = K) : OpR X (compareOp .NotIn) (rIn K true) := hk ▸ op_notIn_seq
theorem k_op_inD (hk : X.K = K) (hu : X.A.units + 65 < cLine) : OpR X (compareOp .In) (rInD K) := hk ▸ op_inD hu
theorem k_op_notInD (hk : X.K = K) (hu : X.A.units + 65 < cLine) : OpR X (compareOp .NotIn) (rNotInD K) := hk ▸ op_notInD hu
theorem k_call_tuple_of (hk : X.K = K) : CallR X (.type "tuple") (rTupOf K) := hk ▸ call_tuple_of
theorem k_call_list_of (hk : X.K = K) : CallR X (.type "list") (rLstOf K) := hk ▸ call_list_of
theorem k_call_len_seq (hk : X.K = K) : CallR X (.builtin "len") (fun xs H Q => ∃ p ys, xs = [.ref p] ∧ (SqL K H p ys ∨ SqT K H p ys) ∧ Q (.int ys.length) H) := hk ▸ call_len_seq
theorem k_call_isi (hk : X.K = K) : CallR X (.builtin "isinstance") (rIsi K) := hk ▸ call_isi
theorem k_pi_tup {tg : Expr} (hk : X.K = K) (h : PE X e ta) : PI X tg e (iTup K ta) := hk ▸ pi_tup h
theorem k_pi_list {tg : Expr} (hk : X.K = K) (h : PE X e ta) : PI X tg e (iList K ta) := hk ▸ pi_list h
theorem k_op_repZ (hk : X.K = K) : OpR X (binaryOp .Mult) (rRepZ K) := hk ▸ op_repZ
end
end Ls

/-! LsW1 -/
set_option maxHeartbeats 4000000
namespace Ls
open PySem PySem.Spec PyProof.Rows L2
section
variable {P : Program} {w : World} {K : PySem.W.Frag} {mg : Str → Option Value} {base : Heap}
/-! ### Memory -/
def sp_Memory_kind : Sp := Prom fun vs _ R => ∃ v, vs = [v] ∧ R = isV (.str "memory")
theorem sc_Memory_kind : FnScope ["self"] ["self"] (defScope s_Memory_kind) := ⟨rfl, rfl, rfl, by decide +kernel, rfl, by decide +kernel, by decide +kernel⟩
/- self=0; cells none; level 1 -/
theorem ok_Memory_kind (T : Tx K mg) : Dk P w K mg base (He.ma K (He.ga K "Memory") "kind") 1 ["self"] sp_Memory_kind := by
  refine dk_of (d_Memory_kind_at T) sc_Memory_kind (fun _ _ _ _ _ _ us hl => match us, hl with | [_], _ => rfl) (fun vs H Q E h => ?_) (fun cdv A outer s H vs Q E hr h => ⟨_, (pss_one (ps_ret pe_str)), ?_⟩)
  · obtain ⟨G, R, gh, ⟨v, rfl, _⟩, _⟩ := h
    rfl
  · obtain ⟨G, R, gh, ⟨v, rfl, rfl⟩, q⟩ := h
    exact st_ret ev_c (At.no gh) q
def sp_Memory_facts (K : PySem.W.Frag) : Sp := Prom fun vs G R => ∃ v sz, vs = [v] ∧ (rMem K sz).p v G ∧ R = rTup [rTup (sz.map isN)]
theorem sc_Memory_facts : FnScope ["self"] ["self"] (defScope s_Memory_facts) := ⟨rfl, rfl, rfl, by decide +kernel, rfl, by decide +kernel, by decide +kernel⟩
/- self=0; cells none; level 1 -/
theorem ok_Memory_facts (T : Tx K mg) : Dk P w K mg base (He.ma K (He.ga K "Memory") "facts") 1 ["self"] (sp_Memory_facts K) := by
  refine dk_of (d_Memory_facts_at T) sc_Memory_facts (fun _ _ _ _ _ _ us hl => match us, hl with | [_], _ => rfl) (fun vs H Q E h => ?_) (fun cdv A outer s H vs Q E hr h => ⟨_, (pss_one (ps_ret (pe_tup (pa_cons (pe_fld (pv 0) rfl) pa_nil)))), ?_⟩)
  · obtain ⟨G, R, gh, ⟨v, sz, rfl, _⟩, _⟩ := h
    rfl
  · obtain ⟨G, R, gh, ⟨v, sz, rfl, hm, rfl⟩, q⟩ := h
    exact st_ret (ev_tup (ea_cons (ev_fld (c_Memory T) (n_Memory_sizes T) (ev_var rfl hm) rfl) ea_nil) (by simp)) (At.no gh) q
def sp_Memory_check_line (K : PySem.W.Frag) : Sp := Prom fun vs G R => ∃ v sz l, vs = [v, .int (l : Nat)] ∧ (rMem K sz).p v G ∧ l < sz.length ∧ R = isV .non
theorem sc_Memory_check_line : FnScope ["self", "line"] ["self", "line"] (defScope s_Memory_check_line) := ⟨rfl, rfl, rfl, by decide +kernel, rfl, by decide +kernel, by decide +kernel⟩
/- self=0 line=1; cells none; level 1 -/
theorem ok_Memory_check_line (T : Tx K mg) : Dk P w K mg base (He.ma K (He.ga K "Memory") "check_line") 1 ["self", "line"] (sp_Memory_check_line K) := by
  refine dk_of (d_Memory_check_line_at T) sc_Memory_check_line (fun _ _ _ _ _ _ us hl => match us, hl with | [_, _], _ => rfl) (fun vs H Q E h => ?_) (fun cdv A outer s H vs Q E hr h => ⟨_, (pss_one (ps_if (pt_not (pt_chain op_le op_lt pe_int (pv 1) (pe_callB call_len_seq (by rfl) (f_len T) bt_len (pa_cons (pe_fld (pv 0) rfl) pa_nil)))) (pss_one ps_never) pss_nil)), ?_⟩)
  · obtain ⟨G, R, gh, ⟨v, sz, l, rfl, _⟩, _⟩ := h
    rfl
  · obtain ⟨G, R, gh, ⟨v, sz, l, rfl, hm, hl, rfl⟩, q⟩ := h
    refine st_if (et_not (et_test (ev_chain ev_cI (ev_var rfl rfl) fun _ => ev_lenT (ev_fld (c_Memory T) (n_Memory_sizes T) (ev_var rfl hm) rfl)))) (At.no gh) (fun G' H' g b => ?_) (fun G' H' g _ => q _ _ _ g rfl)
    rw [List.length_map, decide_eq_true (show (0 : Int) ≤ (l : Int) by omega), decide_eq_true (show (l : Int) < (sz.length : Int) by omega)] at b
    cases b
def sp_Memory_check_word (K : PySem.W.Frag) : Sp := Prom fun vs G R => ∃ v sz l x, vs = [v, .int (l : Nat), .int (x : Nat)] ∧ (rMem K sz).p v G ∧ okAt sz l x ∧ R = isV .non
theorem sc_Memory_check_word : FnScope ["self", "line", "word"] ["self", "line", "word"] (defScope s_Memory_check_word) := ⟨rfl, rfl, rfl, by decide +kernel, rfl, by decide +kernel, by decide +kernel⟩
/- self=0 line=1 word=2; cells none; level 2 -/
theorem ok_Memory_check_word (T : Tx K mg) : Dk P w K mg base (He.ma K (He.ga K "Memory") "check_word") 2 ["self", "line", "word"] (sp_Memory_check_word K) := by
  refine dk_of (d_Memory_check_word_at T) sc_Memory_check_word (fun _ _ _ _ _ _ us hl => match us, hl with | [_, _, _], _ => rfl) (fun vs H Q E h => ?_) (fun cdv A outer s H vs Q E hr h => ⟨_, (pss_cons (ps_expr (pe_mth (pv 0) (c_Memory T) (m_Memory_check_line T) (ok_Memory_check_line T) (hr.mono (by decide)) (pa_cons (pv 1) pa_nil)))
      (pss_one (ps_if (pt_not (pt_chain op_le op_lt pe_int (pv 2) (pe_ix ix_tup (pe_fld (pv 0) rfl) (pv 1) (fun _ _ => rfl)))) (pss_one ps_never) pss_nil))), ?_⟩)
  · obtain ⟨G, R, gh, ⟨v, sz, l, x, rfl, _⟩, _⟩ := h
    rfl
  · obtain ⟨G, R, gh, ⟨v, sz, l, x, rfl, hm, ⟨s, hs, hx⟩, rfl⟩, q⟩ := h
    have hl : l < sz.length := (List.getElem?_eq_some_iff.mp hs).1
    refine st_drop (ev_meth (R := isV .non) (ev_var rfl hm) rfl (ea_cons (ev_var (R := isN l) rfl rfl) ea_nil) fun y vs G1 e r rs => ?_) (At.no gh) fun y G1 H1 g1 _ => ?_
    · cases rs with
      | cons a b =>
        cases b
        cases a
        exact ⟨y, sz, l, rfl, r, hl, rfl⟩
    · have hm1 := (rMem K sz).mo _ _ _ g1.gg hm
      refine st_if (et_not (et_test (ev_chain ev_cI (ev_var (R := isN x) rfl rfl) fun _ => ev_ixT (R := isN s) (ev_fld (c_Memory T) (n_Memory_sizes T) (ev_var rfl hm1) rfl) (ev_var (R := isN l) rfl rfl) (by rw [List.getElem?_map, hs]; rfl)))) g1.at_ (fun G' H' g b => ?_) (fun G' H' g _ => q _ _ _ (g1.trans g) rfl)
      rw [decide_eq_true (show (0 : Int) ≤ (x : Int) by omega), decide_eq_true (show (x : Int) < (s : Int) by omega)] at b
      cases b
end
end Ls


/-! LsW2 -/
namespace Ls
open PySem PySem.Spec PyProof.Rows L2
section
variable {F : Fm} {σ : L2.St} {G : Hp} {R : Rp} {ta tb te : TE} {K : PySem.W.Frag} {C : Addr} {x : V}
/-- tuple(x) of a value that is a list of some ints -/
theorem ev_tupSet {P : List Int → Prop} (h : Ev F ta σ G (rSome fun ms : List Int => rIf (P ms) (rLst (ms.map isI)))) : Ev F (tCB (rTupOf K) (tCons ta tNil)) σ G (rSome fun ms : List Int => rIf (P ms) (rTup (ms.map isI))) :=
  ev_cb (ea_cons h ea_nil) fun vs G1 H1 _ eh hs Q q => by
    cases hs with
    | cons r t =>
      cases t
      obtain ⟨ms, hp, a, ys, rfl, ha, hy⟩ := r
      exact ⟨a, ys, rfl, .inl ⟨sq_of (eh _ _ ha), fun l hl => q _ _ _ (Gr.new (At.no eh) hl) ⟨ms, hp, l, ys, rfl, upd_same, hy.mo (Ex.new (eh.back hl))⟩⟩⟩
theorem et_isN {b : Bool} (h : Ev F te σ G R) (hb : ∀ v G, R.p v G → decide (v = .non) = b) : EvT F (tTest (tOp rIsN te (tC .non))) σ G (· = b) := fun G1 H1 e a Q q =>
  h G1 H1 e a _ fun v G2 H2 g2 rv => by
    exact (⟨rfl, b, by rw [hb v G2 rv], q b G2 H2 g2 rfl⟩ : V.non = V.non ∧ ∃ k, V.bl (decide (v = .non)) = V.bl k ∧ Q k H2)
theorem et_notN {b : Bool} (h : Ev F te σ G R) (hb : ∀ v G, R.p v G → decide (v = .non) = b) : EvT F (tTest (tOp rNotN te (tC .non))) σ G (· = !b) := fun G1 H1 e a Q q =>
  h G1 H1 e a _ fun v G2 H2 g2 rv => by
    exact (⟨rfl, !b, by rw [hb v G2 rv], q (!b) G2 H2 g2 rfl⟩ : V.non = V.non ∧ ∃ k, V.bl (!decide (v = .non)) = V.bl k ∧ Q k H2)
end
/-- a loop, with what it does to the heap since a base -/
theorem st_forB {K : PySem.W.Frag} {F : Fm} {σ : L2.St} {G H G0 H0 : Hp} {Ys : List Rp} {wi : TI} {g : TG} {tb : TS} {D : Ends} (b : Gr F G0 H0 G H) (hI : EvI F wi σ G Ys) (Pv : Nat → L2.St → Hp → Hp → Prop) (h0 : ∀ G' H', Gr F G H G' H' → Pv 0 σ G' H') (hst : ∀ i σ' G' H' G1 H1, Pv i σ' G' H' → At F G' H' → Gr Fm.no G' H' G1 H1 → Pv i σ' G1 H1)
    (hs : ∀ (i : Nat) (Y : Rp) (v : V) σ' G1 H1 (N : L2.St → Hp → Prop), (∀ σ3 G3 H3, Ex G1 G3 → Gr F G0 H0 G3 H3 → Pv (i + 1) σ3 G3 H3 → N σ3 H3) → Ys[i]? = some Y → Gr F G0 H0 G1 H1 → Ex G G1 → Y.p v G1 → Pv i σ' G1 H1 →
      g v σ' H1 fun σ2 H2 => tb { D with nx := N, ct := N, bk := D.nx } σ2 H2)
    (hd : ∀ σ' G' H', Gr F G0 H0 G' H' → Ex G G' → Pv Ys.length σ' G' H' → D.nx σ' H') : tFor wi g tb D σ H := by
  refine st_for hI b.at_ (fun i σ' G' H' => Gr F G0 H0 G' H' ∧ Pv i σ' G' H') (fun G' H' g => ⟨b.trans g, h0 G' H' g⟩) (fun i σ' G' H' G1 H1 ⟨p, q⟩ a g => ⟨p.trans (g.up a), hst i σ' G' H' G1 H1 q a g⟩) (fun i Y v σ' G1 H1 N hN hY e a yv ⟨p, q⟩ => ?_) fun σ' G' H' e a ⟨p, q⟩ => hd σ' G' H' p e q
  exact hs i Y v σ' G1 H1 N (fun σ3 G3 H3 e3 g3 p3 => hN σ3 G3 H3 e3 g3.at_ ⟨g3, p3⟩) hY p e yv q
theorem get_map {α β : Type} {f : α → β} {xs : List α} {i : Nat} {y : β} (h : (xs.map f)[i]? = some y) : ∃ x, xs[i]? = some x ∧ x ∈ xs ∧ y = f x := by
  rw [List.getElem?_map] at h
  obtain ⟨x, hx, e⟩ := Option.map_eq_some_iff.mp h
  exact ⟨x, hx, List.mem_of_getElem? hx, e.symm⟩
section
variable {P : Program} {w : World} {K : PySem.W.Frag} {mg : Str → Option Value} {base : Heap}
/-! ### Memory -/
def sp_Memory_init (K : PySem.W.Frag) : Sp := PromI (He.ga K "Memory") fun args G fs => ∃ v sz, args = [v] ∧ (rSeq (sz.map isN)).p v G ∧ okMem sz ∧ fs = [(("sizes" : Str), rTup (sz.map isN))]
theorem sc_Memory_init : FnScope ["self", "sizes", "size"] ["self", "sizes"] (defScope s_Memory_init) := ⟨rfl, rfl, rfl, by decide +kernel, rfl, by decide +kernel, by decide +kernel⟩
/- self=0 sizes=1 size=2; cells none; level 1 -/
theorem ok_Memory_init (T : Tx K mg) : Dk P w K mg base (He.ma K (He.ga K "Memory") "__init__") 1 ["self", "sizes"] (sp_Memory_init K) := by
  refine dk_of (d_Memory_init_at T) sc_Memory_init (fun _ _ _ _ _ _ us hl => match us, hl with | [_, _], _ => rfl) (fun vs H Q E h => ?_) (fun cdv A outer s H vs Q E hr h => ⟨_, (pss_cons (ps_fld (pv 0) (pe_callTy call_tuple_of (by rfl) (f_tuple T) bt_tuple (pa_cons (pv 1) pa_nil)) rfl)
      (pss_cons (ps_if (pt_not (pt_chain op_le op_le pe_int (pe_callB call_len_seq (by rfl) (f_len T) bt_len (pa_cons (pe_fld (pv 0) rfl) pa_nil)) (pe_gl (i_MOST_LINES T)))) (pss_one ps_never) pss_nil)
      (pss_one (ps_for PassesOwn.never rfl (pi_tup (pe_fld (pv 0) rfl)) (pg_name (i := 2) sc_Memory_init.nd rfl (.inl rfl)) (pss_one (ps_if (pt_not (pt_chain op_le op_le pe_int (pv 2) (pe_gl (i_MOST_WORDS T)))) (pss_one ps_never) pss_nil)))))), ?_⟩)
  · obtain ⟨x, dx, args, G, fs, rfl, hx, gh, ⟨v, sz, rfl, _⟩, _⟩ := h
    rfl
  · obtain ⟨x, dx, args, G, fs, rfl, hx, gh, ⟨v, sz, rfl, hv, ok, rfl⟩, q⟩ := h
    obtain ⟨ok1, ok2, ok3⟩ := ok
    refine ini_fld rfl (Ini.start hx gh) (c_Memory T) (n_Memory_sizes T) (ev_tupleS (ev_var rfl hv)) rfl (by simp) fun v1 G1 H1 i1 e1 => ?_
    refine st_if (et_not (et_test (ev_chain ev_cI (ev_lenT (ev_self rfl (c_Memory T) (n_Memory_sizes T) i1.fl rfl)) fun _ => ev_cI))) i1.at_ (fun G2 H2 g b => ?_) (fun G2 H2 g _ => ?_)
    · rw [List.length_map, decide_eq_true (show (1 : Int) ≤ (sz.length : Int) by omega), decide_eq_true (show (sz.length : Int) ≤ 6 by omega)] at b
      cases b
    · have i2 := i1.up g
      refine st_forB (K := K) (Gr.refl i2.at_) (ei_tup (ev_self rfl (c_Memory T) (n_Memory_sizes T) i2.fl rfl)) (fun i σ G' H' => ∃ u, σ = [some (.ref x), some v, u]) (fun _ _ _ => ⟨_, rfl⟩) (fun i σ G' H' G1 H1 p _ _ => p) ?_ ?_
      · rintro i Y v3 σ' G3 H3 N hN hY g3 e3 hv3 ⟨u, rfl⟩
        obtain ⟨s, _, hs, rfl⟩ := get_map hY
        refine st_if (et_not (et_test (ev_chain ev_cI (ev_var (R := isN s) rfl hv3) fun _ => ev_cI))) g3.at_ (fun G4 H4 g4 b => ?_) (fun G4 H4 g4 _ => hN _ G4 H4 g4.gg (g3.trans g4) ⟨_, rfl⟩)
        obtain ⟨o1, o2⟩ := ok3 s hs
        rw [decide_eq_true (show (1 : Int) ≤ (s : Int) by omega), decide_eq_true (show (s : Int) ≤ 4 by omega)] at b
        cases b
      · rintro σ' G3 H3 g3 _ ⟨u, rfl⟩
        refine ini_end (i2.up g3) del_same q
def sp_Memory_zeros (K : PySem.W.Frag) : Sp := Prom fun vs G R => ∃ v sz, vs = [v] ∧ (rMem K sz).p v G ∧ okMem sz ∧ R = rTup ((zeros sz.length).map isN)
theorem sc_Memory_zeros : FnScope ["self"] ["self"] (defScope s_Memory_zeros) := ⟨rfl, rfl, rfl, by decide +kernel, rfl, by decide +kernel, by decide +kernel⟩
/- self=0; cells none; level 1 -/
theorem ok_Memory_zeros (T : Tx K mg) : Dk P w K mg base (He.ma K (He.ga K "Memory") "zeros") 1 ["self"] (sp_Memory_zeros K) := by
  refine dk_of (d_Memory_zeros_at T) sc_Memory_zeros (fun _ _ _ _ _ _ us hl => match us, hl with | [_], _ => rfl) (fun vs H Q E h => ?_) (fun cdv A outer s H vs Q E hr h => ⟨_, (pss_one (ps_ret (pe_op op_repZ (pe_tup (pa_cons pe_int pa_nil)) (pe_callB call_len_seq (by rfl) (f_len T) bt_len (pa_cons (pe_fld (pv 0) rfl) pa_nil))))), ?_⟩)
  · obtain ⟨G, R, gh, ⟨v, sz, rfl, _⟩, _⟩ := h
    rfl
  · obtain ⟨G, R, gh, ⟨v, sz, rfl, hm, ⟨ok1, ok2, _⟩, rfl⟩, q⟩ := h
    refine st_ret (R := rTup ((zeros sz.length).map isN)) (ev_to (ev_repZ (R := isN 0) (ev_tup (ea_cons ev_c ea_nil) (by decide)) (ev_lenT (ev_fld (c_Memory T) (n_Memory_sizes T) (ev_var rfl hm) rfl)) (by rw [List.length_map]; exact ok1) (by rw [List.length_map]; omega)) ?_) (At.no gh) q
    rw [List.length_map]
    unfold zeros
    rw [List.map_replicate]
def sp_Memory_eq (K : PySem.W.Frag) : Sp := Prom fun vs G R => ∃ v u sz sz2, vs = [v, u] ∧ (rMem K sz).p v G ∧ (rMem K sz2).p u G ∧ R = isB (decide (sz = sz2))
theorem dat_one {d : PyData} (h : Dat K R d) : Dat K (rTup [R]) (.tuple [d]) := dat_tup (.cons h .nil)
theorem sc_Memory_eq : FnScope ["self", "other"] ["self", "other"] (defScope s_Memory_eq) := ⟨rfl, rfl, rfl, by decide +kernel, rfl, by decide +kernel, by decide +kernel⟩
/- self=0 other=1; cells none; level 2 -/
theorem ok_Memory_eq (T : Tx K mg) : Dk P w K mg base (He.ma K (He.ga K "Memory") "__eq__") 2 ["self", "other"] (sp_Memory_eq K) := by
  refine dk_of (d_Memory_eq_at T) sc_Memory_eq (fun _ _ _ _ _ _ us hl => match us, hl with | [_, _], _ => rfl) (fun vs H Q E h => ?_) (fun cdv A outer s H vs Q E hr h => ⟨_, (pss_cons (ps_if (PW.pt (pw_or (pt_not (pt_val (pe_callB call_isi (by rfl) (f_isinstance T) bt_isinstance (pa_cons (pv 1) (pa_cons (pe_gl (v := .ref (He.ga K "Thing")) ⟨_, g_Thing T, rfl⟩) pa_nil))))) (pw_or1 (pt_cmpR op_ne (pe_mth0 (pv 0) (c_Memory T) (m_Memory_kind T) (ok_Memory_kind T) (hr.mono (by decide))) (pe_mth0 (pv 1) (c_Memory T) (m_Memory_kind T) (ok_Memory_kind T) (hr.mono (by decide))) (nomark _))))) (pss_one (ps_ret pe_bl)) pss_nil)
      (pss_one (ps_ret (pe_cmpR (op_eqD hr.units) (pe_mth0 (pv 0) (c_Memory T) (m_Memory_facts T) (ok_Memory_facts T) (hr.mono (by decide))) (pe_mth0 (pv 1) (c_Memory T) (m_Memory_facts T) (ok_Memory_facts T) (hr.mono (by decide))) (nomark _))))), ?_⟩)
  · obtain ⟨G, R, gh, ⟨v, u, sz, sz2, rfl, _⟩, _⟩ := h
    rfl
  · obtain ⟨G, R, gh, ⟨v, u, sz, sz2, rfl, hm, hm2, rfl⟩, q⟩ := h
    have hk : ∀ {i : Nat} {x : V} {n : List Nat} {G' : Hp}, (start ["self", "other"] [v, u])[i]? = some (some x) → (rMem K n).p x G' → Ev Fm.no (tMeth (He.ga K "Memory") "kind" sp_Memory_kind [] E0 (tVar i) tNil) (start ["self", "other"] [v, u]) G' (isV (.str "memory")) := fun hi hp =>
      ev_meth (ev_var hi hp) rfl ea_nil fun y vs G1 e r rs => by
        cases rs
        exact ⟨y, rfl, rfl⟩
    have hf : ∀ {i : Nat} {x : V} {n : List Nat} {G' : Hp}, (start ["self", "other"] [v, u])[i]? = some (some x) → (rMem K n).p x G' → Ev Fm.no (tMeth (He.ga K "Memory") "facts" (sp_Memory_facts K) [] E0 (tVar i) tNil) (start ["self", "other"] [v, u]) G' (rTup [rTup (n.map isN)]) := fun hi hp =>
      ev_meth (ev_var hi hp) rfl ea_nil fun y vs G1 e r rs => by
        cases rs
        exact ⟨y, _, rfl, r, rfl⟩
    refine st_if (et_or (a := false) (b := false) ((et_not (et_B (ev_isi (ev_var (i := 1) rfl hm2) (is_Memory_Thing T) fun H a dx vs e => ty_Memory T e))).to rfl) fun _ => (et_test (ev_ne (hk (i := 0) rfl hm) (hk (i := 1) rfl hm2) rfl)).to (by simp)) (At.no gh) (fun G1 H1 g b => nomatch b) fun G1 H1 g _ => ?_
    have hm' := (rMem K sz).mo _ _ _ g.gg hm
    have hm2' := (rMem K sz2).mo _ _ _ g.gg hm2
    refine st_ret (ev_to (ev_eqD (K := K) (hf (i := 0) rfl hm') (hf (i := 1) rfl hm2') (dat_one dat_img) (dat_one dat_img) (sh_tup (n := 1) fun d hd => ?_) (sh_tup (n := 1) fun d hd => ?_)) ?_) g.at_ fun v G' H' g' rv => q v G' H' (g.trans g') rv
    · cases List.mem_singleton.mp hd
      exact sh_img
    · cases List.mem_singleton.mp hd
      exact sh_img
    · have e := enc_tup enc_img [sz] [sz2]
      have e2 : PyData.eqv (.tuple [eImg sz]) (.tuple [eImg sz2]) = decide ([sz] = [sz2]) := e
      show isB (PyData.eqv (.tuple [eImg sz]) (.tuple [eImg sz2])) = _
      rw [e2]
      congr 1
      by_cases z : sz = sz2
      · rw [decide_eq_true z, decide_eq_true (by rw [z])]
      · rw [decide_eq_false z, decide_eq_false fun y => z (List.cons.inj y).1]
/-! ### commands -/
def sp_Store_init (K : PySem.W.Frag) : Sp := PromI (He.ga K "Store") fun args G fs => ∃ l x n, args = [.int (l : Nat), .int (x : Nat), .int n] ∧ fs = [(("line" : Str), isN l), (("word" : Str), isN x), (("number" : Str), isI n)]
theorem sc_Store_init : FnScope ["self", "line", "word", "number"] ["self", "line", "word", "number"] (defScope s_Store_init) := ⟨rfl, rfl, rfl, by decide +kernel, rfl, by decide +kernel, by decide +kernel⟩
/- self=0 line=1 word=2 number=3; cells none; level 1 -/
theorem ok_Store_init (T : Tx K mg) : Dk P w K mg base (He.ma K (He.ga K "Store") "__init__") 1 ["self", "line", "word", "number"] (sp_Store_init K) := by
  refine dk_of (d_Store_init_at T) sc_Store_init (fun _ _ _ _ _ _ us hl => match us, hl with | [_, _, _, _], _ => rfl) (fun vs H Q E h => ?_) (fun cdv A outer s H vs Q E hr h => ⟨_, (pss_cons (ps_fld (pv 0) (pv 1) rfl)
      (pss_cons (ps_fld (pv 0) (pv 2) rfl)
      (pss_one (ps_fld (pv 0) (pv 3) rfl)))), ?_⟩)
  · obtain ⟨x, dx, args, G, fs, rfl, hx, gh, ⟨l, y, n, rfl, _⟩, _⟩ := h
    rfl
  · obtain ⟨x, dx, args, G, fs, rfl, hx, gh, ⟨l, y, n, rfl, rfl⟩, q⟩ := h
    refine ini_fld rfl (Ini.start hx gh) (c_Store T) (n_Store_line T) (ev_var (R := isN l) rfl rfl) rfl (by simp) fun v1 G1 H1 i1 e1 => ?_
    refine ini_fld rfl i1 (c_Store T) (n_Store_word T) (ev_var (R := isN y) rfl rfl) rfl (by simp) fun v2 G2 H2 i2 e2 => ?_
    refine ini_fld rfl i2 (c_Store T) (n_Store_number T) (ev_var (R := isI n) rfl rfl) rfl (by simp) fun v3 G3 H3 i3 e3 => ?_
    exact ini_end i3 del_same q
def sp_Flush_init (K : PySem.W.Frag) : Sp := PromI (He.ga K "Flush") fun args G fs => ∃ l, args = [.int (l : Nat)] ∧ fs = [(("line" : Str), isN l)]
theorem sc_Flush_init : FnScope ["self", "line"] ["self", "line"] (defScope s_Flush_init) := ⟨rfl, rfl, rfl, by decide +kernel, rfl, by decide +kernel, by decide +kernel⟩
/- self=0 line=1; cells none; level 1 -/
theorem ok_Flush_init (T : Tx K mg) : Dk P w K mg base (He.ma K (He.ga K "Flush") "__init__") 1 ["self", "line"] (sp_Flush_init K) := by
  refine dk_of (d_Flush_init_at T) sc_Flush_init (fun _ _ _ _ _ _ us hl => match us, hl with | [_, _], _ => rfl) (fun vs H Q E h => ?_) (fun cdv A outer s H vs Q E hr h => ⟨_, (pss_one (ps_fld (pv 0) (pv 1) rfl)), ?_⟩)
  · obtain ⟨x, dx, args, G, fs, rfl, hx, gh, ⟨l, rfl, _⟩, _⟩ := h
    rfl
  · obtain ⟨x, dx, args, G, fs, rfl, hx, gh, ⟨l, rfl, rfl⟩, q⟩ := h
    refine ini_fld rfl (Ini.start hx gh) (c_Flush T) (n_Flush_line T) (ev_var (R := isN l) rfl rfl) rfl (by simp) fun v1 G1 H1 i1 e1 => ?_
    exact ini_end i1 del_same q
def sp_Copy_init (K : PySem.W.Frag) : Sp := PromI (He.ga K "Copy") fun args G fs => ∃ l x fl fw, args = [.int (l : Nat), .int (x : Nat), .int (fl : Nat), .int (fw : Nat)] ∧ fs = [(("line" : Str), isN l), (("word" : Str), isN x), (("from_line" : Str), isN fl), (("from_word" : Str), isN fw)]
theorem sc_Copy_init : FnScope ["self", "line", "word", "from_line", "from_word"] ["self", "line", "word", "from_line", "from_word"] (defScope s_Copy_init) := ⟨rfl, rfl, rfl, by decide +kernel, rfl, by decide +kernel, by decide +kernel⟩
/- self=0 line=1 word=2 from_line=3 from_word=4; cells none; level 1 -/
theorem ok_Copy_init (T : Tx K mg) : Dk P w K mg base (He.ma K (He.ga K "Copy") "__init__") 1 ["self", "line", "word", "from_line", "from_word"] (sp_Copy_init K) := by
  refine dk_of (d_Copy_init_at T) sc_Copy_init (fun _ _ _ _ _ _ us hl => match us, hl with | [_, _, _, _, _], _ => rfl) (fun vs H Q E h => ?_) (fun cdv A outer s H vs Q E hr h => ⟨_, (pss_cons (ps_fld (pv 0) (pv 1) rfl)
      (pss_cons (ps_fld (pv 0) (pv 2) rfl)
      (pss_cons (ps_fld (pv 0) (pv 3) rfl)
      (pss_one (ps_fld (pv 0) (pv 4) rfl))))), ?_⟩)
  · obtain ⟨x, dx, args, G, fs, rfl, hx, gh, ⟨l, y, fl, fw, rfl, _⟩, _⟩ := h
    rfl
  · obtain ⟨x, dx, args, G, fs, rfl, hx, gh, ⟨l, y, fl, fw, rfl, rfl⟩, q⟩ := h
    refine ini_fld rfl (Ini.start hx gh) (c_Copy T) (n_Copy_line T) (ev_var (R := isN l) rfl rfl) rfl (by simp) fun v1 G1 H1 i1 e1 => ?_
    refine ini_fld rfl i1 (c_Copy T) (n_Copy_word T) (ev_var (R := isN y) rfl rfl) rfl (by simp) fun v2 G2 H2 i2 e2 => ?_
    refine ini_fld rfl i2 (c_Copy T) (n_Copy_from_line T) (ev_var (R := isN fl) rfl rfl) rfl (by simp) fun v3 G3 H3 i3 e3 => ?_
    refine ini_fld rfl i3 (c_Copy T) (n_Copy_from_word T) (ev_var (R := isN fw) rfl rfl) rfl (by simp) fun v4 G4 H4 i4 e4 => ?_
    exact ini_end i4 del_same q
def sp_Step_init (K : PySem.W.Frag) : Sp := PromI (He.ga K "Step") fun args G fs => ∃ (c m : V) (cs : List Cond) (ms : List Mv), args = [c, m] ∧ (rSeq (cs.map (rCond K))).p c G ∧ (rSeq (ms.map (rMv K))).p m G ∧ fs = [(("conditions" : Str), rTup (cs.map (rCond K))), (("moves" : Str), rTup (ms.map (rMv K)))]
theorem sc_Step_init : FnScope ["self", "conditions", "moves"] ["self", "conditions", "moves"] (defScope s_Step_init) := ⟨rfl, rfl, rfl, by decide +kernel, rfl, by decide +kernel, by decide +kernel⟩
/- self=0 conditions=1 moves=2; cells none; level 1 -/
theorem ok_Step_init (T : Tx K mg) : Dk P w K mg base (He.ma K (He.ga K "Step") "__init__") 1 ["self", "conditions", "moves"] (sp_Step_init K) := by
  refine dk_of (d_Step_init_at T) sc_Step_init (fun _ _ _ _ _ _ us hl => match us, hl with | [_, _, _], _ => rfl) (fun vs H Q E h => ?_) (fun cdv A outer s H vs Q E hr h => ⟨_, (pss_cons (ps_fld (pv 0) (pe_callTy call_tuple_of (by rfl) (f_tuple T) bt_tuple (pa_cons (pv 1) pa_nil)) rfl)
      (pss_one (ps_fld (pv 0) (pe_callTy call_tuple_of (by rfl) (f_tuple T) bt_tuple (pa_cons (pv 2) pa_nil)) rfl))), ?_⟩)
  · obtain ⟨x, dx, args, G, fs, rfl, hx, gh, ⟨c, m, cs, ms, rfl, _⟩, _⟩ := h
    rfl
  · obtain ⟨x, dx, args, G, fs, rfl, hx, gh, ⟨c, m, cs, ms, rfl, hc, hm, rfl⟩, q⟩ := h
    refine ini_fld rfl (Ini.start hx gh) (c_Step T) (n_Step_conditions T) (ev_tupleS (ev_var rfl hc)) rfl (by simp) fun v1 G1 H1 i1 e1 => ?_
    refine ini_fld rfl i1 (c_Step T) (n_Step_moves T) (ev_tupleS (ev_var rfl ((rSeq _).mo _ _ _ e1 hm))) rfl (by simp) fun v2 G2 H2 i2 e2 => ?_
    exact ini_end i2 del_same q
def sp_Box_init (K : PySem.W.Frag) : Sp := PromI (He.ga K "Box") fun args G fs => ∃ (t l h : V) (b : Bx), args = [t, l, h] ∧ (rSeq (b.1.map isN)).p l G ∧ (rSeq (b.2.map isN)).p h G ∧ fs = [(("time" : Str), rAny), (("low" : Str), rTup (b.1.map isN)), (("high" : Str), rTup (b.2.map isN))]
theorem sc_Box_init : FnScope ["self", "time", "low", "high"] ["self", "time", "low", "high"] (defScope s_Box_init) := ⟨rfl, rfl, rfl, by decide +kernel, rfl, by decide +kernel, by decide +kernel⟩
/- self=0 time=1 low=2 high=3; cells none; level 1 -/
theorem ok_Box_init (T : Tx K mg) : Dk P w K mg base (He.ma K (He.ga K "Box") "__init__") 1 ["self", "time", "low", "high"] (sp_Box_init K) := by
  refine dk_of (d_Box_init_at T) sc_Box_init (fun _ _ _ _ _ _ us hl => match us, hl with | [_, _, _, _], _ => rfl) (fun vs H Q E h => ?_) (fun cdv A outer s H vs Q E hr h => ⟨_, (pss_cons (ps_fld (pv 0) (pv 1) rfl)
      (pss_cons (ps_fld (pv 0) (pe_callTy call_tuple_of (by rfl) (f_tuple T) bt_tuple (pa_cons (pv 2) pa_nil)) rfl)
      (pss_one (ps_fld (pv 0) (pe_callTy call_tuple_of (by rfl) (f_tuple T) bt_tuple (pa_cons (pv 3) pa_nil)) rfl)))), ?_⟩)
  · obtain ⟨x, dx, args, G, fs, rfl, hx, gh, ⟨t, l, h, b, rfl, _⟩, _⟩ := h
    rfl
  · obtain ⟨x, dx, args, G, fs, rfl, hx, gh, ⟨t, l, h, b, rfl, hl, hh, rfl⟩, q⟩ := h
    refine ini_fld rfl (Ini.start hx gh) (c_Box T) (n_Box_time T) (ev_var (R := rAny) rfl True.intro) rfl (by simp) fun v1 G1 H1 i1 e1 => ?_
    refine ini_fld rfl i1 (c_Box T) (n_Box_low T) (ev_tupleS (ev_var rfl ((rSeq _).mo _ _ _ e1 hl))) rfl (by simp) fun v2 G2 H2 i2 e2 => ?_
    refine ini_fld rfl i2 (c_Box T) (n_Box_high T) (ev_tupleS (ev_var rfl ((rSeq _).mo _ _ _ (e1.trans e2) hh))) rfl (by simp) fun v3 G3 H3 i3 e3 => ?_
    exact ini_end i3 del_same q
def sp_Is_init (K : PySem.W.Frag) : Sp := PromI (He.ga K "Is") fun args G fs => ∃ l x v ns, args = [.int (l : Nat), .int (x : Nat), v] ∧ (rLst (ns.map isI)).p v G ∧ ns.length < 60 ∧ fs = [(("line" : Str), isN l), (("word" : Str), isN x), (("numbers" : Str), rNums ns)]
theorem sc_Is_init : FnScope ["self", "line", "word", "numbers"] ["self", "line", "word", "numbers"] (defScope s_Is_init) := ⟨rfl, rfl, rfl, by decide +kernel, rfl, by decide +kernel, by decide +kernel⟩
/- self=0 line=1 word=2 numbers=3; cells none; level 1 -/
theorem ok_Is_init (T : Tx K mg) : Dk P w K mg base (He.ma K (He.ga K "Is") "__init__") 1 ["self", "line", "word", "numbers"] (sp_Is_init K) := by
  refine dk_of (d_Is_init_at T) sc_Is_init (fun _ _ _ _ _ _ us hl => match us, hl with | [_, _, _, _], _ => rfl) (fun vs H Q E h => ?_) (fun cdv A outer s H vs Q E hr h => ⟨_, (pss_cons (ps_fld (pv 0) (pv 1) rfl)
      (pss_cons (ps_fld (pv 0) (pv 2) rfl)
      (pss_one (ps_fld (pv 0) (pe_callTy call_tuple_of (by rfl) (f_tuple T) bt_tuple (pa_cons (pe_sortSet (by rfl) (f_sorted T) (by rfl) (f_set T) (pv 3) rfl) pa_nil)) rfl)))), ?_⟩)
  · obtain ⟨x, dx, args, G, fs, rfl, hx, gh, ⟨l, y, v, ns, rfl, _⟩, _⟩ := h
    rfl
  · obtain ⟨x, dx, args, G, fs, rfl, hx, gh, ⟨l, y, v, ns, rfl, hv, hn, rfl⟩, q⟩ := h
    refine ini_fld rfl (Ini.start hx gh) (c_Is T) (n_Is_line T) (ev_var (R := isN l) rfl rfl) rfl (by simp) fun v1 G1 H1 i1 e1 => ?_
    refine ini_fld rfl i1 (c_Is T) (n_Is_word T) (ev_var (R := isN y) rfl rfl) rfl (by simp) fun v2 G2 H2 i2 e2 => ?_
    refine ini_fld rfl i2 (c_Is T) (n_Is_numbers T) (ev_tupSet (ev_sortSet (ev_var rfl ((rLst _).mo _ _ _ (e1.trans e2) hv)) hn)) rfl (by simp) fun v3 G3 H3 i3 e3 => ?_
    exact ini_end i3 del_same q
def sp_Failed_init (K : PySem.W.Frag) : Sp := PromI (He.ga K "Failed") fun args G fs => ∃ a b c i s x, args = [a, b, c] ∧ (rImg i).p a G ∧ (rOpt rImg s).p b G ∧ (rWords x).p c G ∧ x.length ≤ 1000 ∧ fs = [(("image" : Str), rImg i), (("second" : Str), rOpt rImg s), (("words" : Str), rWords x)]
theorem sc_Failed_init : FnScope ["self", "image", "second", "words", "line"] ["self", "image", "second", "words"] (defScope s_Failed_init) := ⟨rfl, rfl, rfl, by decide +kernel, rfl, by decide +kernel, by decide +kernel⟩
/- self=0 image=1 second=2 words=3 line=4; cells none; level 1 -/
theorem ok_Failed_init (T : Tx K mg) : Dk P w K mg base (He.ma K (He.ga K "Failed") "__init__") 1 ["self", "image", "second", "words"] (sp_Failed_init K) := by
  refine dk_of (d_Failed_init_at T) sc_Failed_init (fun _ _ _ _ _ _ us hl => match us, hl with | [_, _, _, _], _ => rfl) (fun vs H Q E h => ?_) (fun cdv A outer s H vs Q E hr h => ⟨_, (pss_cons (ps_fld (pv 0) (pe_callTy call_tuple_of (by rfl) (f_tuple T) bt_tuple (pa_cons (pv 1) pa_nil)) rfl)
      (pss_cons (ps_fld (pv 0) (pe_ifExp (pt_cmpR op_isN1 (pv 2) pe_non (nomark _)) pe_non (pe_callTy call_tuple_of (by rfl) (f_tuple T) bt_tuple (pa_cons (pv 2) pa_nil))) rfl)
      (pss_one (ps_fld (pv 0) (pe_callTy call_tuple_of (by rfl) (f_tuple T) bt_tuple (pa_cons (pe_lc (own := [("line", 4)]) (g := gName 4) (tt := tYes) rfl sc_Failed_init.nd (pi_tup (pv 3)) (blkOk_by (by kernel_rfl)) (fun _ _ _ _ _ => (pg_name (i := 4) sc_Failed_init.nd rfl (.inl rfl))) (fun _ _ _ _ _ => pts_nil) (fun _ _ _ _ _ => (pe_callTy (k_call_tuple_of (K := K) rfl) (by rfl) (f_tuple T) bt_tuple (pa_cons (pv 4) pa_nil)))) pa_nil)) rfl)))), ?_⟩)
  · obtain ⟨x, dx, args, G, fs, rfl, hx, gh, ⟨a, b, c, i, t, y, rfl, _⟩, _⟩ := h
    rfl
  · obtain ⟨x, dx, args, G, fs, rfl, hx, gh, ⟨a, b, c, i, t, y, rfl, ha, hb, hc, hl, rfl⟩, q⟩ := h
    refine ini_fld rfl (Ini.start hx gh) (c_Failed T) (n_Failed_image T) (ev_tupleT (ev_var rfl ha)) rfl (by simp) fun v1 G1 H1 i1 e1 => ?_
    have he : ∀ F : Fm, Ev F (tIf (tTest (tOp rIsN (tVar 2) (tC .non))) (tC .non) (tCB (rTupOf K) (tCons (tVar 2) tNil))) (start ["self", "image", "second", "words", "line"] [.ref x, a, b, c]) G1 (rOpt rImg t) := fun F => by
      have hb1 := (rOpt rImg t).mo _ _ _ e1 hb
      cases t with
      | none => exact ev_if (et_isN (b := true) (ev_var rfl hb1) fun v G r => by cases r; rfl) (fun _ => ev_c) fun z => nomatch z
      | some j =>
        refine ev_if (et_isN (b := false) (ev_var rfl hb1) fun v G r => by
          obtain ⟨p, us, rfl, _⟩ := r
          rfl) (fun z => nomatch z) fun _ => ev_tupleT (ev_var rfl hb1)
    refine ini_fld rfl i1 (c_Failed T) (n_Failed_second T) (he _) rfl (by simp) fun v2 G2 H2 i2 e2 => ?_
    refine ini_fld rfl i2 (c_Failed T) (n_Failed_words T) (ev_tupleL (ev_lcM (j := 4) (vs := [4]) y (fun l => rTup (l.map isI)) (fun l => rTup (l.map isI)) (ei_tup (ev_var rfl ((rWords y).mo _ _ _ (e1.trans e2) hc))) (by omega) (fun _ => rfl) fun l _ v G' e r => ev_tupleT (ev_var rfl r))) rfl (by simp) fun v3 G3 H3 i3 e3 => ?_
    exact ini_end i3 del_same q
end
end Ls


/-! LsHold -/
/-! objects that a def writes, read through a frame that holds them -/
namespace Ls
open PySem PySem.Spec PyProof.Rows L2
def Fm.hold (P : Addr → Prop) (H0 : Hp) : Fm := ⟨P, fun H => ∀ b, P b → H b = H0 b, fun H H' k h b hb => (k b hb).trans (h b hb)⟩
section
variable {K : PySem.W.Frag} {C a m x dx : Addr} {o : HO} {P : Addr → Prop} {σ : L2.St} {F : Fm} {G H G0 H0 G1 H1 : Hp} {vs : List (Str × V)} {xs : List V} {f : Str} {R : Rp} {ta tb te : TE} {Q : VK} {v : V} {D : Ends}
theorem at_hold (e : Ex G H) (g : ∀ b, P b → G b = none) (h : ∀ b, P b → H b ≠ none) : At (Fm.hold P H) G H := ⟨e, g, h, fun _ _ => rfl⟩
theorem Gr.unhold (g : Gr (Fm.hold P H) G H G1 H1) : Gr Fm.no G H G1 H1 where
  gg := g.gg
  hh := fun b u _ e => by
    by_cases q : P b
    · rw [g.at_.i b q]
      exact e
    · exact g.hh b u q e
  fr := g.fr
  th := g.th
  at_ := At.no g.gh
theorem ev_fldF (c : Cls K C) (n : NoAttr K C f) (h : Ev F te σ G (isV (.ref a))) (hI : ∀ H', F.I H' → H' a = some (.ins C dx vs)) (hl : vs.lookup f = some v) : Ev F (tFld K te f) σ G (isV v) := fun G1 H1 e at_ Q q =>
  h G1 H1 e at_ _ fun y G2 H2 g2 ry => by
    cases ry
    exact ⟨a, C, dx, vs, v, rfl, hI H2 g2.at_.i, c, n, hl, q v G2 H2 g2 rfl⟩
theorem ev_ixF {i : Nat} (ha : Ev F ta σ G (isV (.ref m))) (hb : Ev F tb σ G (isN i)) (hI : ∀ H', F.I H' → H' m = some (.lst xs)) (hl : xs[i]? = some v) : Ev F (tOp (rIxL K) ta tb) σ G (isV v) := fun G1 H1 e at_ Q q =>
  ha G1 H1 e at_ _ fun y G2 H2 g2 ry => hb G2 H2 (e.trans g2.gg) g2.at_ _ fun z G3 H3 g3 rz => by
    cases ry
    cases rz
    exact ⟨m, xs, i, v, rfl, rfl, sq_of (hI H3 g3.at_.i), atI_nat hl, q v G3 H3 (g2.trans g3) rfl⟩
theorem ixN_n {n i : Nat} (h : i < n) : ixN n (i : Int) = some i := by
  unfold ixN
  simp
  omega
/-- xs[i] = v -/
theorem g_setL {i : Nat} {Q : L2.St → Hp → Prop} {to ti : TE} (at_ : At F G H) (ho : Ev F to σ G (isV (.ref m))) (hi : Ev F ti σ G (isN i)) (hI : ∀ H', F.I H' → H' m = some (.lst xs)) (hl : i < xs.length)
    (q : ∀ G' H', Gr F G H G' H' → Q σ (upd H' m (.lst (xs.set i v)))) : gSub to ti rSetL v σ H Q :=
  ho G H (Ex.refl _) at_ _ fun y G2 H2 g2 ry => hi G2 H2 g2.gg g2.at_ _ fun z G3 H3 g3 rz => by
    cases ry
    cases rz
    exact ⟨m, xs, (i : Nat), i, rfl, rfl, hI H3 g3.at_.i, ixN_n hl, q G3 H3 (g2.trans g3)⟩
/-- [0] * k, to be written -/
theorem rep_new {k : Nat} (at_ : At F G H) (hb : Ev F tb σ G (isN k)) (hk : k ≤ 1000) (q : ∀ p H', Gr F G H G H' → H p = none → G p = none → ¬ F.S p → H' p = some (.lst (List.replicate k v)) → Q (.ref p) H') :
    tOp rRep (tLst (tCons (tC v) tNil)) tb σ H Q := by
  refine ⟨by show 1 ≤ sizeLine; rw [sizeLine_eq]; decide, fun l hl => ?_⟩
  have g1 : Gr F G H G (upd H l (.lst [v])) := Gr.newH at_ hl
  refine hb G _ (Ex.refl _) g1.at_ _ fun z G3 H3 g3 rz => ?_
  cases rz
  have fl : (List.replicate (k : Int).toNat [v]).flatten = List.replicate k v := by
    have go : ∀ n : Nat, (List.replicate n [v]).flatten = List.replicate n v := fun n => by
      induction n with
      | zero => rfl
      | succ n ih => rw [List.replicate_succ, List.flatten_cons, ih, List.replicate_succ] <;> rfl
    exact go k
  have hl3 : H3 l = some (.lst [v]) := g3.hh l _ (fun s => at_.sh l s hl) upd_same
  refine ⟨l, k, [v], rfl, rfl, hl3, by omega, by omega, by rw [sizeLine_eq]; show 1 * (k : Int).toNat ≤ _; omega, fun p hp => ?_⟩
  have g13 := (g1.trans g3).down at_
  have np : H p = none := by
    cases z : H p with
    | none => rfl
    | some u => exact absurd hp (g13.th p (by rw [z]; exact Option.some_ne_none _))
  have nS : ¬ F.S p := fun s => at_.sh p s np
  have gp : G p = none := by
    cases z : G p with
    | none => rfl
    | some u =>
      rw [at_.gh p u z] at np
      cases np
  rw [fl]
  exact q p _ (g13.wr np gp nS) np gp nS upd_same
end
/-! ### the counter -/
structure CtAt (K : PySem.W.Frag) (a m f u : Addr) (c : Cnt) (H : Hp) : Prop where
  at_ : ∃ dx, H a = some (.ins (He.ga K "Counter") dx [("made", .ref m), ("flushed", .ref f), ("sure", .ref u)])
  hm : H m = some (.lst (c.made.map fun n : Nat => V.int n))
  hf : H f = some (.lst (c.flushed.map fun n : Nat => V.int n))
  hu : H u = some (.lst (c.sure.map fun n : Nat => V.int n))
  mf : m ≠ f
  mu : m ≠ u
  fu : f ≠ u
def CtP (a m f u : Addr) : Addr → Prop := fun b => b = a ∨ b = m ∨ b = f ∨ b = u
section
variable {K : PySem.W.Frag} {a m f u : Addr} {c : Cnt} {G H H' : Hp}
theorem CtAt.there (h : CtAt K a m f u c H) : ∀ b, CtP a m f u b → H b ≠ none := fun b hb => by
  obtain ⟨dx, e⟩ := h.at_
  rcases hb with z | z | z | z
  · rw [z, e]; exact Option.some_ne_none _
  · rw [z, h.hm]; exact Option.some_ne_none _
  · rw [z, h.hf]; exact Option.some_ne_none _
  · rw [z, h.hu]; exact Option.some_ne_none _
theorem CtAt.same (h : CtAt K a m f u c H) (k : ∀ b, CtP a m f u b → H' b = H b) : CtAt K a m f u c H' := by
  obtain ⟨dx, e⟩ := h.at_
  exact ⟨⟨dx, (k a (.inl rfl)).trans e⟩, (k m (.inr (.inl rfl))).trans h.hm, (k f (.inr (.inr (.inl rfl)))).trans h.hf, (k u (.inr (.inr (.inr rfl)))).trans h.hu, h.mf, h.mu, h.fu⟩
theorem CtAt.ex (h : CtAt K a m f u c H) (k : Ex H H') : CtAt K a m f u c H' := by
  obtain ⟨dx, e⟩ := h.at_
  exact ⟨⟨dx, k _ _ e⟩, k _ _ h.hm, k _ _ h.hf, k _ _ h.hu, h.mf, h.mu, h.fu⟩
theorem CtAt.nm (h : CtAt K a m f u c H) : a ≠ m ∧ a ≠ f ∧ a ≠ u := by
  obtain ⟨dx, e⟩ := h.at_
  refine ⟨fun z => ?_, fun z => ?_, fun z => ?_⟩
  · rw [z, h.hm] at e; cases e
  · rw [z, h.hf] at e; cases e
  · rw [z, h.hu] at e; cases e
end
end Ls

/-! LsW3 -/
namespace Ls
open PySem PySem.Spec PyProof.Rows L2
theorem ev_T0 {F : Fm} {σ : L2.St} {G : Hp} {ta tb : TE} {p : Int → Int → Bool} {i j : Int} (ha : Ev F ta σ G (isI i)) (hb : Ev F tb σ G (isI j)) : Ev F (tOp (rI0 fun i j => .bl (p i j)) ta tb) σ G (isB (p i j)) := ev_I0 ha hb
theorem all1 {R : Rp} {vs : List V} {G : Hp} (h : All [R] vs G) : ∃ v, vs = [v] ∧ R.p v G := by
  cases h with
  | cons a b =>
    cases b
    exact ⟨_, rfl, a⟩
theorem all2 {R S : Rp} {vs : List V} {G : Hp} (h : All [R, S] vs G) : ∃ v u, vs = [v, u] ∧ R.p v G ∧ S.p u G := by
  cases h with
  | cons a b =>
    obtain ⟨u, rfl, h2⟩ := all1 b
    exact ⟨_, _, rfl, a, h2⟩
theorem all3 {R S T : Rp} {vs : List V} {G : Hp} (h : All [R, S, T] vs G) : ∃ v u w, vs = [v, u, w] ∧ R.p v G ∧ S.p u G ∧ T.p w G := by
  cases h with
  | cons a b =>
    obtain ⟨u, w, rfl, h2, h3⟩ := all2 b
    exact ⟨_, _, _, rfl, a, h2, h3⟩
theorem all4 {R S T U : Rp} {vs : List V} {G : Hp} (h : All [R, S, T, U] vs G) : ∃ v u w x, vs = [v, u, w, x] ∧ R.p v G ∧ S.p u G ∧ T.p w G ∧ U.p x G := by
  cases h with
  | cons a b =>
    obtain ⟨u, w, x, rfl, h2, h3, h4⟩ := all3 b
    exact ⟨_, _, _, _, rfl, a, h2, h3, h4⟩
section
variable {P : Program} {w : World} {K : PySem.W.Frag} {mg : Str → Option Value} {base : Heap}
/-! ### checks -/
def sp_check_word_of (K : PySem.W.Frag) (R : Rp) (ok : List Nat → Prop) : Sp := Prom fun vs G S => ∃ v m sz, vs = [v, m] ∧ R.p v G ∧ (rMem K sz).p m G ∧ ok sz ∧ S = isV .non
def sp_Store_check (K : PySem.W.Frag) : Sp := Prom fun vs G S => ∃ v m sz s, vs = [v, m] ∧ (rSto K s).p v G ∧ (rMem K sz).p m G ∧ okSto sz s ∧ S = isV .non
theorem sc_Store_check : FnScope ["self", "memory"] ["self", "memory"] (defScope s_Store_check) := ⟨rfl, rfl, rfl, by decide +kernel, rfl, by decide +kernel, by decide +kernel⟩
/- self=0 memory=1; cells none; level 3 -/
theorem ok_Store_check (T : Tx K mg) : Dk P w K mg base (He.ma K (He.ga K "Store") "check") 3 ["self", "memory"] (sp_Store_check K) := by
  refine dk_of (d_Store_check_at T) sc_Store_check (fun _ _ _ _ _ _ us hl => match us, hl with | [_, _], _ => rfl) (fun vs H Q E h => ?_) (fun cdv A outer s H vs Q E hr h => ⟨_, (pss_one (ps_expr (pe_mth (pv 1) (c_Memory T) (m_Memory_check_word T) (ok_Memory_check_word T) (hr.mono (by decide)) (pa_cons (pe_fld (pv 0) rfl) (pa_cons (pe_fld (pv 0) rfl) pa_nil))))), ?_⟩)
  · obtain ⟨G, R, gh, ⟨v, m, sz, s, rfl, _⟩, _⟩ := h
    rfl
  · obtain ⟨G, R, gh, ⟨v, m, sz, s, rfl, hv, hm, ok, rfl⟩, q⟩ := h
    refine st_drop (ev_meth (R := isV .non) (ev_var (i := 1) rfl hm) rfl (ea_cons (ev_fld (R := isN s.l) (c_Store T) (n_Store_line T) (ev_var rfl hv) rfl) (ea_cons (ev_fld (R := isN s.w) (c_Store T) (n_Store_word T) (ev_var rfl hv) rfl) ea_nil)) fun y vs G1 e r rs => ?_) (At.no gh) fun y G1 H1 g1 _ => q _ _ _ g1 rfl
    obtain ⟨_, _, rfl, rfl, rfl⟩ := all2 rs
    exact ⟨y, sz, s.l, s.w, rfl, r, ok, rfl⟩
def sp_Flush_check (K : PySem.W.Frag) : Sp := Prom fun vs G S => ∃ v m sz l, vs = [v, m] ∧ (rCmd K (.flush l)).p v G ∧ (rMem K sz).p m G ∧ l < sz.length ∧ S = isV .non
theorem sc_Flush_check : FnScope ["self", "memory"] ["self", "memory"] (defScope s_Flush_check) := ⟨rfl, rfl, rfl, by decide +kernel, rfl, by decide +kernel, by decide +kernel⟩
/- self=0 memory=1; cells none; level 2 -/
theorem ok_Flush_check (T : Tx K mg) : Dk P w K mg base (He.ma K (He.ga K "Flush") "check") 2 ["self", "memory"] (sp_Flush_check K) := by
  refine dk_of (d_Flush_check_at T) sc_Flush_check (fun _ _ _ _ _ _ us hl => match us, hl with | [_, _], _ => rfl) (fun vs H Q E h => ?_) (fun cdv A outer s H vs Q E hr h => ⟨_, (pss_one (ps_expr (pe_mth (pv 1) (c_Memory T) (m_Memory_check_line T) (ok_Memory_check_line T) (hr.mono (by decide)) (pa_cons (pe_fld (pv 0) rfl) pa_nil)))), ?_⟩)
  · obtain ⟨G, R, gh, ⟨v, m, sz, s, rfl, _⟩, _⟩ := h
    rfl
  · obtain ⟨G, R, gh, ⟨v, m, sz, l, rfl, hv, hm, ok, rfl⟩, q⟩ := h
    refine st_drop (ev_meth (R := isV .non) (ev_var (i := 1) rfl hm) rfl (ea_cons (ev_fld (R := isN l) (c_Flush T) (n_Flush_line T) (ev_var rfl hv) rfl) ea_nil) fun y vs G1 e r rs => ?_) (At.no gh) fun y G1 H1 g1 _ => q _ _ _ g1 rfl
    obtain ⟨_, rfl, rfl⟩ := all1 rs
    exact ⟨y, sz, l, rfl, r, ok, rfl⟩
def sp_Fence_check (K : PySem.W.Frag) : Sp := Prom fun vs G S => ∃ v m, vs = [v, m] ∧ S = isV .non
theorem sc_Fence_check : FnScope ["self", "memory"] ["self", "memory"] (defScope s_Fence_check) := ⟨rfl, rfl, rfl, by decide +kernel, rfl, by decide +kernel, by decide +kernel⟩
/- self=0 memory=1; cells none; level 1 -/
theorem ok_Fence_check (T : Tx K mg) : Dk P w K mg base (He.ma K (He.ga K "Fence") "check") 1 ["self", "memory"] (sp_Fence_check K) := by
  refine dk_of (d_Fence_check_at T) sc_Fence_check (fun _ _ _ _ _ _ us hl => match us, hl with | [_, _], _ => rfl) (fun vs H Q E h => ?_) (fun cdv A outer s H vs Q E hr h => ⟨_, (pss_one ps_pass), ?_⟩)
  · obtain ⟨G, R, gh, ⟨v, m, rfl, _⟩, _⟩ := h
    rfl
  · obtain ⟨G, R, gh, ⟨v, m, rfl, rfl⟩, q⟩ := h
    exact q _ _ _ (Gr.refl (At.no gh)) rfl
def sp_Copy_check (K : PySem.W.Frag) : Sp := Prom fun vs G S => ∃ v m sz l x fl fw, vs = [v, m] ∧ (rMv K (.copy l x fl fw)).p v G ∧ (rMem K sz).p m G ∧ okAt sz l x ∧ okAt sz fl fw ∧ S = isV .non
theorem sc_Copy_check : FnScope ["self", "memory"] ["self", "memory"] (defScope s_Copy_check) := ⟨rfl, rfl, rfl, by decide +kernel, rfl, by decide +kernel, by decide +kernel⟩
/- self=0 memory=1; cells none; level 3 -/
theorem ok_Copy_check (T : Tx K mg) : Dk P w K mg base (He.ma K (He.ga K "Copy") "check") 3 ["self", "memory"] (sp_Copy_check K) := by
  refine dk_of (d_Copy_check_at T) sc_Copy_check (fun _ _ _ _ _ _ us hl => match us, hl with | [_, _], _ => rfl) (fun vs H Q E h => ?_) (fun cdv A outer s H vs Q E hr h => ⟨_, (pss_cons (ps_expr (pe_mth (pv 1) (c_Memory T) (m_Memory_check_word T) (ok_Memory_check_word T) (hr.mono (by decide)) (pa_cons (pe_fld (pv 0) rfl) (pa_cons (pe_fld (pv 0) rfl) pa_nil))))
      (pss_one (ps_expr (pe_mth (pv 1) (c_Memory T) (m_Memory_check_word T) (ok_Memory_check_word T) (hr.mono (by decide)) (pa_cons (pe_fld (pv 0) rfl) (pa_cons (pe_fld (pv 0) rfl) pa_nil)))))), ?_⟩)
  · obtain ⟨G, R, gh, ⟨v, m, sz, l, x, fl, fw, rfl, _⟩, _⟩ := h
    rfl
  · obtain ⟨G, R, gh, ⟨v, m, sz, l, x, fl, fw, rfl, hv, hm, ok, ok2, rfl⟩, q⟩ := h
    refine st_drop (ev_meth (R := isV .non) (ev_var (i := 1) rfl hm) rfl (ea_cons (ev_fld (R := isN l) (c_Copy T) (n_Copy_line T) (ev_var rfl hv) rfl) (ea_cons (ev_fld (R := isN x) (c_Copy T) (n_Copy_word T) (ev_var rfl hv) rfl) ea_nil)) fun y vs G1 e r rs => ?_) (At.no gh) fun y G1 H1 g1 _ => ?_
    · obtain ⟨_, _, rfl, rfl, rfl⟩ := all2 rs
      exact ⟨y, sz, l, x, rfl, r, ok, rfl⟩
    have hv1 := (rMv K (.copy l x fl fw)).mo _ _ _ g1.gg hv
    refine st_drop (ev_meth (R := isV .non) (ev_var (i := 1) rfl ((rMem K sz).mo _ _ _ g1.gg hm)) rfl (ea_cons (ev_fld (R := isN fl) (c_Copy T) (n_Copy_from_line T) (ev_var rfl hv1) rfl) (ea_cons (ev_fld (R := isN fw) (c_Copy T) (n_Copy_from_word T) (ev_var rfl hv1) rfl) ea_nil)) fun y vs G1 e r rs => ?_) g1.at_ fun y G2 H2 g2 _ => q _ _ _ (g1.trans g2) rfl
    obtain ⟨_, _, rfl, rfl, rfl⟩ := all2 rs
    exact ⟨y, sz, fl, fw, rfl, r, ok2, rfl⟩
def sp_check_commands (K : PySem.W.Frag) : Sp := Prom fun vs G S => ∃ (m c : V) (sz : List Nat) (cs : List Cmd), vs = [m, c] ∧ (rMem K sz).p m G ∧ (rSeq (cs.map (rCmd K))).p c G ∧ (∀ c ∈ cs, okCmd sz c) ∧ S = isV .non
theorem sc_check_commands : FnScope ["memory", "commands", "command"] ["memory", "commands"] (defScope s_check_commands) := ⟨rfl, rfl, rfl, by decide +kernel, rfl, by decide +kernel, by decide +kernel⟩
/- memory=0 commands=1 command=2; cells none; level 4 -/
theorem ok_check_commands (T : Tx K mg) : Dk P w K mg base (He.ga K "check_commands") 4 ["memory", "commands"] (sp_check_commands K) := by
  refine dk_of (d_check_commands_at T) sc_check_commands (fun _ _ _ _ _ _ us hl => match us, hl with | [_, _], _ => rfl) (fun vs H Q E h => ?_) (fun cdv A outer s H vs Q E hr h => ⟨_, (pss_one (ps_for PassesOwn.never rfl (pi_seq (pv 1)) (pg_name (i := 2) sc_check_commands.nd rfl (.inl rfl)) (pss_one (ps_expr (pe_alt (pe_mth (pv 2) (c_Store T) (m_Store_check T) (ok_Store_check T) (hr.mono (by decide)) (pa_cons (pv 0) pa_nil)) (pe_alt (pe_mth (pv 2) (c_Flush T) (m_Flush_check T) (ok_Flush_check T) (hr.mono (by decide)) (pa_cons (pv 0) pa_nil)) (pe_mth (pv 2) (c_Fence T) (m_Fence_check T) (ok_Fence_check T) (hr.mono (by decide)) (pa_cons (pv 0) pa_nil)))))))), ?_⟩)
  · obtain ⟨G, R, gh, ⟨m, c, sz, cs, rfl, _⟩, _⟩ := h
    rfl
  · obtain ⟨G, R, gh, ⟨m, c, sz, cs, rfl, hm, hc, ok, rfl⟩, q⟩ := h
    refine st_forB (K := K) (Gr.refl (At.no gh)) (ei_seqL rfl hc) (fun i σ G' H' => ∃ u, σ = [some m, some c, u]) (fun _ _ _ => ⟨_, rfl⟩) (fun i σ G' H' G1 H1 p _ _ => p) ?_ ?_
    · rintro i Y v σ' G1 H1 N hN hY g1 e1 hv ⟨u, rfl⟩
      obtain ⟨cmd, _, hcs, rfl⟩ := get_map hY
      have hm1 := (rMem K sz).mo _ _ _ g1.gg hm
      have okc := ok cmd hcs
      refine st_drop (R := isV .non) ?_ g1.at_ fun y G2 H2 g2 _ => hN _ _ _ g2.gg (g1.trans g2) ⟨_, rfl⟩
      cases cmd with
      | store s =>
        refine ev_altL (ev_meth (ev_var (i := 2) rfl hv) rfl (ea_cons (ev_var (i := 0) rfl hm1) ea_nil) fun y vs G1 e r rs => ?_)
        obtain ⟨_, rfl, rm⟩ := all1 rs
        exact ⟨y, _, sz, s, rfl, r, rm, okc, rfl⟩
      | flush l =>
        refine ev_altR (ev_altL (ev_meth (ev_var (i := 2) rfl hv) rfl (ea_cons (ev_var (i := 0) rfl hm1) ea_nil) fun y vs G1 e r rs => ?_))
        obtain ⟨_, rfl, rm⟩ := all1 rs
        exact ⟨y, _, sz, l, rfl, r, rm, okc, rfl⟩
      | fence =>
        refine ev_altR (ev_altR (ev_meth (ev_var (i := 2) rfl hv) rfl (ea_cons (ev_var (i := 0) rfl hm1) ea_nil) fun y vs G1 e r rs => ?_))
        obtain ⟨_, rfl, rm⟩ := all1 rs
        exact ⟨y, _, rfl, rfl⟩
    · rintro σ' G1 H1 g1 _ ⟨u, rfl⟩
      exact q _ _ _ g1 rfl
def sp_Program_init (K : PySem.W.Frag) : Sp := PromI (He.ga K "Program") fun args G fs => ∃ (m c : V) (sz : List Nat) (cs : List Cmd), args = [m, c] ∧ (rMem K sz).p m G ∧ (rSeq (cs.map (rCmd K))).p c G ∧ okProg sz cs ∧ fs = [(("memory" : Str), rMem K sz), (("commands" : Str), rTup (cs.map (rCmd K)))]
theorem sc_Program_init : FnScope ["self", "memory", "commands"] ["self", "memory", "commands"] (defScope s_Program_init) := ⟨rfl, rfl, rfl, by decide +kernel, rfl, by decide +kernel, by decide +kernel⟩
/- self=0 memory=1 commands=2; cells none; level 5 -/
theorem ok_Program_init (T : Tx K mg) : Dk P w K mg base (He.ma K (He.ga K "Program") "__init__") 5 ["self", "memory", "commands"] (sp_Program_init K) := by
  refine dk_of (d_Program_init_at T) sc_Program_init (fun _ _ _ _ _ _ us hl => match us, hl with | [_, _, _], _ => rfl) (fun vs H Q E h => ?_) (fun cdv A outer s H vs Q E hr h => ⟨_, (pss_cons (ps_fld (pv 0) (pv 1) rfl)
      (pss_cons (ps_fld (pv 0) (pe_callTy call_tuple_of (by rfl) (f_tuple T) bt_tuple (pa_cons (pv 2) pa_nil)) rfl)
      (pss_cons (ps_if (pt_cmpR op_gt (pe_callB call_len_seq (by rfl) (f_len T) bt_len (pa_cons (pe_fld (pv 0) rfl) pa_nil)) (pe_gl (i_MOST_COMMANDS T)) (nomark _)) (pss_one ps_never) pss_nil)
      (pss_one (ps_expr (pe_fn (ok_check_commands T) (hr.mono (by decide)) (g_check_commands T) (pa_cons (pv 1) (pa_cons (pe_fld (pv 0) rfl) pa_nil)))))))), ?_⟩)
  · obtain ⟨x, dx, args, G, fs, rfl, hx, gh, ⟨m, c, sz, cs, rfl, _⟩, _⟩ := h
    rfl
  · obtain ⟨x, dx, args, G, fs, rfl, hx, gh, ⟨m, c, sz, cs, rfl, hm, hc, ⟨ok1, ok2, ok3⟩, rfl⟩, q⟩ := h
    refine ini_fld rfl (Ini.start hx gh) (c_Program T) (n_Program_memory T) (ev_var rfl hm) rfl (by simp) fun v1 G1 H1 i1 e1 => ?_
    refine ini_fld rfl i1 (c_Program T) (n_Program_commands T) (ev_tupleS (ev_var rfl ((rSeq _).mo _ _ _ e1 hc))) rfl (by simp) fun v2 G2 H2 i2 e2 => ?_
    refine st_if (et_test (ev_T0 (ev_lenT (ev_self rfl (c_Program T) (n_Program_commands T) i2.fl rfl)) ev_cI)) i2.at_ (fun G3 H3 g b => ?_) (fun G3 H3 g _ => ?_)
    · rw [List.length_map, decide_eq_false (show ¬ (200 : Int) < (cs.length : Int) by omega)] at b
      cases b
    · have i3 := i2.up g
      refine st_drop (ev_call (R := isV .non) (ea_cons (ev_var (i := 1) rfl ((rMem K sz).mo _ _ _ ((e1.trans e2).trans g.gg) hm)) (ea_cons (ev_self rfl (c_Program T) (n_Program_commands T) i3.fl rfl) ea_nil)) fun vs G4 e4 rs => ?_) i3.at_ fun y G4 H4 g4 _ => ini_end (i3.up g4) del_same q
      obtain ⟨_, _, rfl, r1, r2⟩ := all2 rs
      exact ⟨_, _, sz, cs, rfl, r1, .inl r2, ok3, rfl⟩
/-! ### stores -/
def isSto : Cmd → Bool
  | .store _ => true
  | _ => false
theorem stores_map (f : Cmd → Rp) (g : Sto → Rp) (h : ∀ s, f (.store s) = g s) : ∀ cs : List Cmd, (cs.filter isSto).map f = (storesOf cs).map g
  | [] => rfl
  | .store s :: cs => by
    have ih := stores_map f g h cs
    unfold storesOf at ih ⊢
    rw [show (Cmd.store s :: cs).filter isSto = .store s :: cs.filter isSto from rfl, show (Cmd.store s :: cs).filterMap stoOf = s :: cs.filterMap stoOf from rfl, List.map_cons, List.map_cons, ih, h]
  | .flush l :: cs => stores_map f g h cs
  | .fence :: cs => stores_map f g h cs
theorem ev_isSto {F : Fm} {te : TE} {σ : L2.St} {G : Hp} (T : Tx K mg) {c : Cmd} (h : Ev F te σ G (rCmd K c)) : Ev F (tCB (rIsi K) (tCons te (tCons (tC (.ref (He.ga K "Store"))) tNil))) σ G (isB (isSto c)) := by
  cases c with
  | store s => exact ev_isi h (is_Store_Store T) fun H a dx vs e => ty_Store T e
  | flush l => exact ev_isi h (is_Flush_Store T) fun H a dx vs e => ty_Flush T e
  | fence => exact ev_isi h (is_Fence_Store T) fun H a dx vs e => ty_Fence T e
def sp_stores (K : PySem.W.Frag) : Sp := Prom fun vs G R => ∃ (v : V) (sz : List Nat) (cs : List Cmd), vs = [v] ∧ (rProg K sz cs).p v G ∧ okProg sz cs ∧ R = rLst ((storesOf cs).map (rSto K))
theorem sc_stores : FnScope ["program", "command"] ["program"] (defScope s_stores) := ⟨rfl, rfl, rfl, by decide +kernel, rfl, by decide +kernel, by decide +kernel⟩
/- program=0 command=1; cells none; level 1 -/
theorem ok_stores (T : Tx K mg) : Dk P w K mg base (He.ga K "stores") 1 ["program"] (sp_stores K) := by
  refine dk_of (d_stores_at T) sc_stores (fun _ _ _ _ _ _ us hl => match us, hl with | [_], _ => rfl) (fun vs H Q E h => ?_) (fun cdv A outer s H vs Q E hr h => ⟨_, (pss_one (ps_ret (pe_lc (own := [("command", 1)]) (g := gName 1) rfl sc_stores.nd (pi_tup (pe_fld (pv 0) rfl)) (blkOk_by (by kernel_rfl)) (fun _ _ _ _ _ => (pg_name (i := 1) sc_stores.nd rfl (.inl rfl))) (fun _ _ _ _ _ => (pts_one (pt_val (pe_callB (k_call_isi (K := K) rfl) (by rfl) (f_isinstance T) bt_isinstance (pa_cons (pv 1) (pa_cons (pe_gl (v := .ref (He.ga K "Store")) ⟨_, g_Store T, rfl⟩) pa_nil)))))) (fun _ _ _ _ _ => (pv 1))))), ?_⟩)
  · obtain ⟨G, R, gh, ⟨v, sz, cs, rfl, _⟩, _⟩ := h
    rfl
  · obtain ⟨G, R, gh, ⟨v, sz, cs, rfl, hv, ⟨_, ok, _⟩, rfl⟩, q⟩ := h
    rw [← stores_map (rCmd K) (rSto K) (fun _ => rfl) cs] at q
    refine st_ret (ev_lcF cs (rCmd K) (rCmd K) isSto (ei_tup (ev_fld (c_Program T) (n_Program_commands T) (ev_var rfl hv) rfl)) (by omega) (fun _ => rfl) (fun c _ u G1 e r => et_B (ev_isSto T (ev_var rfl r))) (fun c _ u G1 e r _ => ev_var rfl r)) (At.no gh) q
end
end Ls


/-! LsW4 -/
namespace Ls
open PySem PySem.Spec PyProof.Rows L2
abbrev cV (xs : List Nat) : HO := .lst (xs.map fun n : Nat => V.int n)
theorem cV_set (xs : List Nat) (l n : Nat) : (xs.map fun n : Nat => V.int n).set l (.int n) = (xs.set l n).map fun n : Nat => V.int n := by
  rw [List.map_set]
theorem getD_of {xs : List Nat} {l : Nat} (h : l < xs.length) : (xs.map fun n : Nat => V.int n)[l]? = some (.int (xs.getD l 0 : Nat)) := by
  rw [List.getElem?_map, List.getElem?_eq_getElem h, List.getD_eq_getElem?_getD, List.getElem?_eq_getElem h] <;> rfl
def CntN (n : Nat) (c : Cnt) : Prop := c.made.length = n ∧ c.flushed.length = n ∧ c.sure.length = n
theorem CntN.init (n : Nat) : CntN n (Cnt.init n) := ⟨List.length_replicate, List.length_replicate, List.length_replicate⟩
theorem CntN.step {n : Nat} {c : Cnt} (h : CntN n c) (x : Cmd) : CntN n (c.step x) := by
  obtain ⟨h1, h2, h3⟩ := h
  cases x with
  | store s => exact ⟨by show (c.made.set _ _).length = n; rw [List.length_set]; exact h1, h2, h3⟩
  | flush l => exact ⟨h1, by show (c.flushed.set _ _).length = n; rw [List.length_set]; exact h2, h3⟩
  | fence => exact ⟨h1, h2, h2⟩
/-- the counter as a local object -/
structure CtL (K : PySem.W.Frag) (a m f u : Addr) (c : Cnt) (H0 G H : Hp) : Prop where
  at_ : CtAt K a m f u c H
  n0 : ∀ b, CtP a m f u b → H0 b = none
  ng : ∀ b, CtP a m f u b → G b = none
theorem CtL.mo {K : PySem.W.Frag} {a m f u : Addr} {c : Cnt} {H0 G H G1 H1 : Hp} (h : CtL K a m f u c H0 G H) (g : Gr Fm.no G H G1 H1) : CtL K a m f u c H0 G1 H1 := ⟨h.at_.ex g.ex, h.n0, fun b hb => g.fr b (h.at_.there b hb) (h.ng b hb)⟩
section
variable {P : Program} {w : World} {K : PySem.W.Frag} {mg : Str → Option Value} {base : Heap}
def sp_Counter_init (K : PySem.W.Frag) : Sp := fun vs H Q _ => ∃ x dx mem sz G, vs = [.ref x, mem] ∧ H x = some (.ins (He.ga K "Counter") dx []) ∧ Ex G (del H x) ∧ (rMem K sz).p mem G ∧ okMem sz ∧
  ∀ H' m f u, Gr Fm.no G (del H x) G (del H' x) → (∀ b, CtP x m f u b → del H x b = none) → CtAt K x m f u (Cnt.init sz.length) H' → Q .non H'
theorem ct_rep {F : Fm} {G H : Hp} {mem : V} {sz : List Nat} {σ : L2.St} {Q : VK} (T : Tx K mg) (at_ : At F G H) (hσ : σ[1]? = some (some mem)) (hm : (rMem K sz).p mem G) (ok : okMem sz)
    (q : ∀ p H', Gr F G H G H' → H p = none → G p = none → ¬ F.S p → H' p = some (cV (zeros sz.length)) → Q (.ref p) H') :
    tOp rRep (tLst (tCons (tC (.int 0)) tNil)) (tCB (fun xs H Q => ∃ p ys, xs = [.ref p] ∧ (SqL K H p ys ∨ SqT K H p ys) ∧ Q (.int ys.length) H) (tCons (tFld K (tVar 1) "sizes") tNil)) σ H Q := by
  obtain ⟨_, ok2, _⟩ := ok
  refine rep_new at_ (ev_lenT (ev_fld (c_Memory T) (n_Memory_sizes T) (ev_var hσ hm) rfl)) (by rw [List.length_map]; omega) fun p H' g n1 n2 n3 e => q p H' g n1 n2 n3 ?_
  rw [e, List.length_map]
  show _ = some (HO.lst ((List.replicate sz.length 0).map _))
  rw [List.map_replicate]
  rfl
theorem sc_Counter_init : FnScope ["self", "memory"] ["self", "memory"] (defScope s_Counter_init) := ⟨rfl, rfl, rfl, by decide +kernel, rfl, by decide +kernel, by decide +kernel⟩
/- self=0 memory=1; cells none; level 1 -/
theorem ok_Counter_init (T : Tx K mg) : Dk P w K mg base (He.ma K (He.ga K "Counter") "__init__") 1 ["self", "memory"] (sp_Counter_init K) := by
  refine dk_of (d_Counter_init_at T) sc_Counter_init (fun _ _ _ _ _ _ us hl => match us, hl with | [_, _], _ => rfl) (fun vs H Q E h => ?_) (fun cdv A outer s H vs Q E hr h => ⟨_, (pss_cons (ps_fld (pv 0) (pe_op op_rep (pe_lst (pa_cons pe_int pa_nil)) (pe_callB call_len_seq (by rfl) (f_len T) bt_len (pa_cons (pe_fld (pv 1) rfl) pa_nil))) rfl)
      (pss_cons (ps_fld (pv 0) (pe_op op_rep (pe_lst (pa_cons pe_int pa_nil)) (pe_callB call_len_seq (by rfl) (f_len T) bt_len (pa_cons (pe_fld (pv 1) rfl) pa_nil))) rfl)
      (pss_one (ps_fld (pv 0) (pe_op op_rep (pe_lst (pa_cons pe_int pa_nil)) (pe_callB call_len_seq (by rfl) (f_len T) bt_len (pa_cons (pe_fld (pv 1) rfl) pa_nil))) rfl)))), ?_⟩)
  · obtain ⟨x, dx, mem, sz, G, rfl, _⟩ := h
    rfl
  · obtain ⟨x, dx, mem, sz, G, rfl, hx, gh, hm, ok, q⟩ := h
    refine ct_rep T (at_cell gh hx) rfl hm ok fun m H1 g1 n1 gm1 s1 e1 => ⟨.ref x, rfl, x, _, dx, [], rfl, g1.at_.i, c_Counter T, n_Counter_made T, by simp, ?_⟩
    have d1 := gr_cell g1
    refine ct_rep T (at_cell (x := x) (o := .ins (He.ga K "Counter") dx [("made", .ref m)]) (by rw [del_upd]; exact d1.gh) upd_same) rfl hm ok fun f H2 g2 n2 gm2 s2 e2 => ⟨.ref x, rfl, x, _, dx, [("made", .ref m)], rfl, g2.at_.i, c_Counter T, n_Counter_flushed T, by simp, ?_⟩
    have d2 := gr_cell g2
    rw [del_upd] at d2
    refine ct_rep T (at_cell (x := x) (o := .ins (He.ga K "Counter") dx [("made", .ref m), ("flushed", .ref f)]) (by rw [del_upd]; exact d2.gh) upd_same) rfl hm ok fun u H3 g3 n3 gm3 s3 e3 => ⟨.ref x, rfl, x, _, dx, [("made", .ref m), ("flushed", .ref f)], rfl, g3.at_.i, c_Counter T, n_Counter_sure T, by simp, ?_⟩
    have d3 := gr_cell g3
    rw [del_upd] at d3
    have mx : m ≠ x := fun z => s1 z
    have fx : f ≠ x := fun z => s2 z
    have ux : u ≠ x := fun z => s3 z
    have n2' : H1 f = none := by
      rw [upd_ne fx] at n2
      exact n2
    have n3' : H2 u = none := by
      rw [upd_ne ux] at n3
      exact n3
    have fm : f ≠ m := fun z => by rw [z, e1] at n2'; cases n2'
    have e2m : H2 m = some (cV (zeros sz.length)) := g2.hh m _ mx (by rw [upd_ne mx, e1])
    have um : u ≠ m := fun z => by rw [z, e2m] at n3'; cases n3'
    have uf : u ≠ f := fun z => by rw [z, e2] at n3'; cases n3'
    have e3m : H3 m = some (cV (zeros sz.length)) := g3.hh m _ mx (by rw [upd_ne mx, e2m])
    have e3f : H3 f = some (cV (zeros sz.length)) := g3.hh f _ fx (by rw [upd_ne fx, e2])
    have d := (d1.trans d2).trans d3
    refine q _ m f u (by rw [del_upd]; exact d) (fun b hb => ?_) ⟨⟨dx, upd_same⟩, by rw [upd_ne mx]; exact e3m, by rw [upd_ne fx]; exact e3f, by rw [upd_ne ux]; exact e3, fm.symm, um.symm, uf.symm⟩
    have nod : ∀ {Ha : Hp} {b : Addr}, Gr Fm.no G (del H x) G (del Ha x) → b ≠ x → Ha b = none → del H x b = none := fun {Ha b} dd bx hn => by
      have h1 : del Ha x b = none := by rw [del_ne bx, hn]
      cases z : del H x b with
      | none => rfl
      | some o => exact absurd h1 (dd.th b (by rw [z]; exact Option.some_ne_none _))
    rcases hb with z | z | z | z
    · rw [z]; exact del_same
    · rw [z, del_ne mx]; exact n1
    · rw [z]
      exact nod d1 fx n2'
    · rw [z]
      exact nod (d1.trans d2) ux n3'
def sp_Counter_do_command (K : PySem.W.Frag) : Sp := fun vs H Q _ => ∃ a m f u c cmd x sz G, vs = [.ref a, x] ∧ Ex G H ∧ (rCmd K cmd).p x G ∧ okCmd sz cmd ∧ CntN sz.length c ∧ CtAt K a m f u c H ∧ (∀ b, CtP a m f u b → G b = none) ∧
  ∀ H' u', (u' = u ∨ H u' = none) → (∀ b o, ¬ CtP a m f u b → H b = some o → H' b = some o) → (∀ b, H b ≠ none → H' b ≠ none) → CtAt K a m f u' (c.step cmd) H' → Q .non H'
theorem sc_Counter_do_command : FnScope ["self", "command"] ["self", "command"] (defScope s_Counter_do_command) := ⟨rfl, rfl, rfl, by decide +kernel, rfl, by decide +kernel, by decide +kernel⟩
/- self=0 command=1; cells none; level 1 -/
theorem ok_Counter_do_command (T : Tx K mg) : Dk P w K mg base (He.ma K (He.ga K "Counter") "do_command") 1 ["self", "command"] (sp_Counter_do_command K) := by
  refine dk_of (d_Counter_do_command_at T) sc_Counter_do_command (fun _ _ _ _ _ _ us hl => match us, hl with | [_, _], _ => rfl) (fun vs H Q E h => ?_) (fun cdv A outer s H vs Q E hr h => ⟨_, (pss_one (ps_if (pt_val (pe_callB call_isi (by rfl) (f_isinstance T) bt_isinstance (pa_cons (pv 1) (pa_cons (pe_gl (v := .ref (He.ga K "Store")) ⟨_, g_Store T, rfl⟩) pa_nil)))) (pss_one (ps_asg (pe_op op_add (pe_ix ix_list (pe_fld (pv 0) rfl) (pe_fld (pv 1) rfl) (fun _ _ => rfl)) pe_int) (pg_sub (pe_fld (pv 0) rfl) (pe_fld (pv 1) rfl) set_list))) (pss_one (ps_if (pt_val (pe_callB call_isi (by rfl) (f_isinstance T) bt_isinstance (pa_cons (pv 1) (pa_cons (pe_gl (v := .ref (He.ga K "Flush")) ⟨_, g_Flush T, rfl⟩) pa_nil)))) (pss_one (ps_asg (pe_ix ix_list (pe_fld (pv 0) rfl) (pe_fld (pv 1) rfl) (fun _ _ => rfl)) (pg_sub (pe_fld (pv 0) rfl) (pe_fld (pv 1) rfl) set_list))) (pss_one (ps_fld (pv 0) (pe_callTy call_list_of (by rfl) (f_list T) bt_list (pa_cons (pe_fld (pv 0) rfl) pa_nil)) rfl)))))), ?_⟩)
  · obtain ⟨a, m, f, u, c, cmd, x, sz, G, rfl, _⟩ := h
    rfl
  · obtain ⟨a, m, f, u, c, cmd, x, sz, G, rfl, gh, hx, ok, ⟨l1, l2, l3⟩, ct, ng, q⟩ := h
    obtain ⟨dx, ea⟩ := ct.at_
    obtain ⟨am, af, au⟩ := ct.nm
    have at0 : At (Fm.hold (CtP a m f u) H) G H := at_hold gh ng ct.there
    have eA : ∀ H', (Fm.hold (CtP a m f u) H).I H' → H' a = some (.ins (He.ga K "Counter") dx [("made", .ref m), ("flushed", .ref f), ("sure", .ref u)]) := fun H' i => (i a (.inl rfl)).trans ea
    have eM : ∀ H', (Fm.hold (CtP a m f u) H).I H' → H' m = some (cV c.made) := fun H' i => (i m (.inr (.inl rfl))).trans ct.hm
    have eF : ∀ H', (Fm.hold (CtP a m f u) H).I H' → H' f = some (cV c.flushed) := fun H' i => (i f (.inr (.inr (.inl rfl)))).trans ct.hf
    have fin : ∀ {G1 H1 : Hp} {p : Addr} {o : HO} {u' : Addr}, Gr (Fm.hold (CtP a m f u) H) G H G1 H1 → CtP a m f u p → CtAt K a m f u' (c.step cmd) (upd H1 p o) → (u' = u ∨ H u' = none) → Q .non (upd H1 p o) := fun {G1 H1 p o u'} g hp hc hu => q _ u' hu (fun b o' nb e => by
      rw [upd_ne fun z => nb (by rw [z]; exact hp)]
      exact g.hh b o' nb e) (fun b hb => by
      by_cases z : b = p
      · rw [z, upd_same]
        exact Option.some_ne_none _
      · rw [upd_ne z]
        exact g.th b hb) hc
    cases cmd with
    | store s =>
      obtain ⟨sl, e1, e2⟩ := ok
      have hl : s.l < c.made.length := by rw [l1]; exact (List.getElem?_eq_some_iff.mp e1).1
      refine st_if (et_B (ev_isSto T (c := .store s) (ev_var (i := 1) rfl hx))) at0 (fun G1 H1 g1 _ => ?_) fun G1 H1 g1 b => nomatch b
      have hx1 := (rCmd K (.store s)).mo _ _ _ g1.gg hx
      refine st_asgG (ev_I0 (i := (c.made.getD s.l 0 : Nat)) (ev_ixF (ev_fldF (c_Counter T) (n_Counter_made T) (ev_var rfl rfl) eA rfl) (ev_fld (R := isN s.l) (c_Store T) (n_Store_line T) (ev_var (i := 1) rfl hx1) rfl) eM (getD_of hl)) ev_cI) g1.at_ fun v G2 H2 g2 rv => ?_
      cases rv
      refine g_setL g2.at_ (ev_fldF (c_Counter T) (n_Counter_made T) (ev_var rfl rfl) eA rfl) (ev_fld (R := isN s.l) (c_Store T) (n_Store_line T) (ev_var (i := 1) rfl ((rCmd K (.store s)).mo _ _ _ g2.gg hx1)) rfl) eM (by rw [List.length_map]; exact hl) fun G3 H3 g3 => ?_
      have g := (g1.trans g2).trans g3
      have i3 := g3.at_.i
      refine fin g (.inr (.inl rfl)) (u' := u) ⟨⟨dx, by rw [upd_ne am]; exact eA H3 i3⟩, ?_, by rw [upd_ne ct.mf.symm]; exact eF H3 i3, by rw [upd_ne ct.mu.symm]; exact (i3 u (.inr (.inr (.inr rfl)))).trans ct.hu, ct.mf, ct.mu, ct.fu⟩ (.inl rfl)
      rw [upd_same]
      exact congrArg (fun z => some (HO.lst z)) (cV_set c.made s.l (c.made.getD s.l 0 + 1))
    | flush l =>
      have hl : l < c.made.length := by rw [l1]; exact ok
      refine st_if (et_B (ev_isSto T (c := .flush l) (ev_var (i := 1) rfl hx))) at0 (fun G1 H1 g1 b => nomatch b) fun G1 H1 g1 _ => ?_
      have hx1 := (rCmd K (.flush l)).mo _ _ _ g1.gg hx
      refine st_if (et_B (ev_isi (ev_var (i := 1) rfl hx1) (is_Flush_Flush T) fun H a dx vs e => ty_Flush T e)) g1.at_ (fun G2 H2 g2 _ => ?_) fun G1 H1 g1 b => nomatch b
      have hx2 := (rCmd K (.flush l)).mo _ _ _ g2.gg hx1
      refine st_asgG (ev_ixF (ev_fldF (c_Counter T) (n_Counter_made T) (ev_var rfl rfl) eA rfl) (ev_fld (R := isN l) (c_Flush T) (n_Flush_line T) (ev_var (i := 1) rfl hx2) rfl) eM (getD_of hl)) g2.at_ fun v G3 H3 g3 rv => ?_
      cases rv
      refine g_setL g3.at_ (ev_fldF (c_Counter T) (n_Counter_flushed T) (ev_var rfl rfl) eA rfl) (ev_fld (R := isN l) (c_Flush T) (n_Flush_line T) (ev_var (i := 1) rfl ((rCmd K (.flush l)).mo _ _ _ g3.gg hx2)) rfl) eF (by rw [List.length_map, l2]; exact ok) fun G4 H4 g4 => ?_
      have g := ((g1.trans g2).trans g3).trans g4
      have i4 := g4.at_.i
      refine fin g (.inr (.inr (.inl rfl))) (u' := u) ⟨⟨dx, by rw [upd_ne af]; exact eA H4 i4⟩, by rw [upd_ne ct.mf]; exact eM H4 i4, ?_, by rw [upd_ne ct.fu.symm]; exact (i4 u (.inr (.inr (.inr rfl)))).trans ct.hu, ct.mf, ct.mu, ct.fu⟩ (.inl rfl)
      rw [upd_same]
      exact congrArg (fun z => some (HO.lst z)) (cV_set c.flushed l (c.made.getD l 0))
    | fence =>
      refine st_if (et_B (ev_isSto T (c := .fence) (ev_var (i := 1) rfl hx))) at0 (fun G1 H1 g1 b => nomatch b) fun G1 H1 g1 _ => ?_
      have hx1 := (rCmd K .fence).mo _ _ _ g1.gg hx
      refine st_if (et_B (ev_isi (ev_var (i := 1) rfl hx1) (is_Fence_Flush T) fun H a dx vs e => ty_Fence T e)) g1.at_ (fun G1 H1 g1 b => nomatch b) fun G2 H2 g2 _ => ?_
      refine ev_fldF (c_Counter T) (n_Counter_flushed T) (ev_var (i := 0) rfl rfl) eA rfl G2 H2 (Ex.refl _) g2.at_ _ fun y G3 H3 g3 ry => ?_
      cases ry
      have i3 := g3.at_.i
      refine ⟨f, _, rfl, .inl (sq_of (eF H3 i3)), fun l hl => ?_⟩
      have la : l ≠ a := fun z => by rw [z, eA H3 i3] at hl; cases hl
      have lm : l ≠ m := fun z => by rw [z, eM H3 i3] at hl; cases hl
      have lf : l ≠ f := fun z => by rw [z, eF H3 i3] at hl; cases hl
      have g4 := Gr.newH (o := cV c.flushed) g3.at_ hl
      have g := ((g1.trans g2).trans g3).trans g4
      have i4 := g4.at_.i
      refine ⟨.ref a, rfl, a, _, dx, _, rfl, eA _ i4, c_Counter T, n_Counter_sure T, by simp, ?_⟩
      refine fin g (.inl rfl) (u' := l) ⟨⟨dx, upd_same⟩, by rw [upd_ne am.symm]; exact eM _ i4, by rw [upd_ne af.symm]; exact eF _ i4, by rw [upd_ne la, upd_same]; rfl, ct.mf, lm.symm, lf.symm⟩ (.inr ?_)
      cases z : H l with
      | none => rfl
      | some o => exact absurd hl (((g1.trans g2).trans g3).th l (by rw [z]; exact Option.some_ne_none _))
end
end Ls


/-! LsW5 -/
namespace Ls
open PySem PySem.Spec PyProof.Rows L2
theorem st_asgQ {te : TE} {g : TG} {D : Ends} {σ : L2.St} {H : Hp} (h : te σ H fun v H1 => g v σ H1 D.nx) : tAsg te g D σ H := h
theorem st_dropQ {te : TE} {D : Ends} {σ : L2.St} {H : Hp} (h : te σ H fun _ H1 => D.nx σ H1) : tDrop te D σ H := h
theorem st_retQ {te : TE} {D : Ends} {σ : L2.St} {H : Hp} (h : te σ H D.rt) : tRet te D σ H := h
theorem Gr.none {F : Fm} {G H G1 H1 : Hp} (g : Gr F G H G1 H1) {b : Addr} (n : H1 b = none) : H b = none := by
  cases z : H b with
  | none => rfl
  | some o => exact absurd n (g.th b (by rw [z]; exact Option.some_ne_none _))
theorem At.none {F : Fm} {G H : Hp} (a : At F G H) {b : Addr} (n : H b = none) : G b = none := a.gh.back n
section
variable {P : Program} {w : World} {K : PySem.W.Frag} {mg : Str → Option Value} {base : Heap}
theorem ct_make {σ : L2.St} {G0 H0 G H : Hp} {te : TE} {sz : List Nat} {Q : VK} (b : Gr Fm.no G0 H0 G H) (hm : Ev Fm.no te σ G (rMem K sz)) (ok : okMem sz)
    (q : ∀ a m f u G' H', Gr Fm.no G0 H0 G' H' → Gr Fm.no G H G' H' → CtL K a m f u (Cnt.init sz.length) H G' H' → Q (.ref a) H') : tMake (He.ga K "Counter") (sp_Counter_init K) [] E0 (tCons te tNil) σ H Q := by
  refine ea_cons hm ea_nil G H (Ex.refl _) b.at_ _ fun vs G1 H1 g1 rs => fun x dx nx nd ne => ?_
  obtain ⟨mem, rfl, hmem⟩ := all1 rs
  have e1 : del (upd (upd H1 dx (.own x)) x (.ins (He.ga K "Counter") dx [])) x = upd H1 dx (.own x) := by
    rw [del_upd, del_none]
    rw [upd_ne (Ne.symm ne)]
    exact nx
  have g2 : Gr Fm.no G H G1 (upd H1 dx (.own x)) := g1.trans (Gr.newH g1.at_ nd)
  refine ⟨x, dx, mem, sz, G1, rfl, upd_same, by rw [e1]; exact g2.gh, hmem, ok, fun H' m f u g3 hn ct => ⟨rfl, ?_⟩⟩
  rw [e1] at g3 hn
  obtain ⟨dx', ea⟩ := ct.at_
  have g4 := g2.trans g3
  have hn' : ∀ b, CtP x m f u b → H b = none := fun b hb => g2.none (hn b hb)
  have gn : ∀ b, CtP x m f u b → G1 b = none := fun b hb => g2.at_.none (hn b hb)
  have e2 : upd (del H' x) x (.ins (He.ga K "Counter") dx' [("made", .ref m), ("flushed", .ref f), ("sure", .ref u)]) = H' := by
    funext b
    by_cases z : b = x
    · rw [z, upd_same, ea]
    · rw [upd_ne z, del_ne z]
  have g5 := g4.wrNo (o := .ins (He.ga K "Counter") dx' [("made", .ref m), ("flushed", .ref f), ("sure", .ref u)]) (hn' x (.inl rfl)) (gn x (.inl rfl))
  rw [e2] at g5
  exact q x m f u G1 H' (b.trans g5) g5 ⟨ct, hn', gn⟩
theorem ct_do {i j : Nat} {σ : L2.St} {Hc H0 G0 G H : Hp} {a m f u : Addr} {c : Cnt} {cmd : Cmd} {x : V} {sz : List Nat} {Q : VK} (hi : σ[i]? = some (some (.ref a))) (hj : σ[j]? = some (some x)) (b : Gr Fm.no G0 H0 G H) (ct : CtL K a m f u c Hc G H)
    (t0 : ∀ b, Hc b = none → H0 b = none) (tc : ∀ b, H b = none → Hc b = none)
    (hx : (rCmd K cmd).p x G) (ok : okCmd sz cmd) (cn : CntN sz.length c) (q : ∀ H' u', Gr Fm.no G0 H0 G H' → CtL K a m f u' (c.step cmd) Hc G H' → (∀ b o, ¬ CtP a m f u b → H b = some o → H' b = some o) → (∀ b, H b ≠ none → H' b ≠ none) → Q .non H') :
    tMeth (He.ga K "Counter") "do_command" (sp_Counter_do_command K) [] E0 (tVar i) (tCons (tVar j) tNil) σ H Q := by
  obtain ⟨dx, ea⟩ := ct.at_.at_
  refine ⟨_, hi, a, dx, _, rfl, ea, rfl, _, hj, ?_⟩
  refine ⟨a, m, f, u, c, cmd, x, sz, G, rfl, b.gh, hx, ok, cn, ct.at_, ct.ng, fun H' u' hu hk ht ct' => ?_⟩
  have g := b.mut (CtP a m f u) (fun y hy => ⟨t0 y (ct.n0 y hy), ct.ng y hy, fun z => z⟩) hk ht
  have nu : u' ≠ u → H u' = none := fun z => hu.resolve_left z
  refine q H' u' g ⟨ct', fun y hy => ?_, fun y hy => ?_⟩ hk ht
  · rcases hy with z | z | z | z
    · exact ct.n0 y (.inl z)
    · exact ct.n0 y (.inr (.inl z))
    · exact ct.n0 y (.inr (.inr (.inl z)))
    · by_cases w : u' = u
      · exact ct.n0 y (.inr (.inr (.inr (z.trans w))))
      · rw [z]
        exact tc _ (nu w)
  · rcases hy with z | z | z | z
    · exact ct.ng y (.inl z)
    · exact ct.ng y (.inr (.inl z))
    · exact ct.ng y (.inr (.inr (.inl z)))
    · by_cases w : u' = u
      · exact ct.ng y (.inr (.inr (.inr (z.trans w))))
      · rw [z]
        exact b.at_.none (nu w)
/-- t[:k], the whole of it -/
theorem ev_slW {F : Fm} {σ : L2.St} {G : Hp} {ta tb : TE} {Rs : List Rp} (ha : Ev F ta σ G (rTup Rs)) (hb : Ev F tb σ G (isN Rs.length)) : Ev F (tSl (rSlA K) ta tNoPart (tPart tb)) σ G (rTup Rs) := fun G1 H1 e a Q q =>
  ha G1 H1 e a _ fun v G2 H2 g2 r => hb G2 H2 (e.trans g2.gg) g2.at_ _ fun y G3 H3 g3 ry => by
    cases ry
    obtain ⟨p, vs, rfl, hp, hs⟩ := (rTup Rs).mo _ _ _ g3.gg r
    refine ⟨_, rfl, p, vs, rfl, st_of (g3.gh _ _ hp), fun _ => q (.ref p) G3 H3 (g2.trans g3) ⟨p, vs, rfl, hp, hs⟩, fun n => absurd ⟨rfl, ?_⟩ n⟩
    rw [HT.sIx_nat, hs.len, Nat.min_self]
def rCt (K : PySem.W.Frag) (c : Cnt) : Rp := rIns (He.ga K "Counter") [("made", rLst (c.made.map isN)), ("flushed", rLst (c.flushed.map isN)), ("sure", rLst (c.sure.map isN))]
theorem ct_fix {G0 H0 G H : Hp} {a m f u : Addr} {c : Cnt} (b : Gr Fm.no G0 H0 G H) (ct : CtL K a m f u c H0 G H) : ∃ G', Gr Fm.no G0 H0 G' H ∧ (rCt K c).p (.ref a) G' := by
  obtain ⟨dx, ea⟩ := ct.at_.at_
  obtain ⟨am, af, au⟩ := ct.at_.nm
  have g1 := b.fixNo (ct.n0 m (.inr (.inl rfl))) (ct.ng m (.inr (.inl rfl))) ct.at_.hm
  have g2 := g1.fixNo (ct.n0 f (.inr (.inr (.inl rfl)))) (by rw [upd_ne ct.at_.mf.symm]; exact ct.ng f (.inr (.inr (.inl rfl)))) ct.at_.hf
  have g3 := g2.fixNo (ct.n0 u (.inr (.inr (.inr rfl)))) (by rw [upd_ne ct.at_.fu.symm, upd_ne ct.at_.mu.symm]; exact ct.ng u (.inr (.inr (.inr rfl)))) ct.at_.hu
  have g4 := g3.fixNo (ct.n0 a (.inl rfl)) (by rw [upd_ne au, upd_ne af, upd_ne am]; exact ct.ng a (.inl rfl)) ea
  refine ⟨_, g4, a, dx, _, rfl, upd_same, .cons ⟨rfl, m, _, rfl, ?_, all_of _ _⟩ (.cons ⟨rfl, f, _, rfl, ?_, all_of _ _⟩ (.cons ⟨rfl, u, _, rfl, ?_, all_of _ _⟩ .nil))⟩
  · rw [upd_ne am.symm, upd_ne ct.at_.mu, upd_ne ct.at_.mf, upd_same]
  · rw [upd_ne af.symm, upd_ne ct.at_.fu, upd_same]
  · rw [upd_ne au.symm, upd_same]
def cntAt (n : Nat) (cs : List Cmd) (i : Nat) : Cnt := (cs.take i).foldl Cnt.step (Cnt.init n)
theorem cntAt_succ {n : Nat} {cs : List Cmd} {i : Nat} {c : Cmd} (h : cs[i]? = some c) : cntAt n cs (i + 1) = (cntAt n cs i).step c := by
  unfold cntAt
  rw [List.take_add_one, h, List.foldl_append]
  rfl
theorem cntN_at {n : Nat} (cs : List Cmd) : CntN n (cs.foldl Cnt.step (Cnt.init n)) := by
  have go : ∀ (cs : List Cmd) (c : Cnt), CntN n c → CntN n (cs.foldl Cnt.step c) := fun cs => by
    induction cs with
    | nil => exact fun c h => h
    | cons x cs ih => exact fun c h => ih _ (h.step x)
  exact go cs _ (CntN.init n)
def sp_counted (K : PySem.W.Frag) : Sp := Prom fun vs G R => ∃ (v : V) (sz : List Nat) (cs : List Cmd), vs = [v, .int cs.length] ∧ (rProg K sz cs).p v G ∧ okProg sz cs ∧ R = rCt K (cntOf sz.length cs)
theorem sc_counted : FnScope ["program", "time", "found", "command"] ["program", "time"] (defScope s_counted) := ⟨rfl, rfl, rfl, by decide +kernel, rfl, by decide +kernel, by decide +kernel⟩
/- program=0 time=1 found=2 command=3; cells none; level 3 -/
theorem ok_counted (T : Tx K mg) : Dk P w K mg base (He.ga K "counted") 3 ["program", "time"] (sp_counted K) := by
  refine dk_of (d_counted_at T) sc_counted (fun _ _ _ _ _ _ us hl => match us, hl with | [_, _], _ => rfl) (fun vs H Q E h => ?_) (fun cdv A outer s H vs Q E hr h => ⟨_, (pss_cons (ps_if (pt_not (pt_chain op_le op_le pe_int (pv 1) (pe_callB call_len_seq (by rfl) (f_len T) bt_len (pa_cons (pe_fld (pv 0) rfl) pa_nil)))) (pss_one ps_never) pss_nil)
      (pss_cons (ps_set (i := 2) sc_counted.nd rfl (.inl rfl) (pe_mk (mk_Counter T) (ok_Counter_init T) (hr.mono (by decide)) (g_Counter T) (pa_cons (pe_fld (pv 0) rfl) pa_nil)))
      (pss_cons (ps_for PassesOwn.never rfl (pi_tup (pe_slice sl_tupA (pe_fld (pv 0) rfl) po_none (po_some (pv 1)))) (pg_name (i := 3) sc_counted.nd rfl (.inl rfl)) (pss_one (ps_expr (pe_mth (pv 2) (c_Counter T) (m_Counter_do_command T) (ok_Counter_do_command T) (hr.mono (by decide)) (pa_cons (pv 3) pa_nil)))))
      (pss_one (ps_ret (pv 2)))))), ?_⟩)
  · obtain ⟨G, R, gh, ⟨v, sz, cs, rfl, _⟩, _⟩ := h
    rfl
  · obtain ⟨G, R, gh, ⟨v, sz, cs, rfl, hv, ⟨ok1, ok2, ok3⟩, rfl⟩, q⟩ := h
    refine st_if (et_not (et_test (ev_chain ev_cI (ev_var (R := isN cs.length) rfl rfl) fun _ => ev_lenT (ev_fld (c_Program T) (n_Program_commands T) (ev_var (i := 0) rfl hv) rfl)))) (At.no gh) (fun G1 H1 g b => ?_) fun G1 H1 g1 _ => ?_
    · rw [List.length_map, decide_eq_true (show (0 : Int) ≤ (cs.length : Int) by omega), decide_eq_true (show (cs.length : Int) ≤ (cs.length : Int) by omega)] at b
      cases b
    have hv1 := (rProg K sz cs).mo _ _ _ g1.gg hv
    have hmem : Ev Fm.no (tFld K (tVar 0) "memory") (start ["program", "time", "found", "command"] [v, .int cs.length]) G1 (rMem K sz) := ev_fld (c_Program T) (n_Program_memory T) (ev_var rfl hv1) rfl
    refine st_asgQ (ct_make g1 hmem ok1 fun a m f u G2 H2 g2 g12 ct => ?_)
    have ct0 : CtL K a m f u (Cnt.init sz.length) H G2 H2 := ⟨ct.at_, fun b hb => g1.none (ct.n0 b hb), ct.ng⟩
    have hv2 := (rProg K sz cs).mo _ _ _ g12.gg hv1
    refine st_forB (K := K) g2 (ei_tup (ev_slW (ev_fld (c_Program T) (n_Program_commands T) (ev_var (i := 0) rfl hv2) rfl) (ev_var rfl (by rw [List.length_map]; rfl)))) (fun i σ G' H' => ∃ u x, σ = [some v, some (.int cs.length), some (.ref a), x] ∧ CtL K a m f u (cntAt sz.length cs i) H G' H') (fun G' H' g => ⟨u, _, rfl, ct0.mo g⟩) (fun i σ G' H' G1 H1 ⟨u, x, e, p⟩ _ g => ⟨u, x, e, p.mo g⟩) ?_ ?_
    · rintro i Y y σ' G3 H3 N hN hY g3 e3 hy ⟨u, x, rfl, ct⟩
      obtain ⟨cmd, hi, hcs, rfl⟩ := get_map hY
      refine st_dropQ (ct_do (i := 2) (j := 3) rfl rfl g3 ct (fun _ z => z) (fun _ z => g3.none z) hy (ok3 cmd hcs) (cntN_at _) fun H' u' g4 ct4 _ _ => hN _ G3 H' (Ex.refl _) g4 ⟨u', _, rfl, ?_⟩)
      rw [cntAt_succ hi]
      exact ct4
    · rintro σ' G3 H3 g3 e3 ⟨u, x, rfl, ct⟩
      rw [List.length_map] at ct
      obtain ⟨G4, g4, r4⟩ := ct_fix g3 ct
      have e4 : cntAt sz.length cs cs.length = cntOf sz.length cs := by
        unfold cntAt cntOf
        rw [List.take_length]
      rw [e4] at r4
      exact ⟨_, rfl, q _ _ _ g4 r4⟩
def sp_made (K : PySem.W.Frag) : Sp := Prom fun vs G R => ∃ (v : V) (sz : List Nat) (cs : List Cmd), vs = [v, .int cs.length] ∧ (rProg K sz cs).p v G ∧ okProg sz cs ∧ R = rTup ((madeOf sz.length cs).map isN)
theorem sc_made : FnScope ["program", "time"] ["program", "time"] (defScope s_made) := ⟨rfl, rfl, rfl, by decide +kernel, rfl, by decide +kernel, by decide +kernel⟩
/- program=0 time=1; cells none; level 4 -/
theorem ok_made (T : Tx K mg) : Dk P w K mg base (He.ga K "made") 4 ["program", "time"] (sp_made K) := by
  refine dk_of (d_made_at T) sc_made (fun _ _ _ _ _ _ us hl => match us, hl with | [_, _], _ => rfl) (fun vs H Q E h => ?_) (fun cdv A outer s H vs Q E hr h => ⟨_, (pss_one (ps_ret (pe_callTy call_tuple_of (by rfl) (f_tuple T) bt_tuple (pa_cons (pe_fld (pe_fn (ok_counted T) (hr.mono (by decide)) (g_counted T) (pa_cons (pv 0) (pa_cons (pv 1) pa_nil))) rfl) pa_nil)))), ?_⟩)
  · obtain ⟨G, R, gh, ⟨v, sz, cs, rfl, _⟩, _⟩ := h
    rfl
  · obtain ⟨G, R, gh, ⟨v, sz, cs, rfl, hv, ok, rfl⟩, q⟩ := h
    refine st_ret (ev_tupleL (ev_fld (c_Counter T) (n_Counter_made T) (ev_call (R := rCt K (cntOf sz.length cs)) (ea_cons (ev_var rfl hv) (ea_cons (ev_var (R := isN cs.length) rfl rfl) ea_nil)) fun vs G1 e rs => ?_) rfl)) (At.no gh) q
    obtain ⟨_, _, rfl, r1, rfl⟩ := all2 rs
    exact ⟨_, sz, cs, rfl, r1, ok, rfl⟩
end
end Ls


/-! LsW6 -/
namespace Ls
open PySem PySem.Spec PyProof.Rows L2
section
variable {K : PySem.W.Frag} {F : Fm} {σ : L2.St} {G H H' G1 : Hp} {te ta : TE} {D : Ends} {p : Addr} {us : List V} {v : V} {Q : VK} {P : Addr → Prop}
theorem st_appR {i : Nat} (hi : σ[i]? = some (some (.ref p))) (hp : H p = some (.lst us)) (h : te σ H fun v H' => rAppend (V.ref p) [v] H' fun _ H1 => D.nx σ H1) : tDrop (tBM K "list" rAppend (tVar i) (tCons te tNil)) D σ H :=
  ⟨.ref p, hi, .inl ⟨rfl, us, sq_of hp⟩, h⟩
theorem app_end (hp : H' p = some (.lst us)) (hz : us.length ≤ 1000000) (k : Q .non (upd H' p (.lst (us ++ [v])))) : rAppend (V.ref p) [v] H' Q :=
  ⟨p, us, v, rfl, rfl, hp, Nat.lt_of_le_of_lt hz (by rw [sizeLine_eq]; decide), k⟩
theorem all_isN {xs : List Nat} {vs : List V} (h : All (xs.map isN) vs G) (H : Hp) : All (xs.map isN) vs H := by
  have e := all_vals (f := fun n : Nat => V.int n) h
  subst e
  exact all_of xs H
theorem tupN_cut {xs : List Nat} (h : (rTup (xs.map isN)).p v G1) (hP : ∀ a, P a → ∀ ys, G1 a ≠ some (.tup ys)) : (rTup (xs.map isN)).p v (cut P G1) := by
  obtain ⟨a, vs, rfl, ha, hs⟩ := h
  exact ⟨a, vs, rfl, by rw [cut_out fun z => hP a z _ ha]; exact ha, all_isN hs _⟩
theorem bx_cut {b : Bx} (h : (rBx K b).p v G1) (hP : ∀ a, P a → ∀ ys, G1 a ≠ some (.tup ys)) (hQ : ∀ a, P a → ∀ C dx v r, G1 a ≠ some (.ins C dx (("time", v) :: r))) : (rBx K b).p v (cut P G1) := by
  obtain ⟨a, dx, vs, rfl, ha, hs⟩ := h
  cases hs with
  | cons r1 t1 =>
    cases t1 with
    | cons r2 t2 =>
      cases t2 with
      | cons r3 t3 =>
        cases t3
        rename_i w1 w2 w3
        obtain ⟨n1, v1⟩ := w1
        obtain ⟨n2, v2⟩ := w2
        obtain ⟨n3, v3⟩ := w3
        obtain ⟨e1, q1⟩ := r1
        obtain ⟨e2, q2⟩ := r2
        obtain ⟨e3, q3⟩ := r3
        dsimp only at e1 e2 e3 q1 q2 q3
        subst e1 e2 e3
        exact ⟨a, dx, _, rfl, by rw [cut_out fun z => hQ a z _ _ _ _ ha]; exact ha, .cons ⟨rfl, True.intro⟩ (.cons ⟨rfl, tupN_cut q2 hP⟩ (.cons ⟨rfl, tupN_cut q3 hP⟩ .nil))⟩
def bst (n : Nat) (cs : List Cmd) (i : Nat) : Cnt × List Bx := (cs.take i).foldl boxStep (Cnt.init n, [(zeros n, zeros n)])
theorem bst_succ {n : Nat} {cs : List Cmd} {i : Nat} {c : Cmd} (h : cs[i]? = some c) : bst n cs (i + 1) = boxStep (bst n cs i) c := by
  unfold bst
  rw [List.take_add_one, h, List.foldl_append]
  rfl
theorem bst_cnt (n : Nat) (cs : List Cmd) : ∀ i, i ≤ cs.length → (bst n cs i).1 = cntAt n cs i ∧ (bst n cs i).2.length ≤ i + 1
  | 0, _ => ⟨rfl, Nat.le_refl 1⟩
  | i + 1, h => by
    obtain ⟨h1, h2⟩ := bst_cnt n cs i (by omega)
    have e : cs[i]? = some cs[i] := List.getElem?_eq_getElem h
    rw [bst_succ e, cntAt_succ e]
    unfold boxStep
    refine ⟨by rw [h1], ?_⟩
    cases cs[i] with
    | store t =>
      show ((bst n cs i).2 ++ [_]).length ≤ _
      rw [List.length_append, List.length_singleton]
      omega
    | flush l => exact Nat.le_succ_of_le h2
    | fence => exact Nat.le_succ_of_le h2
theorem cntAt_N (n : Nat) (cs : List Cmd) (i : Nat) : CntN n (cntAt n cs i) := cntN_at _
end
section
variable {P : Program} {w : World} {K : PySem.W.Frag} {mg : Str → Option Value} {base : Heap}
theorem ei_enumS {F : Fm} {σ : L2.St} {G : Hp} {Ys : List Rp} {i : Nat} {v : V} (hi : σ[i]? = some (some v)) (h : (rSeq Ys).p v G) : EvI F (iAlt (iEnum K (tCons (tVar i) tNil)) (iEnumT K (tCons (tVar i) tNil))) σ G (enumR Ys) := by
  rcases h with h | h
  · exact ei_enumT (ea_cons (ev_var hi h) ea_nil)
  · exact ei_enumL (ea_cons (ev_var hi h) ea_nil)
def sp_boxes_of (K : PySem.W.Frag) : Sp := Prom fun vs G R => ∃ (m c : V) (sz : List Nat) (cs : List Cmd), vs = [m, c] ∧ (rMem K sz).p m G ∧ okMem sz ∧ (rSeq (cs.map (rCmd K))).p c G ∧ (∀ c ∈ cs, okCmd sz c) ∧ cs.length ≤ 1000 ∧ R = rLst ((boxesOf sz.length cs).map (rBx K))
theorem sc_boxes_of : FnScope ["memory", "commands", "found", "counter", "index", "command", "low"] ["memory", "commands"] (defScope s_boxes_of) := ⟨rfl, rfl, rfl, by decide +kernel, rfl, by decide +kernel, by decide +kernel⟩
/- memory=0 commands=1 found=2 counter=3 index=4 command=5 low=6; cells none; level 3 -/
theorem ok_boxes_of (T : Tx K mg) : Dk P w K mg base (He.ga K "boxes_of") 3 ["memory", "commands"] (sp_boxes_of K) := by
  refine dk_of (d_boxes_of_at T) sc_boxes_of (fun _ _ _ _ _ _ us hl => match us, hl with | [_, _], _ => rfl) (fun vs H Q E h => ?_) (fun cdv A outer s H vs Q E hr h => ⟨_, (pss_cons (ps_set (i := 2) sc_boxes_of.nd rfl (.inl rfl) (pe_lst (pa_cons (pe_mk (mk_Box T) (ok_Box_init T) (hr.mono (by decide)) (g_Box T) (pa_cons pe_int (pa_cons (pe_mth0 (pv 0) (c_Memory T) (m_Memory_zeros T) (ok_Memory_zeros T) (hr.mono (by decide))) (pa_cons (pe_mth0 (pv 0) (c_Memory T) (m_Memory_zeros T) (ok_Memory_zeros T) (hr.mono (by decide))) pa_nil)))) pa_nil)))
      (pss_cons (ps_set (i := 3) sc_boxes_of.nd rfl (.inl rfl) (pe_mk (mk_Counter T) (ok_Counter_init T) (hr.mono (by decide)) (g_Counter T) (pa_cons (pv 0) pa_nil)))
      (pss_cons (ps_for PassesOwn.never rfl (pi_enumS (by rfl) (f_enumerate T) (pa_cons (pv 1) pa_nil)) (pg_tup rfl (pgs_cons (pg_name (i := 4) sc_boxes_of.nd rfl (.inl rfl)) (pgs_cons (pg_name (i := 5) sc_boxes_of.nd rfl (.inl rfl)) pgs_nil))) (pss_cons (ps_expr (pe_mth (pv 3) (c_Counter T) (m_Counter_do_command T) (ok_Counter_do_command T) (hr.mono (by decide)) (pa_cons (pv 5) pa_nil)))
      (pss_one (ps_if (pt_val (pe_callB call_isi (by rfl) (f_isinstance T) bt_isinstance (pa_cons (pv 5) (pa_cons (pe_gl (v := .ref (He.ga K "Store")) ⟨_, g_Store T, rfl⟩) pa_nil)))) (pss_cons (ps_set (i := 6) sc_boxes_of.nd rfl (.inl rfl) (pe_callTy call_list_of (by rfl) (f_list T) bt_list (pa_cons (pe_fld (pv 3) rfl) pa_nil)))
      (pss_cons (ps_asg (pe_ix ix_list (pe_fld (pv 3) rfl) (pe_fld (pv 5) rfl) (fun _ _ => rfl)) (pg_sub (pv 6) (pe_fld (pv 5) rfl) set_list))
      (pss_one (ps_expr (pe_bm PySem.F.plainAttrs_list PySem.F.slot_list_append PySem.F.type_list_append mt_append (pv 2) (pa_cons (pe_mk (mk_Box T) (ok_Box_init T) (hr.mono (by decide)) (g_Box T) (pa_cons (pe_op op_add (pv 4) pe_int) (pa_cons (pv 6) (pa_cons (pe_fld (pv 3) rfl) pa_nil)))) pa_nil)))))) pss_nil))))
      (pss_one (ps_ret (pv 2)))))), ?_⟩)
  · obtain ⟨G, R, gh, ⟨m, c, sz, cs, rfl, _⟩, _⟩ := h
    rfl
  · obtain ⟨G, R, gh, ⟨m, c, sz, cs, rfl, hm, okm, hc, ok, hl, rfl⟩, q⟩ := h
    have hz : ∀ G', Ex G G' → Ev Fm.no (tMeth (He.ga K "Memory") "zeros" (sp_Memory_zeros K) [] E0 (tVar 0) tNil) (start ["memory", "commands", "found", "counter", "index", "command", "low"] [m, c]) G' (rTup ((zeros sz.length).map isN)) := fun G' e => ev_meth (ev_var rfl ((rMem K sz).mo _ _ _ e hm)) rfl ea_nil fun y vs G1 e r rs => by
      cases rs
      exact ⟨y, sz, rfl, r, okm, rfl⟩
    have hb0 : Ev Fm.no (tMake (He.ga K "Box") (sp_Box_init K) [] E0 (tCons (tC (.int 0)) (tCons (tMeth (He.ga K "Memory") "zeros" (sp_Memory_zeros K) [] E0 (tVar 0) tNil) (tCons (tMeth (He.ga K "Memory") "zeros" (sp_Memory_zeros K) [] E0 (tVar 0) tNil) tNil)))) (start ["memory", "commands", "found", "counter", "index", "command", "low"] [m, c]) G (rBx K (zeros sz.length, zeros sz.length)) :=
      ev_make (ea_cons ev_c (ea_cons (hz G (Ex.refl _)) (ea_cons (hz G (Ex.refl _)) ea_nil))) fun vs G1 e rs => by
        obtain ⟨_, _, _, rfl, _, r2, r3⟩ := all3 rs
        exact ⟨_, _, _, (zeros sz.length, zeros sz.length), rfl, .inl r2, .inl r3, rfl⟩
    refine st_new (ea_cons hb0 ea_nil) (by simp) (At.no gh) fun L us0 G1 H1 g1 nL gL _ eL hus0 => ?_
    have hm1 := (rMem K sz).mo _ _ _ g1.gg hm
    have hmem : Ev Fm.no (tVar 0) ((start ["memory", "commands", "found", "counter", "index", "command", "low"] [m, c]).set 2 (some (.ref L))) G1 (rMem K sz) := ev_var rfl hm1
    refine st_asgQ (ct_make g1 hmem okm fun a mm f u G2 H2 g2 g12 ct => ?_)
    have hc2 := (rSeq (cs.map (rCmd K))).mo _ _ _ g2.gg hc
    refine st_forB (K := K) g2 (ei_enumS (i := 1) rfl hc2) (fun i σ G' H' => ∃ u x y z us, σ = [some m, some c, some (.ref L), some (.ref a), x, y, z] ∧ CtL K a mm f u (bst sz.length cs i).1 H1 G' H' ∧ (∀ b, H' b = none → H1 b = none) ∧ H' L = some (.lst us) ∧ G' L = none ∧ All ((bst sz.length cs i).2.map (rBx K)) us G')
      (fun G' H' g => ⟨u, _, _, _, us0, rfl, ct.mo g, fun b z => g12.none (g.none z), g.ex _ _ (g12.ex _ _ eL), g.fr L (by rw [g12.ex _ _ eL]; exact Option.some_ne_none _) (g12.fr L (by rw [eL]; exact Option.some_ne_none _) gL), hus0.mo (g12.gg.trans g.gg)⟩)
      (fun i σ G' H' G1 H1 ⟨u, x, y, z, us, e, p, t, eL, gL, hu⟩ _ g => ⟨u, x, y, z, us, e, p.mo g, fun b z => t b (g.none z), g.ex _ _ eL, g.fr L (by rw [eL]; exact Option.some_ne_none _) gL, hu.mo g.gg⟩) ?_ ?_
    · rintro i Y y σ' G3 H3 N hN hY g3 e3 hy ⟨u, x1, x2, x3, us, rfl, ct3, tc, eL3, gL3, hus⟩
      obtain ⟨R, hR, rfl⟩ := enumR_get hY
      obtain ⟨cmd, hi, hcs, rfl⟩ := get_map hR
      refine g_two hy g3.gh fun vi x hvi hx => ?_
      have bc := (bst_cnt sz.length cs i (Nat.le_of_lt (List.getElem?_eq_some_iff.mp hi).1))
      have cn : CntN sz.length (bst sz.length cs i).1 := by rw [bc.1]; exact cntAt_N _ _ _
      have nLP : ∀ u, CtL K a mm f u (bst sz.length cs i).1 H1 G3 H3 → ¬ CtP a mm f u L := fun u ct z => by rw [ct.n0 L z] at eL; cases eL
      refine st_dropQ (ct_do (i := 3) (j := 5) rfl rfl g3 ct3 (fun b z => g1.none z) tc hx (ok cmd hcs) cn fun H4 u' g4 ct4 k4 t4 => ?_)
      have eL4 : H4 L = some (.lst us) := k4 L _ (nLP u ct3) eL3
      have tc4 : ∀ b, H4 b = none → H1 b = none := fun b z => tc b (by
        cases w : H3 b with
        | none => rfl
        | some o => exact absurd z (t4 b (by rw [w]; exact Option.some_ne_none _)))
      refine st_if (et_B (ev_isSto T (ev_var (i := 5) rfl hx))) g4.at_ (fun G5 H5 g5 b5 => ?_) fun G5 H5 g5 b5 => ?_
      · cases cmd with
        | store s =>
          have hsl : s.l < sz.length := by
            obtain ⟨sl, e1, e2⟩ := ok _ hcs
            exact (List.getElem?_eq_some_iff.mp e1).1
          have cn4 := cn.step (.store s)
          have ct5 := ct4.mo g5
          obtain ⟨dx, ea⟩ := ct5.at_.at_
          have eL5 := g5.ex _ _ eL4
          have gL5 := g5.fr L (by rw [eL4]; exact Option.some_ne_none _) gL3
          have g05 := g4.trans g5
          refine ⟨.ref a, rfl, a, _, dx, _, _, rfl, ea, c_Counter T, n_Counter_sure T, rfl, ?_⟩
          refine ⟨u', _, rfl, .inl (sq_of ct5.at_.hu), fun l hl => ?_⟩
          have g6 := Gr.newH (o := .lst (((bst sz.length cs i).1.step (.store s)).sure.map fun n : Nat => V.int n)) g05.at_ hl
          have nl0 : H l = none := g05.none hl
          have gl5 : G5 l = none := g05.at_.none hl
          have ct6 := ct5.mo g6
          have lL : l ≠ L := fun z => by rw [z, eL5] at hl; cases hl
          have lnp : ¬ CtP a mm f u' l := fun z => ct5.at_.there l z hl
          have al : a ≠ l := fun z => lnp (.inl z.symm)
          have ml : mm ≠ l := fun z => lnp (.inr (.inl z.symm))
          have hx6 := (rCmd K (.store s)).mo _ _ _ g5.gg hx
          let H6 := upd H5 l (.lst (((bst sz.length cs i).1.step (.store s)).sure.map fun n : Nat => V.int n))
          have at6 : At (Fm.hold (fun b => CtP a mm f u' b ∨ b = l ∨ b = L) H6) G5 H6 := at_hold g6.gh (fun b hb => by
            rcases hb with z | z | z
            · exact ct6.ng b z
            · rw [z]; exact gl5
            · rw [z]; exact gL5) fun b hb => by
            rcases hb with z | z | z
            · exact ct6.at_.there b z
            · rw [z]
              show upd H5 l _ l ≠ none
              rw [upd_same]; exact Option.some_ne_none _
            · rw [z, show H6 L = _ from g6.ex _ _ eL5]; exact Option.some_ne_none _
          have eA : ∀ H', (Fm.hold (fun b => CtP a mm f u' b ∨ b = l ∨ b = L) H6).I H' → H' a = some (.ins (He.ga K "Counter") dx [("made", .ref mm), ("flushed", .ref f), ("sure", .ref u')]) := fun H' ii => (ii a (.inl (.inl rfl))).trans (g6.ex _ _ ea)
          have eM : ∀ H', (Fm.hold (fun b => CtP a mm f u' b ∨ b = l ∨ b = L) H6).I H' → H' mm = some (cV ((bst sz.length cs i).1.step (.store s)).made) := fun H' ii => (ii mm (.inl (.inr (.inl rfl)))).trans ct6.at_.hm
          have eW : ∀ H', (Fm.hold (fun b => CtP a mm f u' b ∨ b = l ∨ b = L) H6).I H' → H' l = some (cV ((bst sz.length cs i).1.step (.store s)).sure) := fun H' ii => (ii l (.inr (.inl rfl))).trans upd_same
          have hl' : s.l < ((bst sz.length cs i).1.step (.store s)).made.length := by rw [cn4.1]; exact hsl
          refine st_asgG (F := Fm.hold (fun b => CtP a mm f u' b ∨ b = l ∨ b = L) H6) (ev_ixF (ev_fldF (c_Counter T) (n_Counter_made T) (ev_var (i := 3) rfl rfl) eA rfl) (ev_fld (R := isN s.l) (c_Store T) (n_Store_line T) (ev_var (i := 5) rfl hx6) rfl) eM (getD_of hl')) at6 fun v7 G7 H7 g7 rv7 => ?_
          cases rv7
          refine g_setL (m := l) g7.at_ (ev_var (i := 6) rfl rfl) (ev_fld (R := isN s.l) (c_Store T) (n_Store_line T) (ev_var (i := 5) rfl ((rCmd K (.store s)).mo _ _ _ g7.gg hx6)) rfl) eW (by rw [List.length_map, cn4.2.2]; exact hsl) fun G8 H8 g8 => ?_
          rw [cV_set]
          have g68 : Gr Fm.no G5 H6 G8 H8 := (g7.trans g8).unhold
          have g08 := (g05.trans g6).trans g68
          have ct8 := ct6.mo g68
          have eL8 : H8 L = some (.lst us) := g68.ex _ _ (g6.ex _ _ eL5)
          have gl8 : G8 l = none := g68.fr l (by show upd H5 l _ l ≠ none; rw [upd_same]; exact Option.some_ne_none _) gl5
          have gL8 : G8 L = none := g68.fr L (by rw [show H6 L = _ from g6.ex _ _ eL5]; exact Option.some_ne_none _) gL5
          let bx : Bx := (((bst sz.length cs i).1.step (.store s)).sure.set s.l (((bst sz.length cs i).1.step (.store s)).made.getD s.l 0), ((bst sz.length cs i).1.step (.store s)).made)
          let H9 := upd H8 l (.lst (bx.1.map fun n : Nat => V.int n))
          have g09 : Gr Fm.no G H G8 H9 := g08.wrNo nl0 gl8
          have ct9 : CtAt K a mm f u' ((bst sz.length cs i).1.step (.store s)) H9 := ct8.at_.same fun b hb => upd_ne fun z => lnp (by rw [← z]; exact hb)
          have eL9 : H9 L = some (.lst us) := (upd_ne lL.symm).trans eL8
          have lc : Loc Fm.no (fun b => b = a ∨ b = mm ∨ b = l) G8 H9 := ⟨fun b hb => by
            rcases hb with z | z | z
            · rw [z]; exact ct8.ng a (.inl rfl)
            · rw [z]; exact ct8.ng mm (.inr (.inl rfl))
            · rw [z]; exact gl8, fun b hb => by
            rcases hb with z | z | z
            · rw [z]; exact ct9.there a (.inl rfl)
            · rw [z]; exact ct9.there mm (.inr (.inl rfl))
            · rw [z]
              show upd H8 l _ l ≠ none
              rw [upd_same]; exact Option.some_ne_none _, fun b _ z => z⟩
          obtain ⟨dx9, ea9⟩ := ct9.at_
          have hl9 : H9 l = some (cV bx.1) := upd_same
          have rA : (rIns (He.ga K "Counter") [("made", rLst (bx.2.map isN)), ("flushed", rAny), ("sure", rAny)]).p (.ref a) (put (fun b => b = a ∨ b = mm ∨ b = l) H9 G8) := ⟨a, dx9, _, rfl, by rw [put_in (.inl rfl)]; exact ea9, .cons ⟨rfl, mm, _, rfl, by rw [put_in (.inr (.inl rfl))]; exact ct9.hm, all_of _ _⟩ (.cons ⟨rfl, True.intro⟩ (.cons ⟨rfl, True.intro⟩ .nil))⟩
          have rW : (rLst (bx.1.map isN)).p (.ref l) (put (fun b => b = a ∨ b = mm ∨ b = l) H9 G8) := ⟨l, _, rfl, by rw [put_in (.inr (.inr rfl))]; exact hl9, all_of _ _⟩
          refine st_appR (p := L) (us := us) rfl eL9 (Ev.peek lc g09.at_ (R := rBx K bx) (ev_make (ea_cons (ev_I0 (ev_var (R := isN i) (i := 4) rfl ?_) ev_cI) (ea_cons (ev_var (i := 6) rfl rW) (ea_cons (ev_fld (c_Counter T) (n_Counter_made T) (ev_var (i := 3) rfl rA) rfl) ea_nil))) fun vs G' e rs => ?_) fun vb Gb Hb gb kb rb eb => ?_)
          · exact hvi
          · obtain ⟨_, _, _, rfl, _, r2, r3⟩ := all3 rs
            exact ⟨_, _, _, bx, rfl, .inr r2, .inr r3, rfl⟩
          · have eLb : Hb L = some (.lst us) := gb.ex _ _ eL9
            have hus' : us.length ≤ 1000000 := by
              rw [← hus.len, List.length_map]
              have hlt := (List.getElem?_eq_some_iff.mp hi).1
              have := bc.2
              omega
            have gLb : cut (fun b => b = a ∨ b = mm ∨ b = l) Gb L = none := gb.fr L (by rw [eL9]; exact Option.some_ne_none _) gL8
            have nLp : ¬ CtP a mm f u' L := fun z => by rw [ct8.n0 L z] at eL; cases eL
            have ctb : CtL K a mm f u' ((bst sz.length cs i).1.step (.store s)) H1 (cut (fun b => b = a ∨ b = mm ∨ b = l) Gb) Hb := CtL.mo (K := K) (G := G8) (H := H9) ⟨ct9, ct8.n0, ct8.ng⟩ gb
            have ez := bst_succ (n := sz.length) hi
            refine app_end eLb hus' (hN _ (cut (fun b => b = a ∨ b = mm ∨ b = l) Gb) _ (((g5.gg.trans g68.gg).trans gb.gg)) ((g09.trans gb).wrNo nL gLb) ⟨u', _, _, _, us ++ [vb], rfl, ?_, ?_, upd_same, gLb, ?_⟩)
            · rw [ez]
              exact ⟨ctb.at_.same fun b hb => upd_ne fun z => nLp (by rw [← z]; exact hb), ctb.n0, ctb.ng⟩
            · intro b hb
              have bL : b ≠ L := fun z => by
                rw [z, upd_same] at hb
                cases hb
              rw [upd_ne bL] at hb
              have h9 := gb.none hb
              have bl : b ≠ l := fun z => by
                rw [z, hl9] at h9
                cases h9
              have h8 : H8 b = none := (upd_ne bl).symm.trans h9
              exact tc4 b (g5.none (g6.none (g68.none h8)))
            · rw [ez]
              show All (((bst sz.length cs i).2 ++ [bx]).map (rBx K)) _ _
              rw [List.map_append]
              have pe : ∀ b o, (b = a ∨ b = mm ∨ b = l) → H9 b = some o → Gb b = some o := fun b o hb e => eb b o (by rw [put_in (P := fun b => b = a ∨ b = mm ∨ b = l) hb]; exact e)
              have ga := pe a _ (.inl rfl) ea9
              have gm := pe mm _ (.inr (.inl rfl)) ct9.hm
              have gl := pe l _ (.inr (.inr rfl)) hl9
              refine (hus.mo ((g5.gg.trans g68.gg).trans gb.gg)).snoc (bx_cut rb (fun b hb ys z => ?_) fun b hb C dx v r z => ?_)
              · rcases hb with e | e | e
                · rw [e, ga] at z; cases z
                · rw [e, gm] at z; cases z
                · rw [e, gl] at z; cases z
              · rcases hb with e | e | e
                · rw [e, ga] at z
                  injection z with z
                  injection z with _ _ z
                  injection z with z _
                  injection z with z _
                  revert z
                  decide
                · rw [e, gm] at z; cases z
                · rw [e, gl] at z; cases z
        | flush l => cases b5
        | fence => cases b5
      · have e5 := g5.ex _ _ eL4
        have ez := bst_succ (n := sz.length) hi
        refine hN _ G5 H5 g5.gg (g4.trans g5) ⟨u', _, _, _, us, rfl, ?_, fun b z => tc4 b (g5.none z), e5, g5.fr L (by rw [eL4]; exact Option.some_ne_none _) gL3, ?_⟩
        · rw [ez]
          exact ct4.mo g5
        · rw [ez]
          cases cmd with
          | store s => cases b5
          | flush l => exact hus.mo g5.gg
          | fence => exact hus.mo g5.gg
    · rintro σ' G3 H3 g3 e3 ⟨u, x, y, z, us, rfl, ct3, _, eL3, gL3, hus⟩
      rw [enumR_len, List.length_map] at hus
      have e4 : bst sz.length cs cs.length = cs.foldl boxStep (Cnt.init sz.length, [(zeros sz.length, zeros sz.length)]) := by
        unfold bst
        rw [List.take_length]
      rw [e4] at hus
      exact ⟨_, rfl, q _ _ _ (g3.fixNo nL gL3 eL3) ⟨L, us, rfl, upd_same, hus.mo (Ex.new gL3)⟩⟩
def sp_boxes (K : PySem.W.Frag) : Sp := Prom fun vs G R => ∃ (v : V) (sz : List Nat) (cs : List Cmd), vs = [v] ∧ (rProg K sz cs).p v G ∧ okProg sz cs ∧ R = rLst ((boxesOf sz.length cs).map (rBx K))
theorem sc_boxes : FnScope ["program"] ["program"] (defScope s_boxes) := ⟨rfl, rfl, rfl, by decide +kernel, rfl, by decide +kernel, by decide +kernel⟩
/- program=0; cells none; level 4 -/
theorem ok_boxes (T : Tx K mg) : Dk P w K mg base (He.ga K "boxes") 4 ["program"] (sp_boxes K) := by
  refine dk_of (d_boxes_at T) sc_boxes (fun _ _ _ _ _ _ us hl => match us, hl with | [_], _ => rfl) (fun vs H Q E h => ?_) (fun cdv A outer s H vs Q E hr h => ⟨_, (pss_one (ps_ret (pe_fn (ok_boxes_of T) (hr.mono (by decide)) (g_boxes_of T) (pa_cons (pe_fld (pv 0) rfl) (pa_cons (pe_fld (pv 0) rfl) pa_nil))))), ?_⟩)
  · obtain ⟨G, R, gh, ⟨v, sz, cs, rfl, _⟩, _⟩ := h
    rfl
  · obtain ⟨G, R, gh, ⟨v, sz, cs, rfl, hv, ⟨ok1, ok2, ok3⟩, rfl⟩, q⟩ := h
    refine st_ret (ev_call (R := rLst ((boxesOf sz.length cs).map (rBx K))) (ea_cons (ev_fld (R := rMem K sz) (c_Program T) (n_Program_memory T) (ev_var rfl hv) rfl) (ea_cons (ev_fld (R := rTup (cs.map (rCmd K))) (c_Program T) (n_Program_commands T) (ev_var rfl hv) rfl) ea_nil)) fun vs G1 e rs => ?_) (At.no gh) q
    obtain ⟨_, _, rfl, r1, r2⟩ := all2 rs
    exact ⟨_, _, sz, cs, rfl, r1, ok1, .inl r2, ok3, by omega, rfl⟩
end
end Ls


/-! LsW7 -/
namespace Ls
open PySem PySem.Spec PyProof.Rows L2
section
variable {F : Fm} {σ : L2.St} {G : Hp} {te : TE} {K : PySem.W.Frag} {wi : TI}
theorem zipW_map {α β : Type} (f : α → Rp) (g : β → Rp) : ∀ (xs : List α) (ys : List β), List.zipWith (fun R S => rTup [R, S]) (xs.map f) (ys.map g) = (xs.zip ys).map fun p => rTup [f p.1, g p.2]
  | [], _ => rfl
  | _ :: _, [] => rfl
  | x :: xs, y :: ys => by
    have ih := zipW_map f g xs ys
    rw [List.map_cons, List.map_cons, List.zipWith_cons_cons, ih, List.zip_cons_cons, List.map_cons]
theorem zip3_map {α β γ : Type} (f : α → Rp) (g : β → Rp) (h : γ → Rp) (xs : List α) (ys : List β) (zs : List γ) : zip3R (xs.map f) (ys.map g) (zs.map h) = (xs.zip (ys.zip zs)).map fun p => rTup [f p.1, g p.2.1, h p.2.2] := by
  unfold zip3R
  rw [List.zip_map, List.zip_map, List.map_map]
  rfl
/-- a comprehension with two, three names -/
theorem ev_lc2 {α : Type} {j l : Nat} {vs : List Nat} (xs : List α) (A B : α → Rp) (RB : α → Rp) (hI : EvI F wi σ G (xs.map fun x => rTup [A x, B x])) (hz : xs.length ≤ 1000000) (hw : ∀ x y, wipe (((wipe σ vs).set j (some x)).set l (some y)) vs = wipe σ vs)
    (hs : ∀ x ∈ xs, ∀ v w G1, Ex G G1 → (A x).p v G1 → (B x).p w G1 → Ev F te (((wipe σ vs).set j (some v)).set l (some w)) G1 (RB x)) : Ev F (tLc wi (gTup K 2 (gCons (gName j) (gCons (gName l) gNil))) tYes te vs) σ G (rLst (xs.map RB)) := by
  have h := ev_lc (F := F) (te := te) (g := gTup K 2 (gCons (gName j) (gCons (gName l) gNil))) (tt := tYes) (vs := vs) (σ := σ) (G := G) xs _ RB (fun _ => true) hI hz fun x hx v G1 H1 e a r Q q => g_two r a.gh fun y z hy hz => q _ (hw y z) et_yes fun _ => hs x hx y z G1 e hy hz
  rw [List.filter_eq_self.mpr (fun _ _ => rfl)] at h
  exact h
theorem ev_lc3 {α : Type} {j l m : Nat} {vs : List Nat} (xs : List α) (A B C : α → Rp) (RB : α → Rp) (hI : EvI F wi σ G (xs.map fun x => rTup [A x, B x, C x])) (hz : xs.length ≤ 1000000) (hw : ∀ x y z, wipe ((((wipe σ vs).set j (some x)).set l (some y)).set m (some z)) vs = wipe σ vs)
    (hs : ∀ x ∈ xs, ∀ v w u G1, Ex G G1 → (A x).p v G1 → (B x).p w G1 → (C x).p u G1 → Ev F te ((((wipe σ vs).set j (some v)).set l (some w)).set m (some u)) G1 (RB x)) : Ev F (tLc wi (gTup K 3 (gCons (gName j) (gCons (gName l) (gCons (gName m) gNil)))) tYes te vs) σ G (rLst (xs.map RB)) := by
  have h := ev_lc (F := F) (te := te) (g := gTup K 3 (gCons (gName j) (gCons (gName l) (gCons (gName m) gNil)))) (tt := tYes) (vs := vs) (σ := σ) (G := G) xs _ RB (fun _ => true) hI hz fun x hx v G1 H1 e a r Q q => g_three r a.gh fun y z w hy hz hw' => q _ (hw y z w) et_yes fun _ => hs x hx y z w G1 e hy hz hw'
  rw [List.filter_eq_self.mpr (fun _ _ => rfl)] at h
  exact h
end
/-! ### boxes -/
def okBx (b : Bx) : Prop := b.1.length = b.2.length ∧ b.1.length ≤ 6 ∧ ∀ p ∈ b.1.zip b.2, p.1 ≤ p.2 ∧ p.2 ≤ 1000
theorem wid_int {p : Nat × Nat} (h : p.1 ≤ p.2 ∧ p.2 ≤ 1000) : (p.2 : Int) - (p.1 : Int) + 1 = (wid p : Nat) ∧ 0 < wid p ∧ wid p ≤ 1001 := by
  unfold wid
  omega
theorem bsize_take {xs : List (Nat × Nat)} {i : Nat} {p : Nat × Nat} (h : xs[i]? = some p) {α : Type} {f : α → Nat × Nat → α} {a : α} : (xs.take (i + 1)).foldl f a = f ((xs.take i).foldl f a) p := by
  rw [List.take_add_one, h, List.foldl_append]
  rfl
theorem fold_take {β : Type} {xs : List β} {i : Nat} {p : β} (h : xs[i]? = some p) {α : Type} {f : α → β → α} {a : α} : (xs.take (i + 1)).foldl f a = f ((xs.take i).foldl f a) p := by
  rw [List.take_add_one, h, List.foldl_append]
  rfl
section
variable {P : Program} {w : World} {K : PySem.W.Frag} {mg : Str → Option Value} {base : Heap}
theorem ev_low {F : Fm} {σ : L2.St} {G : Hp} {te : TE} {b : Bx} (T : Tx K mg) (h : Ev F te σ G (rBx K b)) : Ev F (tFld K te "low") σ G (rTup (b.1.map isN)) := ev_fld (c_Box T) (n_Box_low T) h rfl
theorem ev_high {F : Fm} {σ : L2.St} {G : Hp} {te : TE} {b : Bx} (T : Tx K mg) (h : Ev F te σ G (rBx K b)) : Ev F (tFld K te "high") σ G (rTup (b.2.map isN)) := ev_fld (c_Box T) (n_Box_high T) h rfl
/-- high - low + 1 -/
theorem ev_wid {F : Fm} {σ : L2.St} {G : Hp} {i j : Nat} {x y : V} {p : Nat × Nat} (hi : σ[i]? = some (some x)) (hj : σ[j]? = some (some y)) (hx : (isN p.1).p x G) (hy : (isN p.2).p y G) (ok : p.1 ≤ p.2 ∧ p.2 ≤ 1000) :
    Ev F (tOp (rI0 fun i j => .int (i + j)) (tOp (rI0 fun i j => .int (i - j)) (tVar j) (tVar i)) (tC (.int 1))) σ G (isN (wid p)) := by
  have e := (wid_int ok).1
  refine ev_to (ev_I0 (ev_I0 (ev_var (R := isN p.2) hj hy) (ev_var (R := isN p.1) hi hx)) ev_cI) ?_
  show isV (.int ((p.2 : Int) - (p.1 : Int) + 1)) = isV (.int (wid p : Nat))
  rw [e]
def sp_Box_size (K : PySem.W.Frag) : Sp := Prom fun vs G R => ∃ (v : V) (b : Bx), vs = [v] ∧ (rBx K b).p v G ∧ okBx b ∧ R = isN (bxSize b)
theorem sc_Box_size : FnScope ["self", "found", "low", "high"] ["self"] (defScope s_Box_size) := ⟨rfl, rfl, rfl, by decide +kernel, rfl, by decide +kernel, by decide +kernel⟩
/- self=0 found=1 low=2 high=3; cells none; level 1 -/
theorem ok_Box_size (T : Tx K mg) : Dk P w K mg base (He.ma K (He.ga K "Box") "size") 1 ["self"] (sp_Box_size K) := by
  refine dk_of (d_Box_size_at T) sc_Box_size (fun _ _ _ _ _ _ us hl => match us, hl with | [_], _ => rfl) (fun vs H Q E h => ?_) (fun cdv A outer s H vs Q E hr h => ⟨_, (pss_cons (ps_set (i := 1) sc_Box_size.nd rfl (.inl rfl) pe_int)
      (pss_cons (ps_for PassesOwn.never rfl (RZ.pi_zipA (by rfl) (f_zip T) (pa_cons (pe_fld (pv 0) rfl) (pa_cons (pe_fld (pv 0) rfl) pa_nil))) (pg_tup rfl (pgs_cons (pg_name (i := 2) sc_Box_size.nd rfl (.inl rfl)) (pgs_cons (pg_name (i := 3) sc_Box_size.nd rfl (.inl rfl)) pgs_nil))) (pss_one (ps_set (i := 1) sc_Box_size.nd rfl (.inl rfl) (pe_op op_mul (pv 1) (pe_op op_add (pe_op op_sub (pv 3) (pv 2)) pe_int)))))
      (pss_one (ps_ret (pv 1))))), ?_⟩)
  · obtain ⟨G, R, gh, ⟨v, b, rfl, _⟩, _⟩ := h
    rfl
  · obtain ⟨G, R, gh, ⟨v, b, rfl, hv, ⟨ok1, ok2, ok3⟩, rfl⟩, q⟩ := h
    refine st_asgQ ?_
    refine st_forB (K := K) (F := Fm.no) (G := G) (Ys := (b.1.zip b.2).map fun p => rTup [isN p.1, isN p.2]) (Gr.refl (At.no gh)) (ei_to (ei_zipT (ea_cons (ev_low T (ev_var rfl hv)) (ea_cons (ev_high T (ev_var rfl hv)) ea_nil))) (zipW_map _ _ _ _)) (fun i σ G' H' => ∃ x y, σ = [some v, some (.int (((b.1.zip b.2).take i).foldl (fun f p => f * wid p) 1 : Nat)), x, y]) (fun _ _ _ => ⟨_, _, rfl⟩) (fun i σ G' H' G1 H1 p _ _ => p) ?_ ?_
    · rintro i Y y σ' G3 H3 N hN hY g3 e3 hy ⟨x1, x2, rfl⟩
      obtain ⟨p, hi, hp, rfl⟩ := get_map hY
      have okp := ok3 p hp
      refine g_two hy g3.gh fun vl vh hl hh => ?_
      refine st_asg (ev_I (g := fun i j => .int (i * j)) (ev_var (i := 1) (R := isN _) rfl rfl) (ev_wid (i := 2) (j := 3) (p := p) rfl rfl hl hh okp) (.inr ?_)) g3.at_ fun v4 G4 H4 g4 rv => hN _ _ _ g4.gg (g3.trans g4) ⟨some vl, some vh, ?_⟩
      · have := wid_int okp
        omega
      · cases rv
        rw [fold_take hi, Int.natCast_mul]
        rfl
    · rintro σ' G3 H3 g3 e3 ⟨x1, x2, rfl⟩
      rw [List.length_map, List.take_length]
      exact ⟨_, rfl, q _ _ _ g3 rfl⟩
def sp_Box_contains (K : PySem.W.Frag) : Sp := Prom fun vs G R => ∃ (v u : V) (b : Bx) (i : Img), vs = [v, u] ∧ (rBx K b).p v G ∧ okBx b ∧ (rImg i).p u G ∧ i.length ≤ 1000 ∧ R = isB (bxHas b i)
theorem sc_Box_contains : FnScope ["self", "image", "low", "number", "high"] ["self", "image"] (defScope s_Box_contains) := ⟨rfl, rfl, rfl, by decide +kernel, rfl, by decide +kernel, by decide +kernel⟩
/- self=0 image=1 low=2 number=3 high=4; cells none; level 1 -/
theorem ok_Box_contains (T : Tx K mg) : Dk P w K mg base (He.ma K (He.ga K "Box") "__contains__") 1 ["self", "image"] (sp_Box_contains K) := by
  refine dk_of (d_Box_contains_at T) sc_Box_contains (fun _ _ _ _ _ _ us hl => match us, hl with | [_, _], _ => rfl) (fun vs H Q E h => ?_) (fun cdv A outer s H vs Q E hr h => ⟨_, (pss_cons (ps_if (pt_cmpR op_ne (pe_callB call_len_seq (by rfl) (f_len T) bt_len (pa_cons (pv 1) pa_nil)) (pe_callB call_len_seq (by rfl) (f_len T) bt_len (pa_cons (pe_fld (pv 0) rfl) pa_nil)) (nomark _)) (pss_one (ps_ret pe_bl)) pss_nil)
      (pss_one (ps_ret (pe_callB (cr_all rfl) (by rfl) (f_all T) bt_all (pa_cons (pe_lc (own := [("low", 2), ("number", 3), ("high", 4)]) (g := gTup K 3 (gCons (gName 2) (gCons (gName 3) (gCons (gName 4) gNil)))) (tt := tYes) rfl sc_Box_contains.nd (pi_zip3 (by rfl) (f_zip T) (pa_cons (pe_fld (pv 0) rfl) (pa_cons (pv 1) (pa_cons (pe_fld (pv 0) rfl) pa_nil)))) (blkOk_by (by kernel_rfl)) (fun _ _ _ _ _ => (pg_tup rfl (pgs_cons (pg_name (i := 2) sc_Box_contains.nd rfl (.inl rfl)) (pgs_cons (pg_name (i := 3) sc_Box_contains.nd rfl (.inl rfl)) (pgs_cons (pg_name (i := 4) sc_Box_contains.nd rfl (.inl rfl)) pgs_nil))))) (fun _ _ _ _ _ => pts_nil) (fun _ _ _ _ _ => (pe_chain op_le op_le (pv 2) (pv 3) (pv 4)))) pa_nil))))), ?_⟩)
  · obtain ⟨G, R, gh, ⟨v, u, b, i, rfl, _⟩, _⟩ := h
    rfl
  · obtain ⟨G, R, gh, ⟨v, u, b, i, rfl, hv, ⟨ok1, ok2, ok3⟩, hu, hi, rfl⟩, q⟩ := h
    refine st_if (B := (· = !decide (i.length = b.1.length))) (et_test (ev_to (ev_ne (ev_lenT (ev_var (i := 1) rfl hu)) (ev_lenT (ev_low T (ev_var (i := 0) rfl hv))) rfl) ?_)) (At.no gh) (fun G1 H1 g1 e => ?_) fun G1 H1 g1 e => ?_
    · rw [List.length_map, List.length_map]
      congr 2
      refine decide_eq_decide.mpr ⟨fun z => ?_, fun z => by rw [z]⟩
      injection z with z
      omega
    · refine q _ _ _ g1 ?_
      have e' : decide (i.length = b.1.length) = false := by simpa using e.symm
      unfold bxHas
      rw [e']
      rfl
    · have e' : decide (i.length = b.1.length) = true := by simpa using e.symm
      have hv1 := (rBx K b).mo _ _ _ g1.gg hv
      have hu1 := (rImg i).mo _ _ _ g1.gg hu
      have hz : (b.1.zip (i.zip b.2)).length ≤ 1000000 := by
        rw [List.length_zip, List.length_zip]
        omega
      refine st_ret (ev_to (ev_all (bs := (b.1.zip (i.zip b.2)).map fun p => decide ((p.1 : Int) ≤ p.2.1) && decide ((p.2.1 : Int) ≤ p.2.2)) (ev_to (ev_lc3 (K := K) (F := Fm.no) (j := 2) (l := 3) (m := 4) (vs := [2, 3, 4]) (σ := [some v, some u, none, none, none]) (b.1.zip (i.zip b.2)) (fun p => isN p.1) (fun p => isN p.2.1) (fun p => isN p.2.2) (fun p => isB (decide ((p.1 : Int) ≤ p.2.1) && decide ((p.2.1 : Int) ≤ p.2.2)))
        (ei_to (ei_zip3 (ea_cons (ev_low T (ev_var (i := 0) rfl hv1)) (ea_cons (ev_var (i := 1) rfl hu1) (ea_cons (ev_high T (ev_var (i := 0) rfl hv1)) ea_nil)))) (zip3_map _ _ _ _ _ _)) hz (fun _ _ _ => rfl) fun p _ x y z G2 e2 hx hy hz => ev_chain (ev_var (R := isN p.1) rfl hx) (ev_var (R := isN p.2.1) rfl hy) fun _ => ev_var (R := isN p.2.2) rfl hz) (by rw [List.map_map]; rfl))) ?_) g1.at_ fun v4 G4 H4 g4 rv => q _ _ _ (g1.trans g4) rv
      unfold bxHas
      rw [e', List.all_map]
      congr 1
      rw [Bool.true_and]
      congr 1
      funext p
      rw [Bool.eq_iff_iff]
      simp only [Function.comp, id, Bool.and_eq_true, decide_eq_true_eq]
      omega
def atAt (b : Bx) (place i : Nat) : List Nat × Nat := ((b.1.zip b.2).reverse.take i).foldl atStep ([], place)
theorem isN_rev (xs : List Nat) : (xs.map isN).reverse = xs.reverse.map isN := (List.map_reverse ..).symm
def sp_Box_image_at (K : PySem.W.Frag) : Sp := Prom fun vs G R => ∃ (v : V) (b : Bx) (n : Nat), vs = [v, .int n] ∧ (rBx K b).p v G ∧ okBx b ∧ R = rImg (bxAt b n)
theorem sc_Box_image_at : FnScope ["self", "place", "found", "low", "high"] ["self", "place"] (defScope s_Box_image_at) := ⟨rfl, rfl, rfl, by decide +kernel, rfl, by decide +kernel, by decide +kernel⟩
/- self=0 place=1 found=2 low=3 high=4; cells none; level 1 -/
theorem ok_Box_image_at (T : Tx K mg) : Dk P w K mg base (He.ma K (He.ga K "Box") "image_at") 1 ["self", "place"] (sp_Box_image_at K) := by
  refine dk_of (d_Box_image_at_at T) sc_Box_image_at (fun _ _ _ _ _ _ us hl => match us, hl with | [_, _], _ => rfl) (fun vs H Q E h => ?_) (fun cdv A outer s H vs Q E hr h => ⟨_, (pss_cons (ps_set (i := 2) sc_Box_image_at.nd rfl (.inl rfl) (pe_lst pa_nil))
      (pss_cons (ps_for PassesOwn.never rfl (pi_list (pe_revL (pe_zipL rfl (by rfl) (f_list T) (by rfl) (f_zip T) (pa_cons (pe_fld (pv 0) rfl) (pa_cons (pe_fld (pv 0) rfl) pa_nil))))) (pg_tup rfl (pgs_cons (pg_name (i := 3) sc_Box_image_at.nd rfl (.inl rfl)) (pgs_cons (pg_name (i := 4) sc_Box_image_at.nd rfl (.inl rfl)) pgs_nil))) (pss_cons (ps_expr (pe_bm PySem.F.plainAttrs_list PySem.F.slot_list_append PySem.F.type_list_append mt_append (pv 2) (pa_cons (pe_op op_add (pv 3) (pe_op op_mod (pv 1) (pe_op op_add (pe_op op_sub (pv 4) (pv 3)) pe_int))) pa_nil)))
      (pss_one (ps_set (i := 1) sc_Box_image_at.nd rfl (.inl rfl) (pe_op op_fdiv (pv 1) (pe_op op_add (pe_op op_sub (pv 4) (pv 3)) pe_int))))))
      (pss_one (ps_ret (pe_callTy call_tuple_of (by rfl) (f_tuple T) bt_tuple (pa_cons (pe_revL (pv 2)) pa_nil)))))), ?_⟩)
  · obtain ⟨G, R, gh, ⟨v, b, n, rfl, _⟩, _⟩ := h
    rfl
  · obtain ⟨G, R, gh, ⟨v, b, n, rfl, hv, ⟨ok1, ok2, ok3⟩, rfl⟩, q⟩ := h
    refine st_new (Rs := []) ea_nil (by simp) (At.no gh) fun L us0 G1 H1 g1 nL gL _ eL hus0 => ?_
    cases hus0
    have hv1 := (rBx K b).mo _ _ _ g1.gg hv
    refine st_forB (K := K) (F := Fm.no) (Ys := (b.1.zip b.2).reverse.map fun p => rTup [isN p.1, isN p.2]) g1 (ei_to (ei_list (ev_revL (ev_zipL (ea_cons (ev_low T (ev_var (i := 0) rfl hv1)) (ea_cons (ev_high T (ev_var (i := 0) rfl hv1)) ea_nil)) (by rw [List.length_map, List.length_map]; exact ok1) (by rw [List.length_map]; omega)))) (by rw [zipW_map, List.map_reverse])) (fun i σ G' H' => ∃ x y, σ = [some v, some (.int ((atAt b n i).2 : Nat)), some (.ref L), x, y] ∧ H' L = some (cV (atAt b n i).1) ∧ G' L = none ∧ (atAt b n i).1.length = i ∧ i ≤ 6)
      (fun G' H' g => ⟨_, _, rfl, g.ex _ _ eL, g.fr L (by rw [eL]; exact Option.some_ne_none _) gL, rfl, by decide⟩) (fun i σ G' H' G1 H1 ⟨x, y, e, p, p2, p3⟩ _ g => ⟨x, y, e, g.ex _ _ p, g.fr L (by rw [p]; exact Option.some_ne_none _) p2, p3⟩) ?_ ?_
    · rintro i Y y σ' G3 H3 N hN hY g3 e3 hy ⟨x1, x2, rfl, eL3, gL3, hlen, h6⟩
      obtain ⟨p, hi, hp, rfl⟩ := get_map hY
      have okp := ok3 p (List.mem_reverse.mp hp)
      have hwp := wid_int okp
      have hlt : i < 6 := by
        have := (List.getElem?_eq_some_iff.mp hi).1
        rw [List.length_reverse, List.length_zip] at this
        omega
      have es : atAt b n (i + 1) = atStep (atAt b n i) p := fold_take hi
      refine g_two hy g3.gh fun vl vh hl hh => ?_
      refine st_appR (i := 2) (p := L) rfl eL3 ?_
      refine ev_I0 (g := fun i j => .int (i + j)) (F := Fm.no) (ev_var (i := 3) (R := isN p.1) rfl hl) (ev_I (g := fun i j => .int (i % j)) (i := ((atAt b n i).2 : Nat)) (j := (wid p : Nat)) (ev_var (i := 1) (R := isN _) rfl rfl) (ev_wid (i := 3) (j := 4) (p := p) rfl rfl hl hh okp) ?_) G3 H3 (Ex.refl _) g3.at_ _ fun v4 G4 H4 g4 rv => ?_
      · omega
      cases rv
      have eL4 := g4.ex _ _ eL3
      have gL4 := g4.fr L (by rw [eL3]; exact Option.some_ne_none _) gL3
      refine app_end eL4 (by rw [List.length_map]; omega) ?_
      have gx : Gr Fm.no G H G4 (upd H4 L (.lst (((atAt b n i).1.map fun n : Nat => V.int n) ++ [.int ((p.1 : Nat) + ((atAt b n i).2 : Nat) % (wid p : Nat) : Int)]))) := (g3.trans g4).wrNo nL gL4
      refine st_asg (ev_I (g := fun i j => .int (i / j)) (i := ((atAt b n i).2 : Nat)) (j := (wid p : Nat)) (ev_var (i := 1) (R := isN _) rfl rfl) (ev_wid (i := 3) (j := 4) (p := p) rfl rfl ((isN p.1).mo _ _ _ g4.gg hl) ((isN p.2).mo _ _ _ g4.gg hh) okp) ?_) gx.at_ fun v5 G5 H5 g5 rv => ?_
      · show (0 : Int) < _ ∧ _ < _
        omega
      cases rv
      refine hN _ G5 H5 (g4.gg.trans g5.gg) (gx.trans g5) ⟨some vl, some vh, ?_, ?_, g5.fr L (by rw [upd_same]; exact Option.some_ne_none _) gL4, ?_, hlt⟩
      · rw [es]
        rfl
      · rw [es, g5.ex _ _ upd_same]
        show _ = some (HO.lst (((atAt b n i).1 ++ [p.1 + (atAt b n i).2 % wid p]).map _))
        rw [List.map_append]
        rfl
      · rw [es]
        show ((atAt b n i).1 ++ [_]).length = _
        rw [List.length_append, hlen]
        rfl
    · rintro σ' G3 H3 g3 e3 ⟨x1, x2, rfl, eL3, gL3, hlen, _⟩
      rw [List.length_map] at eL3
      have gf := g3.fixNo nL gL3 eL3
      refine st_ret (ev_to (ev_tupleL (ev_revL (ev_var (i := 2) (R := rLst ((atAt b n (b.1.zip b.2).reverse.length).1.map isN)) rfl ⟨L, _, rfl, upd_same, all_of _ _⟩))) ?_) gf.at_ fun v4 G4 H4 g4 rv => q _ _ _ (gf.trans g4) rv
      rw [isN_rev]
      unfold atAt
      rw [List.take_length]
      rfl
def sp_Box_place_of (K : PySem.W.Frag) : Sp := Prom fun vs G R => ∃ (v u : V) (b : Bx) (i : Img), vs = [v, u] ∧ (rBx K b).p v G ∧ okBx b ∧ (rImg i).p u G ∧ bxHas b i = true ∧ R = isN (bxPlace b i)
theorem sc_Box_place_of : FnScope ["self", "image", "found", "low", "number", "high"] ["self", "image"] (defScope s_Box_place_of) := ⟨rfl, rfl, rfl, by decide +kernel, rfl, by decide +kernel, by decide +kernel⟩
/- self=0 image=1 found=2 low=3 number=4 high=5; cells none; level 1 -/
theorem ok_Box_place_of (T : Tx K mg) : Dk P w K mg base (He.ma K (He.ga K "Box") "place_of") 1 ["self", "image"] (sp_Box_place_of K) := by
  refine dk_of (d_Box_place_of_at T) sc_Box_place_of (fun _ _ _ _ _ _ us hl => match us, hl with | [_, _], _ => rfl) (fun vs H Q E h => ?_) (fun cdv A outer s H vs Q E hr h => ⟨_, (pss_cons (ps_set (i := 2) sc_Box_place_of.nd rfl (.inl rfl) pe_int)
      (pss_cons (ps_for PassesOwn.never rfl (pi_zip3 (by rfl) (f_zip T) (pa_cons (pe_fld (pv 0) rfl) (pa_cons (pv 1) (pa_cons (pe_fld (pv 0) rfl) pa_nil)))) (pg_tup rfl (pgs_cons (pg_name (i := 3) sc_Box_place_of.nd rfl (.inl rfl)) (pgs_cons (pg_name (i := 4) sc_Box_place_of.nd rfl (.inl rfl)) (pgs_cons (pg_name (i := 5) sc_Box_place_of.nd rfl (.inl rfl)) pgs_nil)))) (pss_one (ps_set (i := 2) sc_Box_place_of.nd rfl (.inl rfl) (pe_op op_sub (pe_op op_add (pe_op op_mul (pv 2) (pe_op op_add (pe_op op_sub (pv 5) (pv 3)) pe_int)) (pv 4)) (pv 3)))))
      (pss_one (ps_ret (pv 2))))), ?_⟩)
  · obtain ⟨G, R, gh, ⟨v, u, b, i, rfl, _⟩, _⟩ := h
    rfl
  · obtain ⟨G, R, gh, ⟨v, u, b, i, rfl, hv, ⟨ok1, ok2, ok3⟩, hu, hb, rfl⟩, q⟩ := h
    refine st_asgQ ?_
    refine st_forB (K := K) (F := Fm.no) (G := G) (Ys := (b.1.zip (i.zip b.2)).map fun p => rTup [isN p.1, isN p.2.1, isN p.2.2]) (Gr.refl (At.no gh)) (ei_to (ei_zip3 (ea_cons (ev_low T (ev_var (i := 0) rfl hv)) (ea_cons (ev_var (i := 1) rfl hu) (ea_cons (ev_high T (ev_var (i := 0) rfl hv)) ea_nil)))) (zip3_map _ _ _ _ _ _)) (fun j σ G' H' => ∃ x y z, σ = [some v, some u, some (.int (((b.1.zip (i.zip b.2)).take j).foldl ofStep 0 : Nat)), x, y, z]) (fun _ _ _ => ⟨_, _, _, rfl⟩) (fun i σ G' H' G1 H1 p _ _ => p) ?_ ?_
    · rintro j Y y σ' G3 H3 N hN hY g3 e3 hy ⟨x1, x2, x3, rfl⟩
      obtain ⟨p, hi, hp, rfl⟩ := get_map hY
      have hr : p.1 ≤ p.2.1 ∧ p.2.1 ≤ p.2.2 := by
        unfold bxHas at hb
        rw [Bool.and_eq_true, List.all_eq_true] at hb
        exact of_decide_eq_true (hb.2 p hp)
      have okp : p.1 ≤ p.2.2 ∧ p.2.2 ≤ 1000 := by
        obtain ⟨k, hk⟩ := List.mem_iff_getElem?.mp hp
        obtain ⟨q1, q23⟩ := List.getElem?_zip_eq_some.mp hk
        obtain ⟨q2, q3⟩ := List.getElem?_zip_eq_some.mp q23
        exact ok3 (p.1, p.2.2) (List.mem_of_getElem? (List.getElem?_zip_eq_some.mpr ⟨q1, q3⟩))
      have hwp := wid_int (p := (p.1, p.2.2)) okp
      refine g_three hy g3.gh fun vl vm vh hl hm hh => ?_
      refine st_asg (ev_I0 (g := fun i j => .int (i - j)) (ev_I0 (g := fun i j => .int (i + j)) (ev_I (g := fun i j => .int (i * j)) (ev_var (i := 2) (R := isN _) rfl rfl) (ev_wid (i := 3) (j := 5) (p := (p.1, p.2.2)) rfl rfl hl hh okp) (.inr ?_)) (ev_var (i := 4) (R := isN p.2.1) rfl hm)) (ev_var (i := 3) (R := isN p.1) rfl hl)) g3.at_ fun v4 G4 H4 g4 rv => hN _ _ _ g4.gg (g3.trans g4) ⟨some vl, some vm, some vh, ?_⟩
      · omega
      · cases rv
        rw [fold_take hi]
        have e : ((ofStep (((b.1.zip (i.zip b.2)).take j).foldl ofStep 0) p : Nat) : Int) = (((b.1.zip (i.zip b.2)).take j).foldl ofStep 0 : Nat) * (wid (p.1, p.2.2) : Nat) + (p.2.1 : Nat) - (p.1 : Nat) := by
          unfold ofStep
          rw [Int.ofNat_sub (by omega), Int.natCast_add, Int.natCast_mul]
        rw [e]
        rfl
    · rintro σ' G3 H3 g3 e3 ⟨x1, x2, x3, rfl⟩
      rw [List.length_map, List.take_length]
      exact ⟨_, rfl, q _ _ _ g3 rfl⟩
end
end Ls


/-! LsW8 -/
namespace Ls
open PySem PySem.Spec PyProof.Rows L2
theorem zipIdx_map' {α β : Type} (f : α → β) (xs : List α) : (xs.map f).zipIdx = xs.zipIdx.map fun p => (f p.1, p.2) := by
  rw [List.zipIdx_map]
  rfl
theorem enumR_map {α : Type} (f : α → Rp) (xs : List α) : enumR (xs.map f) = xs.zipIdx.map fun p => rTup [isN p.2, f p.1] := by
  unfold enumR
  rw [zipIdx_map', List.map_map]
  rfl
theorem mem_zipIdx_get {α : Type} {xs : List α} {p : α × Nat} (h : p ∈ xs.zipIdx) : xs[p.2]? = some p.1 := by
  obtain ⟨k, hk⟩ := List.mem_iff_getElem?.mp h
  rw [List.getElem?_zipIdx] at hk
  cases q : xs[k]? with
  | none =>
    rw [q] at hk
    cases hk
  | some x =>
    rw [q] at hk
    have e : (x, 0 + k) = p := Option.some.inj hk
    rw [← e, Nat.zero_add]
    exact q
def inMade (n : Nat) (cs : List Cmd) (i : Img) : Prop := i.length = (madeOf n cs).length ∧ ∀ p ∈ i.zip (madeOf n cs), p.1 ≤ p.2
def okBs (bs : List Bx) : Prop := ∀ b ∈ bs, okBx b
theorem sum_nat : ∀ ns : List Nat, (ns.map fun n : Nat => (n : Int)).sum = (ns.sum : Nat)
  | [] => rfl
  | n :: ns => by
    rw [List.map_cons, List.sum_cons, List.sum_cons, sum_nat ns, Int.natCast_add]
section
variable {P : Program} {w : World} {K : PySem.W.Frag} {mg : Str → Option Value} {base : Heap}
def sp_check_image (K : PySem.W.Frag) : Sp := Prom fun vs G R => ∃ (v u : V) (sz : List Nat) (cs : List Cmd) (i : Img), vs = [v, u] ∧ (rProg K sz cs).p v G ∧ okProg sz cs ∧ (rImg i).p u G ∧ inMade sz.length cs i ∧ R = isV .non
theorem sc_check_image : FnScope ["program", "image", "most", "number", "top"] ["program", "image"] (defScope s_check_image) := ⟨rfl, rfl, rfl, by decide +kernel, rfl, by decide +kernel, by decide +kernel⟩
/- program=0 image=1 most=2 number=3 top=4; cells none; level 5 -/
theorem ok_check_image (T : Tx K mg) : Dk P w K mg base (He.ga K "check_image") 5 ["program", "image"] (sp_check_image K) := by
  refine dk_of (d_check_image_at T) sc_check_image (fun _ _ _ _ _ _ us hl => match us, hl with | [_, _], _ => rfl) (fun vs H Q E h => ?_) (fun cdv A outer s H vs Q E hr h => ⟨_, (pss_cons (ps_set (i := 2) sc_check_image.nd rfl (.inl rfl) (pe_fn (ok_made T) (hr.mono (by decide)) (g_made T) (pa_cons (pv 0) (pa_cons (pe_callB call_len_seq (by rfl) (f_len T) bt_len (pa_cons (pe_fld (pv 0) rfl) pa_nil)) pa_nil))))
      (pss_one (ps_if (PW.pt (pw_or (pt_cmpR op_ne (pe_callB call_len_seq (by rfl) (f_len T) bt_len (pa_cons (pv 1) pa_nil)) (pe_callB call_len_seq (by rfl) (f_len T) bt_len (pa_cons (pv 2) pa_nil)) (nomark _)) (pw_or1 (pt_not (pt_val (pe_callB (cr_all rfl) (by rfl) (f_all T) bt_all (pa_cons (pe_lc (own := [("number", 3), ("top", 4)]) (g := gTup K 2 (gCons (gName 3) (gCons (gName 4) gNil))) (tt := tYes) rfl sc_check_image.nd (RZ.pi_zipA (by rfl) (f_zip T) (pa_cons (pv 1) (pa_cons (pv 2) pa_nil))) (blkOk_by (by kernel_rfl)) (fun _ _ _ _ _ => (pg_tup rfl (pgs_cons (pg_name (i := 3) sc_check_image.nd rfl (.inl rfl)) (pgs_cons (pg_name (i := 4) sc_check_image.nd rfl (.inl rfl)) pgs_nil)))) (fun _ _ _ _ _ => pts_nil) (fun _ _ _ _ _ => (pe_chain op_le op_le pe_int (pv 3) (pv 4)))) pa_nil))))))) (pss_one ps_never) pss_nil))), ?_⟩)
  · obtain ⟨G, R, gh, ⟨v, u, sz, cs, i, rfl, _⟩, _⟩ := h
    rfl
  · obtain ⟨G, R, gh, ⟨v, u, sz, cs, i, rfl, hv, okp, hu, ⟨im1, im2⟩, rfl⟩, q⟩ := h
    have hlc : Ev Fm.no (tCB (fun xs H Q => ∃ p ys, xs = [.ref p] ∧ (SqL K H p ys ∨ SqT K H p ys) ∧ Q (.int ys.length) H) (tCons (tFld K (tVar 0) "commands") tNil)) (start ["program", "image", "most", "number", "top"] [v, u]) G (isN cs.length) := ev_to (ev_lenT (ev_fld (R := rTup (cs.map (rCmd K))) (c_Program T) (n_Program_commands T) (ev_var rfl hv) rfl)) (by rw [List.length_map])
    refine st_asg (ev_call (R := rImg (madeOf sz.length cs)) (ea_cons (ev_var (i := 0) rfl hv) (ea_cons hlc ea_nil)) fun vs G1 e rs => ?_) (At.no gh) fun m G1 H1 g1 hm => ?_
    · obtain ⟨_, _, rfl, r1, rfl⟩ := all2 rs
      exact ⟨_, sz, cs, rfl, r1, okp, rfl⟩
    have hu1 := (rImg i).mo _ _ _ g1.gg hu
    have hlen : i.length ≤ 1000 := by
      rw [im1]
      have h1 := (cntN_at (n := sz.length) cs).1
      have h2 := okp.1.2.1
      unfold madeOf cntOf
      omega
    refine st_if (B := (· = false)) (et_or (a := false) (b := false) (et_test (ev_to (ev_ne (ev_lenT (ev_var (i := 1) rfl hu1)) (ev_lenT (ev_var (i := 2) rfl hm)) rfl) ?_)) fun _ => ?_) g1.at_ (fun G2 H2 g2 z => nomatch z) fun G2 H2 g2 _ => q _ _ _ (g1.trans g2) rfl
    · rw [List.length_map, List.length_map, im1, decide_eq_true rfl]
      rfl
    · refine (et_not (et_B (ev_to (ev_all (bs := (i.zip (madeOf sz.length cs)).map fun p => decide ((0 : Int) ≤ p.1) && decide ((p.1 : Int) ≤ p.2)) (ev_to (ev_lc2 (K := K) (F := Fm.no) (j := 3) (l := 4) (vs := [3, 4]) (σ := [some v, some u, some m, none, none]) (i.zip (madeOf sz.length cs)) (fun p => isN p.1) (fun p => isN p.2) (fun p => isB (decide ((0 : Int) ≤ p.1) && decide ((p.1 : Int) ≤ p.2)))
        (ei_to (ei_zipT (ea_cons (ev_var (i := 1) rfl hu1) (ea_cons (ev_var (i := 2) rfl hm) ea_nil))) (zipW_map _ _ _ _)) (by rw [List.length_zip]; omega) (fun _ _ => rfl) fun p _ x y G2 e2 hx hy => ev_chain ev_cI (ev_var (R := isN p.1) rfl hx) fun _ => ev_var (R := isN p.2) rfl hy) (by rw [List.map_map]; rfl))) (S := isB true) ?_))).to rfl
      rw [List.all_map]
      congr 1
      rw [List.all_eq_true]
      intro p hp
      have := im2 p hp
      simp only [Function.comp, id, Bool.and_eq_true, decide_eq_true_eq]
      omega
def sp_count (K : PySem.W.Frag) : Sp := Prom fun vs G R => ∃ (v : V) (sz : List Nat) (cs : List Cmd), vs = [v] ∧ (rProg K sz cs).p v G ∧ okProg sz cs ∧ okBs (boxesOf sz.length cs) ∧ R = isN (countB (boxesOf sz.length cs))
theorem boxesOf_len (n : Nat) (cs : List Cmd) : (boxesOf n cs).length ≤ cs.length + 1 := by
  have h := (bst_cnt n cs cs.length (Nat.le_refl _)).2
  unfold bst at h
  rw [List.take_length] at h
  exact h
theorem ev_size {F : Fm} {σ : L2.St} {G : Hp} {i : Nat} {b : Bx} {v : V} (hi : σ[i]? = some (some v)) (h : (rBx K b).p v G) (ok : okBx b) : Ev F (tMeth (He.ga K "Box") "size" (sp_Box_size K) [] E0 (tVar i) tNil) σ G (isN (bxSize b)) :=
  ev_meth (ev_var hi h) rfl ea_nil fun y vs G1 e r rs => by
    cases rs
    exact ⟨y, b, rfl, r, ok, rfl⟩
theorem ev_boxes {F : Fm} {σ : L2.St} {G : Hp} {i : Nat} {sz : List Nat} {cs : List Cmd} {v : V} (hi : σ[i]? = some (some v)) (h : (rProg K sz cs).p v G) (ok : okProg sz cs) : Ev F (tCall (sp_boxes K) [] E0 (tCons (tVar i) tNil)) σ G (rLst ((boxesOf sz.length cs).map (rBx K))) :=
  ev_call (ea_cons (ev_var hi h) ea_nil) fun vs G1 e rs => by
    obtain ⟨_, rfl, r⟩ := all1 rs
    exact ⟨_, sz, cs, rfl, r, ok, rfl⟩
theorem sc_count : FnScope ["program", "box"] ["program"] (defScope s_count) := ⟨rfl, rfl, rfl, by decide +kernel, rfl, by decide +kernel, by decide +kernel⟩
/- program=0 box=1; cells none; level 5 -/
theorem ok_count (T : Tx K mg) : Dk P w K mg base (He.ga K "count") 5 ["program"] (sp_count K) := by
  refine dk_of (d_count_at T) sc_count (fun _ _ _ _ _ _ us hl => match us, hl with | [_], _ => rfl) (fun vs H Q E h => ?_) (fun cdv A outer s H vs Q E hr h => ⟨_, (pss_one (ps_ret (pe_callB (cr_sum rfl) (by rfl) (f_sum T) bt_sum (pa_cons (pe_lc (own := [("box", 1)]) (g := gName 1) (tt := tYes) rfl sc_count.nd (pi_list (pe_fn (ok_boxes T) (hr.mono (by decide)) (g_boxes T) (pa_cons (pv 0) pa_nil))) (blkOk_by (by kernel_rfl)) (fun _ _ _ _ _ => (pg_name (i := 1) sc_count.nd rfl (.inl rfl))) (fun _ _ _ _ _ => pts_nil) (fun _ _ _ _ _ => (pe_mth0 (pv 1) (c_Box T) (m_Box_size T) (ok_Box_size T) (hr.mono (by decide))))) pa_nil)))), ?_⟩)
  · obtain ⟨G, R, gh, ⟨v, sz, cs, rfl, _⟩, _⟩ := h
    rfl
  · obtain ⟨G, R, gh, ⟨v, sz, cs, rfl, hv, okp, okb, rfl⟩, q⟩ := h
    refine st_ret (ev_to (ev_sum (ns := (boxesOf sz.length cs).map fun b => ((bxSize b : Nat) : Int)) (ev_to (ev_lcM (F := Fm.no) (j := 1) (vs := [1]) (σ := [some v, none]) (boxesOf sz.length cs) (rBx K) (fun b => isN (bxSize b)) (ei_list (ev_boxes rfl hv okp)) (by have := boxesOf_len sz.length cs; have := okp.2.1; omega) (fun _ => rfl) fun b hb x G1 e r => ev_size rfl r (okb b hb)) (by rw [List.map_map]; rfl))) ?_) (At.no gh) q
    have e := sum_nat ((boxesOf sz.length cs).map bxSize)
    rw [List.map_map] at e
    exact congrArg isI e
def sp_image_at (K : PySem.W.Frag) : Sp := Prom fun vs G R => ∃ (v : V) (n : Nat) (sz : List Nat) (cs : List Cmd) (i : Img), vs = [v, .int n] ∧ (rProg K sz cs).p v G ∧ okProg sz cs ∧ okBs (boxesOf sz.length cs) ∧ imageB (boxesOf sz.length cs) n = some i ∧ R = rImg i
theorem sc_image_at : FnScope ["program", "place", "left", "box"] ["program", "place"] (defScope s_image_at) := ⟨rfl, rfl, rfl, by decide +kernel, rfl, by decide +kernel, by decide +kernel⟩
/- program=0 place=1 left=2 box=3; cells none; level 5 -/
theorem ok_image_at (T : Tx K mg) : Dk P w K mg base (He.ga K "image_at") 5 ["program", "place"] (sp_image_at K) := by
  refine dk_of (d_image_at_at T) sc_image_at (fun _ _ _ _ _ _ us hl => match us, hl with | [_, _], _ => rfl) (fun vs H Q E h => ?_) (fun cdv A outer s H vs Q E hr h => ⟨_, (pss_cons (ps_set (i := 2) sc_image_at.nd rfl (.inl rfl) (pv 1))
      (pss_cons (ps_for PassesOwn.never rfl (pi_list (pe_fn (ok_boxes T) (hr.mono (by decide)) (g_boxes T) (pa_cons (pv 0) pa_nil))) (pg_name (i := 3) sc_image_at.nd rfl (.inl rfl)) (pss_cons (ps_if (pt_chain op_le op_lt pe_int (pv 2) (pe_mth0 (pv 3) (c_Box T) (m_Box_size T) (ok_Box_size T) (hr.mono (by decide)))) (pss_one (ps_ret (pe_mth (pv 3) (c_Box T) (m_Box_image_at T) (ok_Box_image_at T) (hr.mono (by decide)) (pa_cons (pv 2) pa_nil)))) pss_nil)
      (pss_one (ps_set (i := 2) sc_image_at.nd rfl (.inl rfl) (pe_op op_sub (pv 2) (pe_mth0 (pv 3) (c_Box T) (m_Box_size T) (ok_Box_size T) (hr.mono (by decide))))))))
      (pss_one ps_never))), ?_⟩)
  · obtain ⟨G, R, gh, ⟨v, n, sz, cs, i, rfl, _⟩, _⟩ := h
    rfl
  · obtain ⟨G, R, gh, ⟨v, n, sz, cs, i, rfl, hv, okp, okb, him, rfl⟩, q⟩ := h
    refine st_asg (ev_var (R := isN n) (i := 1) rfl rfl) (At.no gh) fun v1 G1 H1 g1 e1 => ?_
    have hv1 := (rProg K sz cs).mo _ _ _ g1.gg hv
    refine st_forB (K := K) g1 (ei_list (ev_boxes (i := 0) rfl hv1 okp)) (fun j σ G' H' => ∃ (m : Nat) (x : Option V), σ = [some v, some (.int n), some (.int m), x] ∧ imageB ((boxesOf sz.length cs).drop j) m = some i) (fun _ _ _ => ⟨n, none, by cases e1; rfl, him⟩) (fun i σ G' H' G1 H1 p _ _ => p) ?_ ?_
    · rintro j Y y σ' G3 H3 N hN hY g3 e3 hy ⟨m, x, rfl, hd⟩
      obtain ⟨b, hj, hb, rfl⟩ := get_map hY
      have ok := okb b hb
      have hdr : (boxesOf sz.length cs).drop j = b :: (boxesOf sz.length cs).drop (j + 1) := by
        obtain ⟨h1, h2⟩ := List.getElem?_eq_some_iff.mp hj
        rw [← h2]
        exact List.drop_eq_getElem_cons h1
      rw [hdr] at hd
      unfold imageB at hd
      refine st_if (B := (· = decide (m < bxSize b))) ((et_test (ev_chain ev_cI (ev_var (R := isN m) (i := 2) rfl rfl) fun _ => ev_size (i := 3) rfl hy ok)).to ?_) g3.at_ (fun G4 H4 g4 e4 => ?_) fun G4 H4 g4 e4 => ?_
      · rw [decide_eq_true (show (0 : Int) ≤ (m : Int) by omega), Bool.true_and]
        exact decide_eq_decide.mpr (by omega)
      · rw [if_pos (of_decide_eq_true e4.symm)] at hd
        cases hd
        refine st_ret (ev_meth (R := rImg (bxAt b m)) (ev_var (i := 3) rfl ((rBx K b).mo _ _ _ g4.gg hy)) rfl (ea_cons (ev_var (R := isN m) (i := 2) rfl rfl) ea_nil) fun y vs G5 e5 r rs => ?_) g4.at_ fun v5 G5 H5 g5 rv => q _ _ _ ((g3.trans g4).trans g5) rv
        obtain ⟨_, rfl, rfl⟩ := all1 rs
        exact ⟨y, b, m, rfl, r, ok, rfl⟩
      · have hge : ¬ m < bxSize b := of_decide_eq_false e4.symm
        rw [if_neg hge] at hd
        refine st_asg (ev_I0 (g := fun i j => .int (i - j)) (ev_var (R := isN m) (i := 2) rfl rfl) (ev_size (i := 3) rfl ((rBx K b).mo _ _ _ g4.gg hy) ok)) g4.at_ fun v5 G5 H5 g5 rv => hN _ _ _ (g4.gg.trans g5.gg) ((g3.trans g4).trans g5) ⟨m - bxSize b, some y, ?_, hd⟩
        cases rv
        rw [Int.ofNat_sub (by omega)]
        rfl
    · rintro σ' G3 H3 g3 e3 ⟨m, x, rfl, hd⟩
      rw [List.length_map, List.drop_length] at hd
      cases hd
def rOptN : Option Nat → Rp
  | none => isV .non
  | some n => isN n
def sp_place_of (K : PySem.W.Frag) : Sp := Prom fun vs G R => ∃ (v u : V) (sz : List Nat) (cs : List Cmd) (i : Img), vs = [v, u] ∧ (rProg K sz cs).p v G ∧ okProg sz cs ∧ okBs (boxesOf sz.length cs) ∧ (rImg i).p u G ∧ inMade sz.length cs i ∧ R = rOptN (placeB (boxesOf sz.length cs) 0 i)
theorem sc_place_of : FnScope ["program", "image", "before", "box"] ["program", "image"] (defScope s_place_of) := ⟨rfl, rfl, rfl, by decide +kernel, rfl, by decide +kernel, by decide +kernel⟩
/- program=0 image=1 before=2 box=3; cells none; level 6 -/
theorem ok_place_of (T : Tx K mg) : Dk P w K mg base (He.ga K "place_of") 6 ["program", "image"] (sp_place_of K) := by
  refine dk_of (d_place_of_at T) sc_place_of (fun _ _ _ _ _ _ us hl => match us, hl with | [_, _], _ => rfl) (fun vs H Q E h => ?_) (fun cdv A outer s H vs Q E hr h => ⟨_, (pss_cons (ps_expr (pe_fn (ok_check_image T) (hr.mono (by decide)) (g_check_image T) (pa_cons (pv 0) (pa_cons (pv 1) pa_nil))))
      (pss_cons (ps_set (i := 2) sc_place_of.nd rfl (.inl rfl) pe_int)
      (pss_cons (ps_for PassesOwn.never rfl (pi_list (pe_fn (ok_boxes T) (hr.mono (by decide)) (g_boxes T) (pa_cons (pv 0) pa_nil))) (pg_name (i := 3) sc_place_of.nd rfl (.inl rfl)) (pss_cons (ps_if (pt_cmpR (op_inOwn0 (ok_Box_contains T) (m_Box_contains T) (hr.mono (by decide))) (pv 1) (pv 3) (by rfl)) (pss_one (ps_ret (pe_op op_add (pv 2) (pe_mth (pv 3) (c_Box T) (m_Box_place_of T) (ok_Box_place_of T) (hr.mono (by decide)) (pa_cons (pv 1) pa_nil))))) pss_nil)
      (pss_one (ps_set (i := 2) sc_place_of.nd rfl (.inl rfl) (pe_op op_add (pv 2) (pe_mth0 (pv 3) (c_Box T) (m_Box_size T) (ok_Box_size T) (hr.mono (by decide))))))))
      (pss_one (ps_ret pe_non))))), ?_⟩)
  · obtain ⟨G, R, gh, ⟨v, u, sz, cs, i, rfl, _⟩, _⟩ := h
    rfl
  · obtain ⟨G, R, gh, ⟨v, u, sz, cs, i, rfl, hv, okp, okb, hu, im, rfl⟩, q⟩ := h
    have hlen : i.length ≤ 1000 := by
      rw [im.1]
      have h1 := (cntN_at (n := sz.length) cs).1
      have h2 := okp.1.2.1
      unfold madeOf cntOf
      omega
    refine st_drop (R := isV .non) (ev_call (ea_cons (ev_var (i := 0) rfl hv) (ea_cons (ev_var (i := 1) rfl hu) ea_nil)) fun vs G1 e rs => ?_) (At.no gh) fun v0 G0 H0 g0 _ => ?_
    · obtain ⟨_, _, rfl, r1, r2⟩ := all2 rs
      exact ⟨_, _, sz, cs, i, rfl, r1, okp, r2, im, rfl⟩
    have g01 := g0
    have hv1 := (rProg K sz cs).mo _ _ _ g01.gg hv
    refine st_forB (K := K) g01 (ei_list (ev_boxes (i := 0) rfl hv1 okp)) (fun j σ G' H' => ∃ (m : Nat) (x : Option V), σ = [some v, some u, some (.int m), x] ∧ placeB ((boxesOf sz.length cs).drop j) m i = placeB (boxesOf sz.length cs) 0 i) (fun _ _ _ => ⟨0, none, rfl, rfl⟩) (fun i σ G' H' G1 H1 p _ _ => p) ?_ ?_
    · rintro j Y y σ' G3 H3 N hN hY g3 e3 hy ⟨m, x, rfl, hd⟩
      obtain ⟨b, hj, hb, rfl⟩ := get_map hY
      have ok := okb b hb
      have hdr : (boxesOf sz.length cs).drop j = b :: (boxesOf sz.length cs).drop (j + 1) := by
        obtain ⟨h1, h2⟩ := List.getElem?_eq_some_iff.mp hj
        rw [← h2]
        exact List.drop_eq_getElem_cons h1
      rw [hdr] at hd
      have hd : (if bxHas b i = true then some (m + bxPlace b i) else placeB ((boxesOf sz.length cs).drop (j + 1)) (m + bxSize b) i) = placeB (boxesOf sz.length cs) 0 i := hd
      have hu3 := (rImg i).mo _ _ _ g3.gg hu
      refine st_if (B := (· = bxHas b i)) (et_test (ev_inOwn (ev_var (i := 1) rfl hu3) (ev_var (i := 3) rfl hy) fun x y G1 e rx ry => ⟨y, x, b, i, rfl, ry, ok, rx, hlen, rfl⟩)) g3.at_ (fun G4 H4 g4 e4 => ?_) fun G4 H4 g4 e4 => ?_
      · rw [if_pos e4.symm] at hd
        rw [← hd] at q
        have hy4 := (rBx K b).mo _ _ _ g4.gg hy
        refine st_ret (ev_to (ev_I0 (g := fun i j => .int (i + j)) (ev_var (R := isN m) (i := 2) rfl rfl) (ev_meth (R := isN (bxPlace b i)) (ev_var (i := 3) rfl hy4) rfl (ea_cons (ev_var (i := 1) rfl ((rImg i).mo _ _ _ g4.gg hu3)) ea_nil) fun y vs G5 e5 r rs => ?_)) ?_) g4.at_ fun v5 G5 H5 g5 rv => q _ _ _ ((g3.trans g4).trans g5) rv
        · obtain ⟨_, rfl, r2⟩ := all1 rs
          exact ⟨y, _, b, i, rfl, r, ok, r2, e4.symm, rfl⟩
        · show isV (.int ((m : Int) + (bxPlace b i : Nat))) = isV (.int ((m + bxPlace b i : Nat) : Int))
          rw [Int.natCast_add]
      · rw [if_neg (by rw [← e4]; decide)] at hd
        refine st_asg (ev_I0 (g := fun i j => .int (i + j)) (ev_var (R := isN m) (i := 2) rfl rfl) (ev_size (i := 3) rfl ((rBx K b).mo _ _ _ g4.gg hy) ok)) g4.at_ fun v5 G5 H5 g5 rv => hN _ _ _ (g4.gg.trans g5.gg) ((g3.trans g4).trans g5) ⟨m + bxSize b, some y, ?_, hd⟩
        cases rv
        rw [Int.natCast_add]
        rfl
    · rintro σ' G3 H3 g3 e3 ⟨m, x, rfl, hd⟩
      rw [List.length_map, List.drop_length] at hd
      rw [← hd] at q
      exact q _ _ _ g3 rfl
end
end Ls


/-! LsW9 -/
namespace Ls
open PySem PySem.Spec PyProof.Rows L2
def rSt (st : List (List Int)) : Rp := rLst (st.map fun l => rTup (l.map isI))
def lsAt (ss : List Sto) (line : Nat) (begun : List Int) (i : Nat) : List (List Int) := (ss.take i).foldl (lineStep line) [begun]
theorem glast {α : Type} {xs : List α} (h : xs ≠ []) : xs.getLast? = some (xs.getLast h) := by
  cases xs with
  | nil => exact absurd rfl h
  | cons x xs => rfl
theorem lineStep_ok {line : Nat} {n : Nat} {st : List (List Int)} (s : Sto) (h1 : st ≠ []) (h2 : ∀ l ∈ st, l.length = n) : lineStep line st s ≠ [] ∧ (∀ l ∈ lineStep line st s, l.length = n) ∧ (lineStep line st s).length ≤ st.length + 1 := by
  unfold lineStep
  by_cases q : s.l = line
  · rw [if_pos q]
    refine ⟨by simp, fun l hl => ?_, by simp⟩
    rcases List.mem_append.mp hl with z | z
    · exact h2 l z
    · rw [List.mem_singleton.mp z, List.length_set, List.getLastD_eq_getLast?, glast h1]
      exact h2 _ (List.getLast_mem h1)
  · rw [if_neg q]
    exact ⟨h1, h2, Nat.le_succ _⟩
theorem lsAt_ok (ss : List Sto) (line : Nat) (begun : List Int) : ∀ i, lsAt ss line begun i ≠ [] ∧ (∀ l ∈ lsAt ss line begun i, l.length = begun.length) ∧ (lsAt ss line begun i).length ≤ i + 1
  | 0 => ⟨by simp [lsAt], fun l hl => by simp [lsAt] at hl; rw [hl], by simp [lsAt]⟩
  | i + 1 => by
    obtain ⟨h1, h2, h3⟩ := lsAt_ok ss line begun i
    cases q : ss[i]? with
    | none =>
      have e : lsAt ss line begun (i + 1) = lsAt ss line begun i := by
        unfold lsAt
        rw [List.take_add_one, q]
        simp
      rw [e]
      exact ⟨h1, h2, Nat.le_succ_of_le h3⟩
    | some s =>
      have e : lsAt ss line begun (i + 1) = lineStep line (lsAt ss line begun i) s := fold_take q
      rw [e]
      obtain ⟨a, b, c⟩ := lineStep_ok (line := line) s h1 h2
      exact ⟨a, b, by omega⟩
theorem lsAt_all (ss : List Sto) (line : Nat) (begun : List Int) : lsAt ss line begun ss.length = lineStates ss line begun := by
  unfold lsAt lineStates
  rw [List.take_length]
theorem lineStates_ok (ss : List Sto) (line : Nat) (begun : List Int) : lineStates ss line begun ≠ [] ∧ (∀ l ∈ lineStates ss line begun, l.length = begun.length) ∧ (lineStates ss line begun).length ≤ ss.length + 1 := by
  rw [← lsAt_all]
  exact lsAt_ok ss line begun ss.length
section
variable {P : Program} {w : World} {K : PySem.W.Frag} {mg : Str → Option Value} {base : Heap}
theorem all_ints {l : List Int} {vs : List V} {G : Hp} (h : All (l.map isI) vs G) (H : Hp) : All (l.map isI) vs H ∧ vs = l.map V.int := by
  have e := all_vals (f := V.int) h
  subst e
  exact ⟨all_of l H, rfl⟩
def sp_line_states (K : PySem.W.Frag) : Sp := Prom fun vs G R => ∃ (m s b : V) (n : Nat) (ss : List Sto) (begun : List Int), vs = [m, s, .int n, b] ∧ (rLst (ss.map (rSto K))).p s G ∧ ss.length ≤ 1000 ∧ (rTup (begun.map isI)).p b G ∧ (∀ s ∈ ss, s.l = n → s.w < begun.length) ∧ R = rSt (lineStates ss n begun)
theorem sc_line_states : FnScope ["memory", "some", "line", "begun", "found", "store", "words"] ["memory", "some", "line", "begun"] (defScope s_line_states) := ⟨rfl, rfl, rfl, by decide +kernel, rfl, by decide +kernel, by decide +kernel⟩
/- memory=0 some=1 line=2 begun=3 found=4 store=5 words=6; cells none; level 1 -/
theorem ok_line_states (T : Tx K mg) : Dk P w K mg base (He.ga K "line_states") 1 ["memory", "some", "line", "begun"] (sp_line_states K) := by
  refine dk_of (d_line_states_at T) sc_line_states (fun _ _ _ _ _ _ us hl => match us, hl with | [_, _, _, _], _ => rfl) (fun vs H Q E h => ?_) (fun cdv A outer s H vs Q E hr h => ⟨_, (pss_cons (ps_set (i := 4) sc_line_states.nd rfl (.inl rfl) (pe_lst (pa_cons (pe_callTy call_tuple_of (by rfl) (f_tuple T) bt_tuple (pa_cons (pv 3) pa_nil)) pa_nil)))
      (pss_cons (ps_for PassesOwn.never rfl (pi_list (pv 1)) (pg_name (i := 5) sc_line_states.nd rfl (.inl rfl)) (pss_one (ps_if (pt_cmpR op_eq (pe_fld (pv 5) rfl) (pv 2) (nomark _)) (pss_cons (ps_set (i := 6) sc_line_states.nd rfl (.inl rfl) (pe_callTy call_list_of (by rfl) (f_list T) bt_list (pa_cons (pe_ix ix_list (pv 4) (pe_un un_neg pe_int) (fun _ _ => rfl)) pa_nil)))
      (pss_cons (ps_asg (pe_fld (pv 5) rfl) (pg_sub (pv 6) (pe_fld (pv 5) rfl) set_list))
      (pss_one (ps_expr (pe_bm PySem.F.plainAttrs_list PySem.F.slot_list_append PySem.F.type_list_append mt_append (pv 4) (pa_cons (pe_callTy call_tuple_of (by rfl) (f_tuple T) bt_tuple (pa_cons (pv 6) pa_nil)) pa_nil)))))) pss_nil)))
      (pss_one (ps_ret (pv 4))))), ?_⟩)
  · obtain ⟨G, R, gh, ⟨m, s, b, n, ss, begun, rfl, _⟩, _⟩ := h
    rfl
  · obtain ⟨G, R, gh, ⟨m, s, b, n, ss, begun, rfl, hs, hl, hb, ok, rfl⟩, q⟩ := h
    refine st_new (Rs := [rTup (begun.map isI)]) (ea_cons (ev_tupleT (ev_var (i := 3) rfl hb)) ea_nil) (by simp) (At.no gh) fun L us0 G1 H1 g1 nL gL _ eL hus0 => ?_
    have hs1 := (rLst (ss.map (rSto K))).mo _ _ _ g1.gg hs
    refine st_forB (K := K) g1 (ei_list (ev_var (i := 1) rfl hs1)) (fun i σ G' H' => ∃ x y us, σ = [some m, some s, some (.int n), some b, some (.ref L), x, y] ∧ H' L = some (.lst us) ∧ G' L = none ∧ All ((lsAt ss n begun i).map fun l : List Int => rTup (l.map isI)) us G') (fun G' H' g => ⟨_, _, us0, rfl, g.ex _ _ eL, g.fr L (by rw [eL]; exact Option.some_ne_none _) gL, hus0.mo g.gg⟩)
      (fun i σ G' H' G1 H1 ⟨x, y, us, e, p, p2, p3⟩ _ g => ⟨x, y, us, e, g.ex _ _ p, g.fr L (by rw [p]; exact Option.some_ne_none _) p2, p3.mo g.gg⟩) ?_ ?_
    · rintro i Y y σ' G3 H3 N hN hY g3 e3 hy ⟨x1, x2, us, rfl, eL3, gL3, hus⟩
      obtain ⟨t, hi, ht, rfl⟩ := get_map hY
      obtain ⟨k1, k2, k3⟩ := lsAt_ok ss n begun i
      have es : lsAt ss n begun (i + 1) = lineStep n (lsAt ss n begun i) t := fold_take hi
      have hlt := (List.getElem?_eq_some_iff.mp hi).1
      have hul : us.length = (lsAt ss n begun i).length := by
        rw [← hus.len, List.length_map]
      refine st_if (B := (· = decide (t.l = n))) (et_test (ev_to (ev_eq (ev_fld (R := isN t.l) (c_Store T) (n_Store_line T) (ev_var (i := 5) rfl hy) rfl) (ev_var (i := 2) (R := isN n) rfl rfl) rfl) ?_)) g3.at_ (fun G4 H4 g4 e4 => ?_) fun G4 H4 g4 e4 => ?_
      · congr 1
        refine decide_eq_decide.mpr ⟨fun z => ?_, fun z => by rw [z]⟩
        injection z with z
        omega
      · have htn : t.l = n := of_decide_eq_true e4.symm
        have eL4 := g4.ex _ _ eL3
        have gL4 := g4.fr L (by rw [eL3]; exact Option.some_ne_none _) gL3
        have hus4 := hus.mo g4.gg
        -- found[-1]
        have hlast : (lsAt ss n begun i).getLast? = some ((lsAt ss n begun i).getLast k1) := glast k1
        have hpos : 0 < us.length := by
          rw [hul]
          exact List.length_pos_iff.mpr k1
        have hget : (lsAt ss n begun i)[us.length - 1]? = some ((lsAt ss n begun i).getLast k1) := by
          rw [hul, ← List.getLast?_eq_getElem?]
          exact hlast
        obtain ⟨vl, hvl, rl⟩ := hus4.get (i := us.length - 1) (R := rTup (((lsAt ss n begun i).getLast k1).map isI)) (by rw [List.getElem?_map, hget]; rfl)
        obtain ⟨pl, vs, rfl, hpl, hvs⟩ := rl
        obtain ⟨_, rfl⟩ := all_ints hvs G4
        have hat : atI us (-1) = some (.ref pl) := by
          unfold atI ixN
          rw [if_neg (by decide), if_pos (by omega)]
          show us[((-1 : Int) + (us.length : Int)).toNat]? = _
          rw [show ((-1 : Int) + (us.length : Int)).toNat = us.length - 1 by omega]
          exact hvl
        refine ⟨_, rfl, 1, rfl, L, us, -1, .ref pl, rfl, rfl, sq_of eL4, hat, ?_⟩
        refine ⟨pl, _, rfl, .inr (st_of (g4.gh _ _ hpl)), fun l hlf => ?_⟩
        have g34 := g3.trans g4
        have g5 := Gr.newH (o := .lst (((lsAt ss n begun i).getLast k1).map V.int)) g4.at_ hlf
        have gl4 : G4 l = none := g4.at_.none hlf
        have nl0 : H l = none := g34.none hlf
        have lL : l ≠ L := fun z => by rw [z, eL4] at hlf; cases hlf
        have hy5 := (rSto K t).mo _ _ _ g4.gg hy
        have at5 : At (Fm.hold (fun b => b = l) (upd H4 l (.lst (((lsAt ss n begun i).getLast k1).map V.int)))) G4 (upd H4 l (.lst (((lsAt ss n begun i).getLast k1).map V.int))) := at_hold g5.gh (fun b z => by rw [z]; exact gl4) fun b z => by rw [z, upd_same]; exact Option.some_ne_none _
        have eW : ∀ H', (Fm.hold (fun b => b = l) (upd H4 l (.lst (((lsAt ss n begun i).getLast k1).map V.int)))).I H' → H' l = some (.lst (((lsAt ss n begun i).getLast k1).map V.int)) := fun H' ii => (ii l rfl).trans upd_same
        have hwl : t.w < ((lsAt ss n begun i).getLast k1).length := by
          rw [k2 _ (List.getLast_mem k1)]
          exact ok t ht htn
        refine st_asgG (F := Fm.hold (fun b => b = l) _) (ev_fld (R := isI t.n) (c_Store T) (n_Store_number T) (ev_var (i := 5) rfl hy5) rfl) at5 fun v6 G6 H6 g6 rv6 => ?_
        cases rv6
        refine g_setL (m := l) g6.at_ (ev_var (i := 6) rfl rfl) (ev_fld (R := isN t.w) (c_Store T) (n_Store_word T) (ev_var (i := 5) rfl ((rSto K t).mo _ _ _ g6.gg hy5)) rfl) eW (by rw [List.length_map]; exact hwl) fun G7 H7 g7 => ?_
        have g57 : Gr Fm.no G4 _ G7 H7 := (g6.trans g7).unhold
        have eL7 : H7 L = some (.lst us) := g57.ex _ _ (g5.ex _ _ eL4)
        have gL7 : G7 L = none := g57.fr L (by rw [g5.ex _ _ eL4]; exact Option.some_ne_none _) gL4
        have gl7 : G7 l = none := g57.fr l (by rw [upd_same]; exact Option.some_ne_none _) gl4
        have g07 := ((g34.trans g5).trans g57)
        have g08 : Gr Fm.no G H G7 (upd H7 l (.lst ((((lsAt ss n begun i).getLast k1).map V.int).set t.w (.int t.n)))) := g07.wrNo nl0 gl7
        have eL8 := (upd_ne (H := H7) (o := .lst ((((lsAt ss n begun i).getLast k1).map V.int).set t.w (.int t.n))) lL.symm).trans eL7
        refine st_appR (i := 4) (p := L) rfl eL8 ?_
        refine ⟨_, rfl, l, _, rfl, .inl ⟨sq_of upd_same, fun T hT => ?_⟩⟩
        have g9 := Gr.new (o := .tup ((((lsAt ss n begun i).getLast k1).map V.int).set t.w (.int t.n))) g08.at_ hT
        have eL9 := g9.ex _ _ eL8
        have gL9 := g9.fr L (by rw [eL8]; exact Option.some_ne_none _) gL7
        refine app_end eL9 (by rw [hul]; omega) (hN _ _ _ ((g4.gg.trans g57.gg).trans g9.gg) ((g08.trans g9).wrNo nL gL9) ⟨some y, some (.ref l), us ++ [.ref T], rfl, upd_same, gL9, ?_⟩)
        rw [es]
        unfold lineStep
        rw [if_pos htn, List.map_append]
        refine (hus.mo ((g4.gg.trans g57.gg).trans g9.gg)).snoc ⟨T, _, rfl, upd_same, ?_⟩
        rw [List.getLastD_eq_getLast?, hlast]
        have e5 : ((((lsAt ss n begun i).getLast k1).map V.int).set t.w (.int t.n)) = ((((lsAt ss n begun i).getLast k1).set t.w t.n).map V.int) := List.map_set.symm
        rw [e5]
        exact all_of _ _
      · have htn : ¬ t.l = n := of_decide_eq_false e4.symm
        refine hN _ G4 H4 g4.gg (g3.trans g4) ⟨some y, x2, us, rfl, g4.ex _ _ eL3, g4.fr L (by rw [eL3]; exact Option.some_ne_none _) gL3, ?_⟩
        rw [es]
        unfold lineStep
        rw [if_neg htn]
        exact hus.mo g4.gg
    · rintro σ' G3 H3 g3 e3 ⟨x1, x2, us, rfl, eL3, gL3, hus⟩
      rw [List.length_map, lsAt_all] at hus
      exact ⟨_, rfl, q _ _ _ (g3.fixNo nL gL3 eL3) ⟨L, us, rfl, upd_same, hus.mo (Ex.new gL3)⟩⟩
end
end Ls


/-! LsW10 -/
namespace Ls
open PySem PySem.Spec PyProof.Rows L2
def okW (x : Words) (s : Sto) : Prop := ∃ l, x[s.l]? = some l ∧ s.w < l.length
def okI (st : List (List (List Int))) (i : Img) : Prop := ∀ k n : Nat, (i : List Nat)[k]? = some n → ∃ s : List (List Int), st[k]? = some s ∧ n < s.length
theorem statesOf_get {ss : List Sto} {x : Words} {k : Nat} {l : List Int} (h : x[k]? = some l) : (statesOf ss x)[k]? = some (lineStates ss k l) := by
  unfold statesOf
  rw [List.getElem?_map, List.getElem?_zipIdx, h, Nat.zero_add]
  rfl
theorem statesOf_len (ss : List Sto) (x : Words) : (statesOf ss x).length = x.length := by
  unfold statesOf
  rw [List.length_map, List.length_zipIdx]
section
variable {F : Fm} {σ : L2.St} {G : Hp} {R : Rp} {ta tb te : TE} {K : PySem.W.Frag} {x : V}
theorem inV_int (i : Int) (ms : List Int) : inV (.int i) (ms.map V.int) = decide (i ∈ ms) := by
  unfold inV
  rw [List.any_map, Bool.eq_iff_iff, List.any_eq_true, decide_eq_true_iff]
  constructor
  · rintro ⟨y, hy, e⟩
    have e2 : y = i := eq_of_beq e
    rw [← e2]
    exact hy
  · exact fun h => ⟨i, h, beq_self_eq_true i⟩
theorem flat_ints (ms : List Int) : (ms.map V.int).all flatV = true := by
  rw [List.all_map, List.all_eq_true]
  exact fun _ _ => rfl
theorem ev_ixS {i : Nat} {Rs : List Rp} (h : Ev F ta σ G (rSeq Rs)) (hi : Ev F tb σ G (isN i)) (hR : Rs[i]? = some R) : Ev F (tOp (rIx K) ta tb) σ G R :=
  ev_opv h hi fun x y G1 H1 _ eh hx hy Q q => by
    rcases hx with ⟨a, ys, rfl, ha, hs⟩ | ⟨a, ys, rfl, ha, hs⟩
    · obtain ⟨v, hv, rv⟩ := hs.get hR
      exact .inr (.inl ⟨a, ys, i, v, rfl, hy, st_of (eh _ _ ha), atI_nat hv, q v rv⟩)
    · obtain ⟨v, hv, rv⟩ := hs.get hR
      exact .inl ⟨a, ys, i, v, rfl, hy, sq_of (eh _ _ ha), atI_nat hv, q v rv⟩
theorem ev_inNums {i : Int} {ns : List Int} (ha : Ev F ta σ G (isI i)) (hb : Ev F tb σ G (rNums ns)) : Ev F (tOp (rIn K false) ta tb) σ G (isB (decide (i ∈ ns))) :=
  ev_opv ha hb fun x y G1 H1 _ eh hx ⟨ms, hm, p, vs, hy, hp, hs⟩ Q q => by
    obtain ⟨_, rfl⟩ := (show _ ∧ vs = ms.map V.int from ⟨True.intro, all_vals (f := V.int) hs⟩)
    refine ⟨p, _, hy, .inr (st_of (eh _ _ hp)), by rw [(hx : x = .int i)]; rfl, flat_ints ms, q _ ?_⟩
    show (V.bl (inV x _)) = _
    rw [(hx : x = .int i), inV_int]
    congr 1
    exact decide_eq_decide.mpr (hm i)
theorem alike_ints : ∀ xs ys : List Nat, PySem.W.alikeAll (xs.map fun n : Nat => PyData.int n) (ys.map fun n : Nat => PyData.int n) = true
  | [], ys => by simp [PySem.W.alikeAll]
  | x :: xs, [] => by simp [PySem.W.alikeAll]
  | x :: xs, y :: ys => by
    rw [List.map_cons, List.map_cons]
    simp only [PySem.W.alikeAll, PySem.W.alike, alike_ints xs ys, Bool.and_self]
theorem alike_imgs (is : List Img) : PySem.W.AlikeAll (is.map eImg) := by
  refine ⟨fun d hd e he => ?_, fun d hd => ?_⟩
  · obtain ⟨i, _, rfl⟩ := List.mem_map.mp hd
    obtain ⟨j, _, rfl⟩ := List.mem_map.mp he
    unfold eImg
    simp only [PySem.W.alike]
    exact alike_ints i j
  · obtain ⟨i, _, rfl⟩ := List.mem_map.mp hd
    exact fun z => by cases z
end
section
variable {P : Program} {w : World} {K : PySem.W.Frag} {mg : Str → Option Value} {base : Heap}
def sp_blank (K : PySem.W.Frag) : Sp := Prom fun vs G R => ∃ (v : V) (sz : List Nat), vs = [v] ∧ (rMem K sz).p v G ∧ okMem sz ∧ R = rWords (blank sz)
theorem sc_blank : FnScope ["memory", "size"] ["memory"] (defScope s_blank) := ⟨rfl, rfl, rfl, by decide +kernel, rfl, by decide +kernel, by decide +kernel⟩
/- memory=0 size=1; cells none; level 1 -/
theorem ok_blank (T : Tx K mg) : Dk P w K mg base (He.ga K "blank") 1 ["memory"] (sp_blank K) := by
  refine dk_of (d_blank_at T) sc_blank (fun _ _ _ _ _ _ us hl => match us, hl with | [_], _ => rfl) (fun vs H Q E h => ?_) (fun cdv A outer s H vs Q E hr h => ⟨_, (pss_one (ps_ret (pe_callTy call_tuple_of (by rfl) (f_tuple T) bt_tuple (pa_cons (pe_lc (own := [("size", 1)]) (g := gName 1) (tt := tYes) rfl sc_blank.nd (pi_tup (pe_fld (pv 0) rfl)) (blkOk_by (by kernel_rfl)) (fun _ _ _ _ _ => (pg_name (i := 1) sc_blank.nd rfl (.inl rfl))) (fun _ _ _ _ _ => pts_nil) (fun _ _ _ _ _ => (pe_op (k_op_repZ (K := K) rfl) (pe_tup (pa_cons pe_int pa_nil)) (pv 1)))) pa_nil)))), ?_⟩)
  · obtain ⟨G, R, gh, ⟨v, sz, rfl, _⟩, _⟩ := h
    rfl
  · obtain ⟨G, R, gh, ⟨v, sz, rfl, hv, ⟨ok1, ok2, ok3⟩, rfl⟩, q⟩ := h
    refine st_ret (ev_to (ev_tupleL (ev_lcM (F := Fm.no) (j := 1) (vs := [1]) (σ := [some v, none]) sz isN (fun s => rTup (List.replicate s (isN 0))) (ei_tup (ev_fld (c_Memory T) (n_Memory_sizes T) (ev_var rfl hv) rfl)) (by omega) (fun _ => rfl) fun s hs x G1 e r => ev_repZ (R := isN 0) (ev_tup (ea_cons ev_c ea_nil) (by simp)) (ev_var rfl r) (ok3 s hs).1 (by have := (ok3 s hs).2; omega))) ?_) (At.no gh) q
    unfold blank rWords
    rw [List.map_map]
    congr 1
    refine List.map_congr_left fun s _ => ?_
    show rTup (List.replicate s (isN 0)) = rTup ((List.replicate s (0 : Int)).map isI)
    rw [List.map_replicate]
    rfl
def sp_states_of (K : PySem.W.Frag) : Sp := Prom fun vs G R => ∃ (m s b : V) (ss : List Sto) (x : Words), vs = [m, s, b] ∧ (rLst (ss.map (rSto K))).p s G ∧ ss.length ≤ 1000 ∧ (rWords x).p b G ∧ x.length ≤ 1000 ∧ (∀ s ∈ ss, okW x s) ∧ R = rLst ((statesOf ss x).map rSt)
theorem sc_states_of : FnScope ["memory", "some", "begun", "line", "words"] ["memory", "some", "begun"] (defScope s_states_of) := ⟨rfl, rfl, rfl, by decide +kernel, rfl, by decide +kernel, by decide +kernel⟩
/- memory=0 some=1 begun=2 line=3 words=4; cells memory some; level 2 -/
theorem ok_states_of (T : Tx K mg) : Dk P w K mg base (He.ga K "states_of") 2 ["memory", "some", "begun"] (sp_states_of K) := by
  refine dk_of (d_states_of_at T) sc_states_of (fun _ _ _ _ _ _ us hl => match us, hl with | [_, _, _], _ => rfl) (fun vs H Q E h => ?_) (fun cdv A outer s H vs Q E hr h => ⟨_, (pss_one (ps_ret (pe_lc (own := [("line", 3), ("words", 4)]) (g := gTup K 2 (gCons (gName 3) (gCons (gName 4) gNil))) (tt := tYes) rfl sc_states_of.nd (pi_enumS (by rfl) (f_enumerate T) (pa_cons (pv 2) pa_nil)) (blkOk_by (by kernel_rfl)) (fun _ _ _ _ _ => (pg_tup rfl (pgs_cons (pg_name (i := 3) sc_states_of.nd rfl (.inl rfl)) (pgs_cons (pg_name (i := 4) sc_states_of.nd rfl (.inl rfl)) pgs_nil)))) (fun _ _ _ _ _ => pts_nil) (fun _ _ _ _ _ => (pe_fn (ok_line_states T) (hr.mono (by decide)) (g_line_states T) (pa_cons (pv 0) (pa_cons (pv 1) (pa_cons (pv 3) (pa_cons (pv 4) pa_nil))))))))), ?_⟩)
  · obtain ⟨G, R, gh, ⟨m, s, b, ss, x, rfl, _⟩, _⟩ := h
    rfl
  · obtain ⟨G, R, gh, ⟨m, s, b, ss, x, rfl, hs, hl, hb, hx, ok, rfl⟩, q⟩ := h
    refine st_ret (ev_to (ev_lc2 (K := K) (F := Fm.no) (j := 3) (l := 4) (vs := [3, 4]) (σ := [some m, some s, some b, none, none]) x.zipIdx (fun p => isN p.2) (fun p => rTup (p.1.map isI)) (fun p => rSt (lineStates ss p.2 p.1))
      (ei_to (ei_enumS (i := 2) rfl (.inl hb)) (enumR_map _ _)) (by rw [List.length_zipIdx]; omega) (fun _ _ => rfl) fun p hp y z G1 e ry rz => ev_call (ea_cons (ev_var (R := rAny) (i := 0) rfl True.intro) (ea_cons (ev_var (i := 1) rfl ((rLst _).mo _ _ _ e hs)) (ea_cons (ev_var (R := isN p.2) (i := 3) rfl ry) (ea_cons (ev_var (i := 4) rfl rz) ea_nil)))) fun vs G2 e2 rs => ?_) ?_) (At.no gh) q
    · obtain ⟨_, _, _, _, rfl, _, r2, rfl, r4⟩ := all4 rs
      refine ⟨_, _, _, p.2, ss, p.1, rfl, r2, hl, r4, fun s hs hn => ?_, rfl⟩
      obtain ⟨l, h1, h2⟩ := ok s hs
      rw [hn, mem_zipIdx_get hp] at h1
      cases h1
      exact h2
    · unfold statesOf
      rw [List.map_map]
      rfl
def sp_words_of (K : PySem.W.Frag) : Sp := Prom fun vs G R => ∃ (s i : V) (st : List (List (List Int))) (im : Img), vs = [s, i] ∧ (rLst (st.map rSt)).p s G ∧ (rImg im).p i G ∧ im.length ≤ 1000 ∧ okI st im ∧ R = rWords (wordsOf st im)
theorem sc_words_of : FnScope ["states", "image", "line", "number"] ["states", "image"] (defScope s_words_of) := ⟨rfl, rfl, rfl, by decide +kernel, rfl, by decide +kernel, by decide +kernel⟩
/- states=0 image=1 line=2 number=3; cells states; level 1 -/
theorem ok_words_of (T : Tx K mg) : Dk P w K mg base (He.ga K "words_of") 1 ["states", "image"] (sp_words_of K) := by
  refine dk_of (d_words_of_at T) sc_words_of (fun _ _ _ _ _ _ us hl => match us, hl with | [_, _], _ => rfl) (fun vs H Q E h => ?_) (fun cdv A outer s H vs Q E hr h => ⟨_, (pss_one (ps_ret (pe_callTy call_tuple_of (by rfl) (f_tuple T) bt_tuple (pa_cons (pe_lc (own := [("line", 2), ("number", 3)]) (g := gTup K 2 (gCons (gName 2) (gCons (gName 3) gNil))) (tt := tYes) rfl sc_words_of.nd (pi_enumS (by rfl) (f_enumerate T) (pa_cons (pv 1) pa_nil)) (blkOk_by (by kernel_rfl)) (fun _ _ _ _ _ => (pg_tup rfl (pgs_cons (pg_name (i := 2) sc_words_of.nd rfl (.inl rfl)) (pgs_cons (pg_name (i := 3) sc_words_of.nd rfl (.inl rfl)) pgs_nil)))) (fun _ _ _ _ _ => pts_nil) (fun _ _ _ _ _ => (pe_ix (k_ix_list (K := K) rfl) (pe_ix (k_ix_list (K := K) rfl) (pv 0) (pv 2) (fun _ _ => rfl)) (pv 3) (fun _ _ => rfl)))) pa_nil)))), ?_⟩)
  · obtain ⟨G, R, gh, ⟨s, i, st, im, rfl, _⟩, _⟩ := h
    rfl
  · obtain ⟨G, R, gh, ⟨s, i, st, im, rfl, hs, hi, hl, ok, rfl⟩, q⟩ := h
    refine st_ret (ev_to (ev_tupleL (ev_lc2 (K := K) (F := Fm.no) (j := 2) (l := 3) (vs := [2, 3]) (σ := [some s, some i, none, none]) im.zipIdx (fun p => isN p.2) (fun p => isN p.1) (fun p => rTup (((st.getD p.2 []).getD p.1 []).map isI))
      (ei_to (ei_enumS (i := 1) rfl (.inl hi)) (enumR_map _ _)) (by rw [List.length_zipIdx]; omega) (fun _ _ => rfl) fun p hp y z G1 e ry rz => ?_)) ?_) (At.no gh) q
    · obtain ⟨t, h1, h2⟩ := ok _ _ (mem_zipIdx_get hp)
      rw [List.getD_eq_getElem?_getD (l := st), h1]
      have h3 : t[p.1]? = some t[p.1] := List.getElem?_eq_getElem h2
      refine ev_ixL (Rs := t.map fun l => rTup (l.map isI)) (ev_ixL (Rs := st.map rSt) (R := rSt t) (ev_var (i := 0) rfl ((rLst _).mo _ _ _ e hs)) (ev_var (R := isN p.2) (i := 2) rfl ry) (by rw [List.getElem?_map, h1]; rfl)) (ev_var (R := isN p.1) (i := 3) rfl rz) ?_
      rw [List.getElem?_map, h3]
      show some _ = some _
      rw [List.getD_eq_getElem?_getD, show (some t).getD [] = t from rfl, h3]
      rfl
    · unfold wordsOf rWords
      rw [List.map_map]
      rfl
theorem blank_len (sz : List Nat) : (blank sz).length = sz.length := by
  unfold blank
  rw [List.length_map]
theorem okW_blank {sz : List Nat} {cs : List Cmd} (ok : ∀ c ∈ cs, okCmd sz c) : ∀ s ∈ storesOf cs, okW (blank sz) s := fun s hs => by
  unfold storesOf at hs
  obtain ⟨c, hc, e⟩ := List.mem_filterMap.mp hs
  have h := ok c hc
  cases c with
  | store t =>
    cases e
    obtain ⟨n, h1, h2⟩ := h
    exact ⟨List.replicate n 0, by unfold blank; rw [List.getElem?_map, h1]; rfl, by rw [List.length_replicate]; exact h2⟩
  | flush l => cases e
  | fence => cases e
theorem storesOf_len (cs : List Cmd) : (storesOf cs).length ≤ cs.length := by
  unfold storesOf
  exact List.length_filterMap_le _ _
/-- states_of(program.memory, stores(program), blank(program.memory)) -/
theorem ev_sts {F : Fm} {σ : L2.St} {G : Hp} {i : Nat} {sz : List Nat} {cs : List Cmd} {v : V} (T : Tx K mg) (hi : σ[i]? = some (some v)) (hv : (rProg K sz cs).p v G) (okp : okProg sz cs) :
    Ev F (tCall (sp_states_of K) [] E0 (tCons (tFld K (tVar i) "memory") (tCons (tCall (sp_stores K) [] E0 (tCons (tVar i) tNil)) (tCons (tCall (sp_blank K) [] E0 (tCons (tFld K (tVar i) "memory") tNil)) tNil)))) σ G (rLst ((statesOf (storesOf cs) (blank sz)).map rSt)) := by
  have hmem : Ev F (tFld K (tVar i) "memory") σ G (rMem K sz) := ev_fld (c_Program T) (n_Program_memory T) (ev_var hi hv) rfl
  refine ev_call (ea_cons hmem (ea_cons (ev_call (R := rLst ((storesOf cs).map (rSto K))) (ea_cons (ev_var hi hv) ea_nil) fun vs G1 e rs => ?_) (ea_cons (ev_call (R := rWords (blank sz)) (ea_cons hmem ea_nil) fun vs G1 e rs => ?_) ea_nil))) fun vs G1 e rs => ?_
  · obtain ⟨_, rfl, r⟩ := all1 rs
    exact ⟨_, sz, cs, rfl, r, okp, rfl⟩
  · obtain ⟨_, rfl, r⟩ := all1 rs
    exact ⟨_, sz, rfl, r, okp.1, rfl⟩
  · obtain ⟨_, _, _, rfl, _, r2, r3⟩ := all3 rs
    have h1 := storesOf_len cs
    have h2 := okp.2.1
    have h3 := okp.1.2.1
    exact ⟨_, _, _, _, _, rfl, r2, by omega, r3, by rw [blank_len]; omega, okW_blank okp.2.2, rfl⟩
def sp_contents (K : PySem.W.Frag) : Sp := Prom fun vs G R => ∃ (v u : V) (sz : List Nat) (cs : List Cmd) (i : Img), vs = [v, u] ∧ (rProg K sz cs).p v G ∧ okProg sz cs ∧ (rImg i).p u G ∧ inMade sz.length cs i ∧ okI (statesOf (storesOf cs) (blank sz)) i ∧ R = rWords (contentsOf sz cs i)
theorem sc_contents : FnScope ["program", "image"] ["program", "image"] (defScope s_contents) := ⟨rfl, rfl, rfl, by decide +kernel, rfl, by decide +kernel, by decide +kernel⟩
/- program=0 image=1; cells none; level 6 -/
theorem ok_contents (T : Tx K mg) : Dk P w K mg base (He.ga K "contents") 6 ["program", "image"] (sp_contents K) := by
  refine dk_of (d_contents_at T) sc_contents (fun _ _ _ _ _ _ us hl => match us, hl with | [_, _], _ => rfl) (fun vs H Q E h => ?_) (fun cdv A outer s H vs Q E hr h => ⟨_, (pss_cons (ps_expr (pe_fn (ok_check_image T) (hr.mono (by decide)) (g_check_image T) (pa_cons (pv 0) (pa_cons (pv 1) pa_nil))))
      (pss_one (ps_ret (pe_fn (ok_words_of T) (hr.mono (by decide)) (g_words_of T) (pa_cons (pe_fn (ok_states_of T) (hr.mono (by decide)) (g_states_of T) (pa_cons (pe_fld (pv 0) rfl) (pa_cons (pe_fn (ok_stores T) (hr.mono (by decide)) (g_stores T) (pa_cons (pv 0) pa_nil)) (pa_cons (pe_fn (ok_blank T) (hr.mono (by decide)) (g_blank T) (pa_cons (pe_fld (pv 0) rfl) pa_nil)) pa_nil)))) (pa_cons (pv 1) pa_nil)))))), ?_⟩)
  · obtain ⟨G, R, gh, ⟨v, u, sz, cs, i, rfl, _⟩, _⟩ := h
    rfl
  · obtain ⟨G, R, gh, ⟨v, u, sz, cs, i, rfl, hv, okp, hu, im, oki, rfl⟩, q⟩ := h
    refine st_drop (R := isV .non) (ev_call (ea_cons (ev_var (i := 0) rfl hv) (ea_cons (ev_var (i := 1) rfl hu) ea_nil)) fun vs G1 e rs => ?_) (At.no gh) fun v0 G0 H0 g0 _ => ?_
    · obtain ⟨_, _, rfl, r1, r2⟩ := all2 rs
      exact ⟨_, _, sz, cs, i, rfl, r1, okp, r2, im, rfl⟩
    refine st_ret (ev_call (R := rWords (contentsOf sz cs i)) (ea_cons (ev_sts T (i := 0) rfl ((rProg K sz cs).mo _ _ _ g0.gg hv) okp) (ea_cons (ev_var (i := 1) rfl ((rImg i).mo _ _ _ g0.gg hu)) ea_nil)) fun vs G1 e rs => ?_) g0.at_ fun v1 G1 H1 g1 rv => q _ _ _ (g0.trans g1) rv
    obtain ⟨_, _, rfl, r1, r2⟩ := all2 rs
    refine ⟨_, _, _, i, rfl, r1, r2, ?_, oki, rfl⟩
    rw [im.1]
    have h1 := (cntN_at (n := sz.length) cs).1
    have h2 := okp.1.2.1
    unfold madeOf cntOf
    omega
/-! ### conditions -/
def okCond (sz : List Nat) (c : Cond) : Prop := okAt sz c.l c.w
def sp_check_conditions (K : PySem.W.Frag) : Sp := Prom fun vs G R => ∃ (m c : V) (sz : List Nat) (cs : List Cond), vs = [m, c] ∧ (rMem K sz).p m G ∧ (rSeq (cs.map (rCond K))).p c G ∧ (∀ c ∈ cs, okCond sz c) ∧ R = isV .non
theorem sc_check_conditions : FnScope ["memory", "conditions", "condition"] ["memory", "conditions"] (defScope s_check_conditions) := ⟨rfl, rfl, rfl, by decide +kernel, rfl, by decide +kernel, by decide +kernel⟩
/- memory=0 conditions=1 condition=2; cells none; level 3 -/
theorem ok_check_conditions (T : Tx K mg) : Dk P w K mg base (He.ga K "check_conditions") 3 ["memory", "conditions"] (sp_check_conditions K) := by
  refine dk_of (d_check_conditions_at T) sc_check_conditions (fun _ _ _ _ _ _ us hl => match us, hl with | [_, _], _ => rfl) (fun vs H Q E h => ?_) (fun cdv A outer s H vs Q E hr h => ⟨_, (pss_one (ps_for PassesOwn.never rfl (pi_seq (pv 1)) (pg_name (i := 2) sc_check_conditions.nd rfl (.inl rfl)) (pss_one (ps_expr (pe_mth (pv 0) (c_Memory T) (m_Memory_check_word T) (ok_Memory_check_word T) (hr.mono (by decide)) (pa_cons (pe_fld (pv 2) rfl) (pa_cons (pe_fld (pv 2) rfl) pa_nil))))))), ?_⟩)
  · obtain ⟨G, R, gh, ⟨m, c, sz, cs, rfl, _⟩, _⟩ := h
    rfl
  · obtain ⟨G, R, gh, ⟨m, c, sz, cs, rfl, hm, hc, ok, rfl⟩, q⟩ := h
    refine st_forB (K := K) (Gr.refl (At.no gh)) (ei_seqL rfl hc) (fun i σ G' H' => ∃ u, σ = [some m, some c, u]) (fun _ _ _ => ⟨_, rfl⟩) (fun i σ G' H' G1 H1 p _ _ => p) ?_ ?_
    · rintro i Y v σ' G1 H1 N hN hY g1 e1 hv ⟨u, rfl⟩
      obtain ⟨d, _, hd, rfl⟩ := get_map hY
      refine st_drop (R := isV .non) (ev_meth (ev_var (i := 0) rfl ((rMem K sz).mo _ _ _ g1.gg hm)) rfl (ea_cons (ev_fld (R := isN d.l) (c_Is T) (n_Is_line T) (ev_var (i := 2) rfl hv) rfl) (ea_cons (ev_fld (R := isN d.w) (c_Is T) (n_Is_word T) (ev_var (i := 2) rfl hv) rfl) ea_nil)) fun y vs G2 e r rs => ?_) g1.at_ fun y G2 H2 g2 _ => hN _ _ _ g2.gg (g1.trans g2) ⟨_, rfl⟩
      obtain ⟨_, _, rfl, rfl, rfl⟩ := all2 rs
      exact ⟨y, sz, d.l, d.w, rfl, r, ok d hd, rfl⟩
    · rintro σ' G1 H1 g1 _ ⟨u, rfl⟩
      exact q _ _ _ g1 rfl
def sp_Is_is_met (K : PySem.W.Frag) : Sp := Prom fun vs G R => ∃ (v x : V) (c : Cond) (l : List Int), vs = [v, x] ∧ (rCond K c).p v G ∧ (rSeq (l.map isI)).p x G ∧ c.w < l.length ∧ R = isB (c.met l)
theorem sc_Is_is_met : FnScope ["self", "words"] ["self", "words"] (defScope s_Is_is_met) := ⟨rfl, rfl, rfl, by decide +kernel, rfl, by decide +kernel, by decide +kernel⟩
/- self=0 words=1; cells none; level 1 -/
theorem ok_Is_is_met (T : Tx K mg) : Dk P w K mg base (He.ma K (He.ga K "Is") "is_met") 1 ["self", "words"] (sp_Is_is_met K) := by
  refine dk_of (d_Is_is_met_at T) sc_Is_is_met (fun _ _ _ _ _ _ us hl => match us, hl with | [_, _], _ => rfl) (fun vs H Q E h => ?_) (fun cdv A outer s H vs Q E hr h => ⟨_, (pss_one (ps_ret (pe_cmpR op_in_seq (pe_ix ix_seq (pv 1) (pe_fld (pv 0) rfl) (fun _ _ => rfl)) (pe_fld (pv 0) rfl) (by rfl)))), ?_⟩)
  · obtain ⟨G, R, gh, ⟨v, x, c, l, rfl, _⟩, _⟩ := h
    rfl
  · obtain ⟨G, R, gh, ⟨v, x, c, l, rfl, hv, hx, hw, rfl⟩, q⟩ := h
    refine st_ret (R := isB (c.met l)) (ev_inNums (ev_ixS (Rs := l.map isI) (R := isI (l.getD c.w 0)) (ev_var (i := 1) rfl hx) (ev_fld (R := isN c.w) (c_Is T) (n_Is_word T) (ev_var (i := 0) rfl hv) rfl) ?_) (ev_fld (R := rNums c.ns) (c_Is T) (n_Is_numbers T) (ev_var (i := 0) rfl hv) rfl)) (At.no gh) q
    rw [List.getElem?_map, List.getElem?_eq_getElem hw, List.getD_eq_getElem?_getD, List.getElem?_eq_getElem hw]
    rfl
end
end Ls


/-! LsW11 -/
namespace Ls
open PySem PySem.Spec PyProof.Rows L2
def fitB (line : Nat) (st : List (List Int)) (c : Cond) (n : Nat) : Bool := decide (c.l ≠ line) || !c.met (st.getD n [])
theorem fitting_eq (line : Nat) (st : List (List Int)) (low high : Nat) (c : Cond) : fitting line st low high (some c) = ((List.range (high + 1 - low)).map (low + ·)).find? (fitB line st c) := rfl
theorem range2_isN (low high : Nat) : ((List.range ((high : Int) + 1 - (low : Int)).toNat).map fun i => isI ((low : Int) + (i : Nat))) = ((List.range (high + 1 - low)).map (low + ·)).map isN := by
  rw [List.map_map, show ((high : Int) + 1 - (low : Int)).toNat = high + 1 - low by omega]
  refine List.map_congr_left fun i _ => ?_
  show isV (.int ((low : Int) + (i : Nat))) = isV (.int ((low + i : Nat) : Int))
  rw [Int.natCast_add]
theorem find_drop {α : Type} {xs : List α} {p : α → Bool} {j : Nat} {x : α} (h : xs[j]? = some x) : (xs.drop j).find? p = if p x = true then some x else (xs.drop (j + 1)).find? p := by
  have hdr : xs.drop j = x :: xs.drop (j + 1) := by
    obtain ⟨h1, h2⟩ := List.getElem?_eq_some_iff.mp h
    rw [← h2]
    exact List.drop_eq_getElem_cons h1
  rw [hdr, List.find?_cons]
  cases p x <;> rfl
def optAll (os : List (Option Nat)) : Option (List Nat) := os.foldr (fun o r => match o, r with | some x, some y => some (x :: y) | _, _ => none) (some [])
theorem optAll_none : ∀ os : List (Option Nat), os.any (·.isNone) = true → optAll os = none
  | none :: os, _ => rfl
  | some x :: os, h => by
    have h' : os.any (·.isNone) = true := by simpa using h
    have ih := optAll_none os h'
    unfold optAll at ih ⊢
    rw [List.foldr_cons, ih]
theorem optAll_some : ∀ os : List (Option Nat), os.any (·.isNone) = false → optAll os = some (os.map (·.getD 0))
  | [], _ => rfl
  | none :: os, h => by simp at h
  | some x :: os, h => by
    have h' : os.any (·.isNone) = false := by simpa using h
    have ih := optAll_some os h'
    unfold optAll at ih ⊢
    rw [List.foldr_cons, ih]
    rfl
def optV : Option Nat → V
  | none => .non
  | some n => .int n
theorem rOptN_eq (o : Option Nat) : rOptN o = isV (optV o) := by
  cases o <;> rfl
theorem inV_none : ∀ os : List (Option Nat), inV .non (os.map optV) = os.any (·.isNone)
  | [] => rfl
  | o :: os => by
    have ih := inV_none os
    unfold inV at ih ⊢
    rw [List.map_cons, List.any_cons, List.any_cons, ih]
    cases o <;> rfl
theorem flat_opts (os : List (Option Nat)) : (os.map optV).all flatV = true := by
  rw [List.all_map, List.all_eq_true]
  intro o _
  cases o <;> rfl
def okSt (sts : List (List (List Int))) (b : Bx) (c : Cond) : Prop := ∀ k lo hi : Nat, b.1[k]? = some lo → b.2[k]? = some hi → ∃ st : List (List Int), sts[k]? = some st ∧ hi < st.length ∧ (c.l = k → ∀ l ∈ st, c.w < l.length)
section
variable {P : Program} {w : World} {K : PySem.W.Frag} {mg : Str → Option Value} {base : Heap}
def sp_fitting (K : PySem.W.Frag) : Sp := Prom fun vs G R => ∃ (s cd a : V) (line low high : Nat) (sts : List (List (List Int))) (st : List (List Int)) (c : Cond), vs = [s, .int line, .int low, .int high, cd, a] ∧ (rLst (sts.map rSt)).p s G ∧ sts[line]? = some st ∧ high < st.length ∧ high ≤ 1000 ∧ low ≤ 1000 ∧
  (c.l = line → ∀ l ∈ st, c.w < l.length) ∧ (rSeq []).p cd G ∧ (rCond K c).p a G ∧ R = rOptN (fitting line st low high (some c))
theorem sc_fitting : FnScope ["states", "line", "low", "high", "conditions", "avoided", "number", "words", "good", "condition"] ["states", "line", "low", "high", "conditions", "avoided"] (defScope s_fitting) := ⟨rfl, rfl, rfl, by decide +kernel, rfl, by decide +kernel, by decide +kernel⟩
/- states=0 line=1 low=2 high=3 conditions=4 avoided=5 number=6 words=7 good=8 condition=9; cells line words; level 2 -/
theorem ok_fitting (T : Tx K mg) : Dk P w K mg base (He.ga K "fitting") 2 ["states", "line", "low", "high", "conditions", "avoided"] (sp_fitting K) := by
  refine dk_of (d_fitting_at T) sc_fitting (fun _ _ _ _ _ _ us hl => match us, hl with | [_, _, _, _, _, _], _ => rfl) (fun vs H Q E h => ?_) (fun cdv A outer s H vs Q E hr h => ⟨_, (pss_cons (ps_for PassesOwn.never rfl (pi_range2 (by rfl) (f_range T) (pa_cons (pv 2) (pa_cons (pe_op op_add (pv 3) pe_int) pa_nil))) (pg_name (i := 6) sc_fitting.nd rfl (.inl rfl)) (pss_cons (ps_set (i := 7) sc_fitting.nd rfl (.inr rfl) (pe_ix ix_list (pe_ix ix_list (pv 0) (pv 1) (fun _ _ => rfl)) (pv 6) (fun _ _ => rfl)))
      (pss_cons (ps_set (i := 8) sc_fitting.nd rfl (.inl rfl) (pe_callB (cr_all rfl) (by rfl) (f_all T) bt_all (pa_cons (pe_lc (own := [("condition", 9)]) (g := gName 9) rfl sc_fitting.nd (pi_seq (pv 4)) (blkOk_by (by kernel_rfl)) (fun _ _ _ _ _ => (pg_name (i := 9) sc_fitting.nd rfl (.inl rfl))) (fun _ _ _ _ _ => (pts_one (pt_cmpR op_eq (k_pe_fld (K := K) rfl (pv 9) rfl) (pv 1) (nomark _)))) (fun _ _ _ _ _ => (pe_mth (pv 9) (c_Is T) (m_Is_is_met T) (ok_Is_is_met T) (hr.mono (by decide)) (pa_cons (pv 7) pa_nil)))) pa_nil)))
      (pss_one (ps_if (PW.pt (pw_and (pt_val (pv 8)) (pw_and1 (PW.pt (pw_or (pt_cmpR op_isN1 (pv 5) pe_non (nomark _)) (pw_or (pt_cmpR op_ne (pe_fld (pv 5) rfl) (pv 1) (nomark _)) (pw_or1 (pt_not (pt_val (pe_mth (pv 5) (c_Is T) (m_Is_is_met T) (ok_Is_is_met T) (hr.mono (by decide)) (pa_cons (pv 7) pa_nil))))))))))) (pss_one (ps_ret (pv 6))) pss_nil)))))
      (pss_one (ps_ret pe_non))), ?_⟩)
  · obtain ⟨G, R, gh, ⟨s, cd, a, line, low, high, sts, st, c, rfl, _⟩, _⟩ := h
    rfl
  · obtain ⟨G, R, gh, ⟨s, cd, a, line, low, high, sts, st, c, rfl, hs, hst, hh, hz, hlz, hw, hcd, ha, rfl⟩, q⟩ := h
    rw [fitting_eq] at q
    refine st_forB (K := K) (F := Fm.no) (G := G) (Ys := ((List.range (high + 1 - low)).map (low + ·)).map isN) (Gr.refl (At.no gh)) (ei_to (ei_rng2 (ea_cons (ev_var (R := isN low) (i := 2) rfl rfl) (ea_cons (ev_I0 (g := fun i j => .int (i + j)) (ev_var (R := isN high) (i := 3) rfl rfl) ev_cI) ea_nil)) (by omega)) (range2_isN low high))
      (fun j σ G' H' => ∃ x y z u, σ = [some s, some (.int line), some (.int low), some (.int high), some cd, some a, x, y, z, u] ∧ (((List.range (high + 1 - low)).map (low + ·)).drop j).find? (fitB line st c) = ((List.range (high + 1 - low)).map (low + ·)).find? (fitB line st c)) (fun _ _ _ => ⟨_, _, _, _, rfl, rfl⟩) (fun i σ G' H' G1 H1 p _ _ => p) ?_ ?_
    · rintro j Y y σ' G3 H3 N hN hY g3 e3 hy ⟨x1, x2, x3, x4, rfl, hd⟩
      obtain ⟨n, hj, hn, rfl⟩ := get_map hY
      have hnh : n < st.length := by
        obtain ⟨k, hk, e⟩ := List.mem_map.mp hn
        have := List.mem_range.mp hk
        omega
      have hstn : st[n]? = some st[n] := List.getElem?_eq_getElem hnh
      have hgd : st.getD n [] = st[n] := by rw [List.getD_eq_getElem?_getD, hstn]; rfl
      rw [find_drop hj] at hd
      refine st_asg (ev_ixL (Rs := st.map fun l => rTup (l.map isI)) (R := rTup (st[n].map isI)) (ev_ixL (Rs := sts.map rSt) (R := rSt st) (ev_var (i := 0) rfl ((rLst _).mo _ _ _ g3.gg hs)) (ev_var (R := isN line) (i := 1) rfl rfl) (by rw [List.getElem?_map, hst]; rfl)) (ev_var (R := isN n) (i := 6) rfl hy) (by rw [List.getElem?_map, hstn]; rfl)) g3.at_ fun v4 G4 H4 g4 r4 => ?_
      have g04 := g3.trans g4
      refine st_asg (R := isB true) (ev_all (bs := []) (ev_lcF (F := Fm.no) (j := 9) (vs := [9]) ([] : List Cond) (rCond K) (fun _ => isB true) (fun _ => true) (ei_seqL (i := 4) rfl ((rSeq []).mo _ _ _ g04.gg hcd)) (by simp) (fun _ => rfl) (fun x hx => nomatch hx) fun x hx => nomatch hx)) g4.at_ fun v5 G5 H5 g5 r5 => ?_
      have g05 := g04.trans g5
      have ha5 := (rCond K c).mo _ _ _ g05.gg ha
      refine st_if (B := (· = fitB line st c n)) ((et_and (a := true) (b := fitB line st c n) (et_B (ev_var (i := 8) rfl r5)) fun _ => ?_).to (Bool.true_and _)) g5.at_ (fun G6 H6 g6 e6 => ?_) fun G6 H6 g6 e6 => ?_
      · refine (et_or (a := false) (b := fitB line st c n) (et_isN (ev_var (i := 5) rfl ha5) fun v G r => by
          obtain ⟨_, _, _, rfl, _⟩ := r
          rfl) fun _ => ?_).to (Bool.false_or _)
        unfold fitB
        refine et_or (et_test (ev_to (ev_ne (ev_fld (R := isN c.l) (c_Is T) (n_Is_line T) (ev_var (i := 5) rfl ha5) rfl) (ev_var (R := isN line) (i := 1) rfl rfl) rfl) ?_)) fun hcl => et_not (et_B (ev_meth (ev_var (i := 5) rfl ha5) rfl (ea_cons (ev_var (i := 7) rfl ((rTup _).mo _ _ _ g5.gg r4)) ea_nil) fun y vs G1 e r rs => ?_))
        · congr 1
          rw [← decide_not]
          refine decide_eq_decide.mpr ⟨fun z w => z (by rw [w]), fun z w => z ?_⟩
          injection w with w
          omega
        · obtain ⟨_, rfl, r1⟩ := all1 rs
          rw [hgd]
          exact ⟨y, _, c, st[n], rfl, r, .inl r1, hw (by simpa using hcl) _ (List.getElem_mem hnh), rfl⟩
      · rw [if_pos e6.symm] at hd
        rw [← hd] at q
        have hn' : n = _ := rfl
        exact ⟨_, rfl, q _ _ _ (g05.trans g6) hy⟩
      · rw [if_neg (by rw [← e6]; decide)] at hd
        exact hN _ G6 H6 ((g4.gg.trans g5.gg).trans g6.gg) (g05.trans g6) ⟨_, _, _, _, rfl, hd⟩
    · rintro σ' G3 H3 g3 e3 ⟨x1, x2, x3, x4, rfl, hd⟩
      rw [List.length_map, List.drop_length] at hd
      rw [← hd] at q
      exact q _ _ _ g3 rfl
def osAt (b : Bx) (sts : List (List (List Int))) (c : Cond) : List (Option Nat) := b.1.zipIdx.map fun p => fitting p.2 (sts.getD p.2 []) p.1 (b.2.getD p.2 0) (some c)
theorem leastIn_eq (b : Bx) (sts : List (List (List Int))) (c : Cond) : leastIn b sts (some c) = optAll (osAt b sts c) := rfl
def sp_least_in (K : PySem.W.Frag) : Sp := Prom fun vs G R => ∃ (bv s cd a : V) (b : Bx) (sts : List (List (List Int))) (c : Cond), vs = [bv, s, cd, a] ∧ (rBx K b).p bv G ∧ okBx b ∧ (rLst (sts.map rSt)).p s G ∧ okSt sts b c ∧ (rSeq []).p cd G ∧ (rCond K c).p a G ∧ R = rOpt rImg (leastIn b sts (some c))
theorem sc_least_in : FnScope ["box", "states", "conditions", "avoided", "found", "line", "low"] ["box", "states", "conditions", "avoided"] (defScope s_least_in) := ⟨rfl, rfl, rfl, by decide +kernel, rfl, by decide +kernel, by decide +kernel⟩
/- box=0 states=1 conditions=2 avoided=3 found=4 line=5 low=6; cells none; level 3 -/
theorem ok_least_in (T : Tx K mg) : Dk P w K mg base (He.ga K "least_in") 3 ["box", "states", "conditions", "avoided"] (sp_least_in K) := by
  refine dk_of (d_least_in_at T) sc_least_in (fun _ _ _ _ _ _ us hl => match us, hl with | [_, _, _, _], _ => rfl) (fun vs H Q E h => ?_) (fun cdv A outer s H vs Q E hr h => ⟨_, (pss_cons (ps_set (i := 4) sc_least_in.nd rfl (.inl rfl) (pe_lst pa_nil))
      (pss_cons (ps_for PassesOwn.never rfl (pi_enumS (by rfl) (f_enumerate T) (pa_cons (pe_fld (pv 0) rfl) pa_nil)) (pg_tup rfl (pgs_cons (pg_name (i := 5) sc_least_in.nd rfl (.inl rfl)) (pgs_cons (pg_name (i := 6) sc_least_in.nd rfl (.inl rfl)) pgs_nil))) (pss_one (ps_expr (pe_bm PySem.F.plainAttrs_list PySem.F.slot_list_append PySem.F.type_list_append mt_append (pv 4) (pa_cons (pe_fn (ok_fitting T) (hr.mono (by decide)) (g_fitting T) (pa_cons (pv 1) (pa_cons (pv 5) (pa_cons (pv 6) (pa_cons (pe_ix ix_tup (pe_fld (pv 0) rfl) (pv 5) (fun _ _ => rfl)) (pa_cons (pv 2) (pa_cons (pv 3) pa_nil))))))) pa_nil)))))
      (pss_one (ps_ret (pe_ifExp (pt_cmpR op_in_seq pe_non (pv 4) (by rfl)) pe_non (pe_callTy call_tuple_of (by rfl) (f_tuple T) bt_tuple (pa_cons (pv 4) pa_nil))))))), ?_⟩)
  · obtain ⟨G, R, gh, ⟨bv, s, cd, a, b, sts, c, rfl, _⟩, _⟩ := h
    rfl
  · obtain ⟨G, R, gh, ⟨bv, s, cd, a, b, sts, c, rfl, hb, ⟨ok1, ok2, ok3⟩, hs, ok, hcd, ha, rfl⟩, q⟩ := h
    refine st_new (Rs := []) ea_nil (by simp) (At.no gh) fun L us0 G1 H1 g1 nL gL _ eL hus0 => ?_
    cases hus0
    refine st_forB (K := K) g1 (ei_to (ei_enumT (ea_cons (ev_low T (ev_var (i := 0) rfl ((rBx K b).mo _ _ _ g1.gg hb))) ea_nil)) (enumR_map _ _)) (fun i σ G' H' => ∃ x y, σ = [some bv, some s, some cd, some a, some (.ref L), x, y] ∧ H' L = some (.lst (((osAt b sts c).take i).map optV)) ∧ G' L = none ∧ i ≤ 6)
      (fun G' H' g => ⟨_, _, rfl, g.ex _ _ eL, g.fr L (by rw [eL]; exact Option.some_ne_none _) gL, by decide⟩) (fun i σ G' H' G1 H1 ⟨x, y, e, p, p2, p3⟩ _ g => ⟨x, y, e, g.ex _ _ p, g.fr L (by rw [p]; exact Option.some_ne_none _) p2, p3⟩) ?_ ?_
    · rintro i Y y σ' G3 H3 N hN hY g3 e3 hy ⟨x1, x2, rfl, eL3, gL3, h6⟩
      obtain ⟨p, hi, hp, rfl⟩ := get_map hY
      refine g_two hy g3.gh fun vl vlow hl hlow => ?_
      have hlt : i < b.1.length := by
        have := (List.getElem?_eq_some_iff.mp hi).1
        rwa [List.length_zipIdx] at this
      have hpi : p = (b.1[i], i) := by
        rw [List.getElem?_zipIdx, List.getElem?_eq_getElem hlt] at hi
        have := Option.some.inj hi
        rw [← this, Nat.zero_add]
      subst hpi
      have hlt2 : i < b.2.length := by omega
      have hh : b.2[i]? = some b.2[i] := List.getElem?_eq_getElem hlt2
      have hlo : b.1[i]? = some b.1[i] := List.getElem?_eq_getElem hlt
      obtain ⟨st, h1, h2, h3⟩ := ok i _ _ hlo hh
      have okp := ok3 (b.1[i], b.2[i]) (List.mem_of_getElem? (List.getElem?_zip_eq_some.mpr ⟨hlo, hh⟩))
      have hb3 := (rBx K b).mo _ _ _ g3.gg hb
      have hos : (osAt b sts c)[i]? = some (fitting i st b.1[i] b.2[i] (some c)) := by
        unfold osAt
        rw [List.getElem?_map, hi]
        show some (fitting i (sts.getD i []) b.1[i] (b.2.getD i 0) (some c)) = _
        rw [List.getD_eq_getElem?_getD, h1, List.getD_eq_getElem?_getD, hh]
        rfl
      refine st_appR (i := 4) (p := L) rfl eL3 (ev_call (F := Fm.no) (R := rOptN (fitting i st b.1[i] b.2[i] (some c))) (ea_cons (ev_var (i := 1) rfl ((rLst _).mo _ _ _ g3.gg hs)) (ea_cons (ev_var (R := isN i) (i := 5) rfl hl) (ea_cons (ev_var (R := isN b.1[i]) (i := 6) rfl hlow) (ea_cons (ev_ixT (R := isN b.2[i]) (ev_high T (ev_var (i := 0) rfl hb3)) (ev_var (R := isN i) (i := 5) rfl hl) (by rw [List.getElem?_map, hh]; rfl)) (ea_cons (ev_var (i := 2) rfl ((rSeq []).mo _ _ _ g3.gg hcd)) (ea_cons (ev_var (i := 3) rfl ((rCond K c).mo _ _ _ g3.gg ha)) ea_nil)))))) (fun vs G1 e rs => ?_) G3 H3 (Ex.refl _) g3.at_ _ fun v4 G4 H4 g4 rv => ?_)
      · cases rs with
        | cons r1 rs =>
          cases rs with
          | cons r2 rs =>
            obtain ⟨_, _, _, _, rfl, r3, r4, r5, r6⟩ := all4 rs
            cases r2
            cases r3
            cases r4
            exact ⟨_, _, _, i, b.1[i], b.2[i], sts, st, c, rfl, r1, h1, h2, okp.2, Nat.le_trans okp.1 okp.2, h3, r5, r6, rfl⟩
      · have eL4 := g4.ex _ _ eL3
        have gL4 := g4.fr L (by rw [eL3]; exact Option.some_ne_none _) gL3
        rw [rOptN_eq] at rv
        cases rv
        refine app_end eL4 (by rw [List.length_map, List.length_take]; omega) (hN _ G4 _ g4.gg ((g3.trans g4).wrNo nL gL4) ⟨_, _, rfl, ?_, gL4, by omega⟩)
        rw [upd_same, List.take_add_one, hos, List.map_append]
        rfl
    · rintro σ' G3 H3 g3 e3 ⟨x1, x2, rfl, eL3, gL3, _⟩
      have hol : (osAt b sts c).length = b.1.zipIdx.length := List.length_map _
      rw [List.length_map, ← hol, List.take_length] at eL3
      have gf := g3.fixNo nL gL3 eL3
      rw [leastIn_eq] at q
      have hin : ∀ {G1 H1}, Ex (upd G3 L (.lst ((osAt b sts c).map optV))) G1 → Ex G1 H1 → SqL K H1 L ((osAt b sts c).map optV) := fun e e' => sq_of (e' _ _ (e _ _ upd_same))
      have het : EvT Fm.no (tTest (tOp (rIn K false) (tC .non) (tVar 4))) [some bv, some s, some cd, some a, some (.ref L), x1, x2] (upd G3 L (.lst ((osAt b sts c).map optV))) (· = (osAt b sts c).any (·.isNone)) := fun G1 H1 e a Q q => by
        refine ⟨.ref L, rfl, L, _, rfl, .inl (hin e a.gh), rfl, flat_opts _, ?_⟩
        exact ⟨_, rfl, q _ _ _ (Gr.refl a) (inV_none _)⟩
      have hev : Ev Fm.no (tIf (tTest (tOp (rIn K false) (tC .non) (tVar 4))) (tC .non) (tCB (rTupOf K) (tCons (tVar 4) tNil))) [some bv, some s, some cd, some a, some (.ref L), x1, x2] (upd G3 L (.lst ((osAt b sts c).map optV))) (rOpt rImg (optAll (osAt b sts c))) := by
        refine ev_if het (fun e G1 H1 ex a Q q => ?_) fun e G1 H1 ex a Q q => ?_
        · rw [optAll_none _ e.symm] at q
          exact q _ _ _ (Gr.refl a) rfl
        · rw [optAll_some _ e.symm] at q
          refine ⟨.ref L, rfl, L, _, rfl, .inl ⟨hin ex a.gh, fun l hl => q _ _ _ (Gr.new a hl) ⟨l, _, rfl, upd_same, ?_⟩⟩⟩
          have e2 : ((osAt b sts c).map optV) = ((osAt b sts c).map (·.getD 0)).map fun n : Nat => V.int n := by
            rw [List.map_map]
            refine List.map_congr_left fun o ho => ?_
            cases o with
            | none =>
              have : (osAt b sts c).any (·.isNone) = true := List.any_eq_true.mpr ⟨none, ho, rfl⟩
              rw [this] at e
              cases e
            | some n => rfl
          rw [e2]
          exact all_of _ _
      exact st_ret hev gf.at_ fun v4 G4 H4 g4 rv => q _ _ _ (gf.trans g4) rv
end
end Ls


/-! LsW12 -/
namespace Ls
open PySem PySem.Spec PyProof.Rows L2
def candOf (sts : List (List (List Int))) (ws : List Cond) (b : Bx) : List Img := ws.filterMap fun c => leastIn b sts (some c)
def isMin (is : List Img) (i : Img) : Prop := ∃ i0 r, is = i0 :: r ∧ i ∈ is ∧ eImg i = PySem.W.minD (eImg i0) (r.map eImg)
def BrokenIs (sts : List (List (List Int))) (ws : List Cond) : List Bx → Option Img → Prop
  | [], o => o = none
  | b :: r, o => (candOf sts ws b = [] ∧ BrokenIs sts ws r o) ∨ (candOf sts ws b ≠ [] ∧ ∃ i, o = some i ∧ isMin (candOf sts ws b) i)
theorem filter_opt {α : Type} (f : α → Option Img) : ∀ xs : List α, (xs.filter fun c => (f c).isSome).map (fun c => rOpt rImg (f c)) = (xs.filterMap f).map rImg
  | [] => rfl
  | x :: xs => by
    have ih := filter_opt f xs
    cases h : f x with
    | none => rw [List.filter_cons, if_neg (by rw [h]; decide), List.filterMap_cons, h, ih]
    | some i => rw [List.filter_cons, if_pos (by rw [h]; rfl), List.filterMap_cons, h, List.map_cons, List.map_cons, ih, h]; rfl
section
variable {P : Program} {w : World} {K : PySem.W.Frag} {mg : Str → Option Value} {base : Heap}
def sp_broken (K : PySem.W.Frag) : Sp := Prom fun vs G R => ∃ (v g wv : V) (sz : List Nat) (cs : List Cmd) (ws : List Cond), vs = [v, g, wv] ∧ (rProg K sz cs).p v G ∧ okProg sz cs ∧ okBs (boxesOf sz.length cs) ∧ (rSeq []).p g G ∧ (rLst (ws.map (rCond K))).p wv G ∧ (∀ c ∈ ws, okCond sz c) ∧ ws.length ≤ 100 ∧
  (∀ b ∈ boxesOf sz.length cs, ∀ c ∈ ws, okSt (statesOf (storesOf cs) (blank sz)) b c) ∧ R = rSome fun o => rIf (BrokenIs (statesOf (storesOf cs) (blank sz)) ws (boxesOf sz.length cs) o) (rOpt rImg o)
theorem sc_broken : FnScope ["program", "given", "wanted", "states", "box", "some", "found", "avoided", "image"] ["program", "given", "wanted"] (defScope s_broken) := ⟨rfl, rfl, rfl, by decide +kernel, rfl, by decide +kernel, by decide +kernel⟩
/- program=0 given=1 wanted=2 states=3 box=4 some=5 found=6 avoided=7 image=8; cells box given states; level 5 -/
theorem ok_broken (T : Tx K mg) : Dk P w K mg base (He.ga K "broken") 5 ["program", "given", "wanted"] (sp_broken K) := by
  refine dk_of (d_broken_at T) sc_broken (fun _ _ _ _ _ _ us hl => match us, hl with | [_, _, _], _ => rfl) (fun vs H Q E h => ?_) (fun cdv A outer s H vs Q E hr h => ⟨_, (pss_cons (ps_expr (pe_fn (ok_check_conditions T) (hr.mono (by decide)) (g_check_conditions T) (pa_cons (pe_fld (pv 0) rfl) (pa_cons (pv 1) pa_nil))))
      (pss_cons (ps_expr (pe_fn (ok_check_conditions T) (hr.mono (by decide)) (g_check_conditions T) (pa_cons (pe_fld (pv 0) rfl) (pa_cons (pv 2) pa_nil))))
      (pss_cons (ps_set (i := 3) sc_broken.nd rfl (.inr rfl) (pe_fn (ok_states_of T) (hr.mono (by decide)) (g_states_of T) (pa_cons (pe_fld (pv 0) rfl) (pa_cons (pe_fn (ok_stores T) (hr.mono (by decide)) (g_stores T) (pa_cons (pv 0) pa_nil)) (pa_cons (pe_fn (ok_blank T) (hr.mono (by decide)) (g_blank T) (pa_cons (pe_fld (pv 0) rfl) pa_nil)) pa_nil)))))
      (pss_cons (ps_for PassesOwn.never rfl (pi_list (pe_fn (ok_boxes T) (hr.mono (by decide)) (g_boxes T) (pa_cons (pv 0) pa_nil))) (pg_name (i := 4) sc_broken.nd rfl (.inr rfl)) (pss_cons (ps_setLc (i := 5) (own := [("avoided", 7)]) (g := gName 7) (tt := tYes) rfl sc_broken.nd rfl rfl (sw_true rfl rfl rfl (by kernel_rfl)) (pi_list (pv 2)) (blkOk_by (by kernel_rfl)) (fun _ _ _ _ _ => (pg_name (i := 7) sc_broken.nd rfl (.inl rfl))) (fun _ _ _ _ _ => pts_nil) (fun _ _ _ _ _ => (pe_fn (ok_least_in T) (hr.mono (by decide)) (g_least_in T) (pa_cons (pv 4) (pa_cons (pv 3) (pa_cons (pv 1) (pa_cons (pv 7) pa_nil)))))))
      (pss_cons (ps_setLc (i := 6) (own := [("image", 8)]) (g := gName 8) rfl sc_broken.nd rfl rfl (sw_true rfl rfl rfl (by kernel_rfl)) (pi_list (pv 5)) (blkOk_by (by kernel_rfl)) (fun _ _ _ _ _ => (pg_name (i := 8) sc_broken.nd rfl (.inl rfl))) (fun _ _ _ _ _ => (pts_one (pt_cmpR op_notN1 (pv 8) pe_non (nomark _)))) (fun _ _ _ _ _ => (pv 8)))
      (pss_one (ps_if (pt_cmpR (op_neD hr.units) (pv 6) (pe_lst pa_nil) (nomark _)) (pss_one (ps_ret (pe_callB (cr_minT rfl (hu65 hr)) (by rfl) (f_min T) bt_min (pa_cons (pv 6) pa_nil)))) pss_nil)))))
      (pss_one (ps_ret pe_non)))))), ?_⟩)
  · obtain ⟨G, R, gh, ⟨v, g, wv, sz, cs, ws, rfl, _⟩, _⟩ := h
    rfl
  · obtain ⟨G, R, gh, ⟨v, g, wv, sz, cs, ws, rfl, hv, okp, okb, hg, hw, okc, hwl, oks, rfl⟩, q⟩ := h
    have hmem : ∀ G' : Hp, Ex G G' → Ev Fm.no (tFld K (tVar 0) "memory") (start ["program", "given", "wanted", "states", "box", "some", "found", "avoided", "image"] [v, g, wv]) G' (rMem K sz) := fun G' e => ev_fld (c_Program T) (n_Program_memory T) (ev_var rfl ((rProg K sz cs).mo _ _ _ e hv)) rfl
    refine st_drop (R := isV .non) (ev_call (ea_cons (hmem G (Ex.refl _)) (ea_cons (ev_var (i := 1) rfl hg) ea_nil)) fun vs G1 e rs => ?_) (At.no gh) fun v0 G0 H0 g0 _ => ?_
    · obtain ⟨_, _, rfl, r1, r2⟩ := all2 rs
      exact ⟨_, _, sz, [], rfl, r1, r2, (fun c hc => nomatch hc), rfl⟩
    refine st_drop (R := isV .non) (ev_call (ea_cons (hmem G0 g0.gg) (ea_cons (ev_var (i := 2) rfl ((rLst _).mo _ _ _ g0.gg hw)) ea_nil)) fun vs G1 e rs => ?_) g0.at_ fun v1 G1 H1 g1 _ => ?_
    · obtain ⟨_, _, rfl, r1, r2⟩ := all2 rs
      exact ⟨_, _, sz, ws, rfl, r1, .inr r2, okc, rfl⟩
    have g01 := g0.trans g1
    refine st_asg (ev_sts T (i := 0) rfl ((rProg K sz cs).mo _ _ _ g01.gg hv) okp) g01.at_ fun v2 G2 H2 g2 hst => ?_
    have g02 := g01.trans g2
    refine st_forB (K := K) g02 (ei_list (ev_boxes (i := 0) rfl ((rProg K sz cs).mo _ _ _ g02.gg hv) okp)) (fun j σ G' H' => ∃ x1 x2 x3 x4 x5, σ = [some v, some g, some wv, some v2, x1, x2, x3, x4, x5] ∧ ∀ o, BrokenIs (statesOf (storesOf cs) (blank sz)) ws ((boxesOf sz.length cs).drop j) o → BrokenIs (statesOf (storesOf cs) (blank sz)) ws (boxesOf sz.length cs) o) (fun _ _ _ => ⟨_, _, _, _, _, rfl, fun _ z => z⟩) (fun i σ G' H' G1 H1 p _ _ => p) ?_ ?_
    · rintro j Y y σ' G3 H3 N hN hY g3 e3 hy ⟨x1, x2, x3, x4, x5, rfl, hd⟩
      obtain ⟨b, hj, hb, rfl⟩ := get_map hY
      have ok := okb b hb
      have hdr : (boxesOf sz.length cs).drop j = b :: (boxesOf sz.length cs).drop (j + 1) := by
        obtain ⟨h1, h2⟩ := List.getElem?_eq_some_iff.mp hj
        rw [← h2]
        exact List.drop_eq_getElem_cons h1
      rw [hdr] at hd
      have hst3 := (rLst ((statesOf (storesOf cs) (blank sz)).map rSt)).mo _ _ _ e3 hst
      refine st_asg (ev_lcM (j := 7) (vs := [7]) ws (rCond K) (fun c => rOpt rImg (leastIn b (statesOf (storesOf cs) (blank sz)) (some c))) (ei_list (ev_var (i := 2) rfl ((rLst _).mo _ _ _ g3.gg hw))) (by omega) (fun _ => rfl) fun c hc x G1 e r => ev_call (ea_cons (ev_var (i := 4) rfl ((rBx K b).mo _ _ _ e hy)) (ea_cons (ev_var (i := 3) rfl ((rLst _).mo _ _ _ e hst3)) (ea_cons (ev_var (i := 1) rfl ((rSeq []).mo _ _ _ (g3.gg.trans e) hg)) (ea_cons (ev_var (i := 7) rfl r) ea_nil)))) fun vs G1 e rs => ?_) g3.at_ fun v4 G4 H4 g4 r4 => ?_
      · obtain ⟨_, _, _, _, rfl, r1, r2, r3, r4⟩ := all4 rs
        exact ⟨_, _, _, _, b, _, c, rfl, r1, ok, r2, oks b hb c hc, r3, r4, rfl⟩
      refine st_asg (ev_to (ev_lcF (j := 8) (vs := [8]) ws (fun c => rOpt rImg (leastIn b (statesOf (storesOf cs) (blank sz)) (some c))) (fun c => rOpt rImg (leastIn b (statesOf (storesOf cs) (blank sz)) (some c))) (fun c => (leastIn b (statesOf (storesOf cs) (blank sz)) (some c)).isSome) (ei_list (ev_var (i := 5) rfl r4)) (by omega) (fun _ => rfl) (fun c hc x G1 e r => ?_) (fun c hc x G1 e r _ => ev_var (i := 8) rfl r)) (congrArg rLst (filter_opt _ ws))) g4.at_ fun v5 G5 H5 g5 r5 => ?_
      · refine (et_notN (b := !(leastIn b (statesOf (storesOf cs) (blank sz)) (some c)).isSome) (ev_var (i := 8) rfl r) fun v G r => ?_).to (Bool.not_not _)
        cases h : leastIn b (statesOf (storesOf cs) (blank sz)) (some c) with
        | none =>
          rw [h] at r
          cases r
          rfl
        | some i =>
          rw [h] at r
          obtain ⟨p, us, rfl, _⟩ := r
          rfl
      have g05 := (g3.trans g4).trans g5
      refine st_if (B := (· = !decide (candOf (statesOf (storesOf cs) (blank sz)) ws b = []))) (et_test (ev_to (ev_neD (K := K) (d := .list ((candOf (statesOf (storesOf cs) (blank sz)) ws b).map eImg)) (e := .list []) (ev_var (i := 6) rfl r5) (ev_lst ea_nil (by simp)) (dat_lst (dat_map (fun _ => dat_img) _)) (dat_lst .nil) (sh_map (fun _ => sh_img) _) (sh_lst (n := 1) fun d hd => nomatch hd)) ?_)) g5.at_ (fun G6 H6 g6 e6 => ?_) fun G6 H6 g6 e6 => ?_
      · have := enc_lst enc_img (candOf (statesOf (storesOf cs) (blank sz)) ws b) []
        exact congrArg (fun z => isB (!z)) this
      · have hne : candOf (statesOf (storesOf cs) (blank sz)) ws b ≠ [] := fun z => by
          rw [decide_eq_true z] at e6
          cases e6
        cases hc : candOf (statesOf (storesOf cs) (blank sz)) ws b with
        | nil => exact absurd hc hne
        | cons i0 is =>
          have r5' : (rLst ((i0 :: is).map rImg)).p v5 G6 := by
            have := (rLst _).mo _ _ _ g6.gg r5
            rw [show (ws.filterMap fun c => leastIn b (statesOf (storesOf cs) (blank sz)) (some c)) = i0 :: is from hc] at this
            exact this
          refine st_ret (ev_minT (ev_var (i := 6) rfl r5') (alike_imgs _)) g6.at_ fun v7 G7 H7 g7 ⟨i, ⟨hi, hm⟩, ri⟩ => q _ _ _ ((g05.trans g6).trans g7) ⟨some i, hd _ (.inr ⟨hne, i, rfl, i0, is, hc, ?_, hm⟩), ri⟩
          rw [hc]
          exact hi
      · have he : candOf (statesOf (storesOf cs) (blank sz)) ws b = [] := by
          have : decide (candOf (statesOf (storesOf cs) (blank sz)) ws b = []) = true := by
            cases h : decide (candOf (statesOf (storesOf cs) (blank sz)) ws b = []) with
            | true => rfl
            | false =>
              rw [h] at e6
              cases e6
          exact of_decide_eq_true this
        exact hN _ G6 H6 ((g4.gg.trans g5.gg).trans g6.gg) (g05.trans g6) ⟨_, _, _, _, _, rfl, fun o ho => hd o (.inl ⟨he, ho⟩)⟩
    · rintro σ' G3 H3 g3 e3 ⟨x1, x2, x3, x4, x5, rfl, hd⟩
      rw [List.length_map, List.drop_length] at hd
      exact q _ _ _ g3 ⟨none, hd none rfl, rfl⟩
/-! ### recoveries -/
def shp (sz : List Nat) (x : Words) : Prop := x.map List.length = sz
def sp_check_words (K : PySem.W.Frag) : Sp := Prom fun vs G R => ∃ (m u : V) (sz : List Nat) (x : Words), vs = [m, u] ∧ (rMem K sz).p m G ∧ okMem sz ∧ (rWords x).p u G ∧ shp sz x ∧ R = isV .non
theorem sc_check_words : FnScope ["memory", "words", "line"] ["memory", "words"] (defScope s_check_words) := ⟨rfl, rfl, rfl, by decide +kernel, rfl, by decide +kernel, by decide +kernel⟩
/- memory=0 words=1 line=2; cells none; level 1 -/
theorem ok_check_words (T : Tx K mg) : Dk P w K mg base (He.ga K "check_words") 1 ["memory", "words"] (sp_check_words K) := by
  refine dk_of (d_check_words_at T) sc_check_words (fun _ _ _ _ _ _ us hl => match us, hl with | [_, _], _ => rfl) (fun vs H Q E h => ?_) (fun cdv A outer s H vs Q E hr h => ⟨_, (pss_one (ps_if (pt_cmpR (op_neD hr.units) (pe_lc (own := [("line", 2)]) (g := gName 2) (tt := tYes) rfl sc_check_words.nd (pi_tup (pv 1)) (blkOk_by (by kernel_rfl)) (fun _ _ _ _ _ => (pg_name (i := 2) sc_check_words.nd rfl (.inl rfl))) (fun _ _ _ _ _ => pts_nil) (fun _ _ _ _ _ => (pe_callB (k_call_len_seq (K := K) rfl) (by rfl) (f_len T) bt_len (pa_cons (pv 2) pa_nil)))) (pe_callTy call_list_of (by rfl) (f_list T) bt_list (pa_cons (pe_fld (pv 0) rfl) pa_nil)) (nomark _)) (pss_one ps_never) pss_nil)), ?_⟩)
  · obtain ⟨G, R, gh, ⟨m, u, sz, x, rfl, _⟩, _⟩ := h
    rfl
  · obtain ⟨G, R, gh, ⟨m, u, sz, x, rfl, hm, okm, hu, hs, rfl⟩, q⟩ := h
    have hxl : x.length = sz.length := by rw [← hs, List.length_map]
    have hxz : x.length ≤ 1000000 := by
      have := okm.2.1
      omega
    have hd : ∀ xs : List Nat, Dat K (rLst (xs.map isN)) (.list (xs.map fun n : Nat => PyData.int n)) := fun xs => dat_lst (dat_map (fun _ => dat_nat) xs)
    refine st_if (B := (· = false)) (et_test (ev_to (ev_neD (K := K) (d := .list (sz.map fun n : Nat => PyData.int n)) (e := .list (sz.map fun n : Nat => PyData.int n)) (ev_to (ev_lcM (F := Fm.no) (j := 2) (vs := [2]) (σ := [some m, some u, none]) x (fun l => rTup (l.map isI)) (fun l => isN l.length) (ei_tup (ev_var (i := 1) rfl hu)) hxz (fun _ => rfl) fun l _ y G1 e r => ev_to (ev_lenT (ev_var (i := 2) rfl r)) (by rw [List.length_map])) (S := rLst (sz.map isN)) ?_) (ev_listT (ev_fld (R := rTup (sz.map isN)) (c_Memory T) (n_Memory_sizes T) (ev_var (i := 0) rfl hm) rfl)) (hd sz) (hd sz) (sh_map (fun _ => sh_int (n := 0)) sz) (sh_map (fun _ => sh_int (n := 0)) sz)) ?_)) (At.no gh) (fun G1 H1 g1 z => nomatch z) fun G1 H1 g1 _ => q _ _ _ g1 rfl
    · rw [← hs, List.map_map]
      rfl
    · have := enc_lst enc_nat sz sz
      exact congrArg (fun z => isB (!z)) (this.trans (decide_eq_true rfl))
def okMv (sz : List Nat) : Mv → Prop
  | .store s => okSto sz s
  | .copy l w fl fw => okAt sz l w ∧ okAt sz fl fw
theorem at2_get {sz : List Nat} {x : Words} (hs : shp sz x) {l w : Nat} (ok : okAt sz l w) : ∃ line : List Int, x[l]? = some line ∧ w < line.length ∧ line[w]? = some (at2 x l w) := by
  obtain ⟨s, h1, h2⟩ := ok
  unfold shp at hs
  rw [← hs, List.getElem?_map] at h1
  obtain ⟨line, h3, h4⟩ := Option.map_eq_some_iff.mp h1
  refine ⟨line, h3, by omega, ?_⟩
  unfold at2
  rw [List.getD_eq_getElem?_getD, List.getD_eq_getElem?_getD, h3]
  show line[w]? = some (line[w]?.getD 0)
  rw [List.getElem?_eq_getElem (by omega)]
  rfl
def sp_written (K : PySem.W.Frag) : Sp := Prom fun vs G R => ∃ (v u : V) (sz : List Nat) (m : Mv) (x : Words), vs = [v, u] ∧ (rMv K m).p v G ∧ (rNow x).p u G ∧ shp sz x ∧ okMv sz m ∧ R = rSto K (writtenOf m x)
theorem sc_written : FnScope ["move", "words"] ["move", "words"] (defScope s_written) := ⟨rfl, rfl, rfl, by decide +kernel, rfl, by decide +kernel, by decide +kernel⟩
/- move=0 words=1; cells none; level 3 -/
theorem ok_written (T : Tx K mg) : Dk P w K mg base (He.ga K "written") 3 ["move", "words"] (sp_written K) := by
  refine dk_of (d_written_at T) sc_written (fun _ _ _ _ _ _ us hl => match us, hl with | [_, _], _ => rfl) (fun vs H Q E h => ?_) (fun cdv A outer s H vs Q E hr h => ⟨_, (pss_cons (ps_if (pt_val (pe_callB call_isi (by rfl) (f_isinstance T) bt_isinstance (pa_cons (pv 0) (pa_cons (pe_gl (v := .ref (He.ga K "Store")) ⟨_, g_Store T, rfl⟩) pa_nil)))) (pss_one (ps_ret (pv 0))) pss_nil)
      (pss_one (ps_ret (pe_mk (mk_Store T) (ok_Store_init T) (hr.mono (by decide)) (g_Store T) (pa_cons (pe_fld (pv 0) rfl) (pa_cons (pe_fld (pv 0) rfl) (pa_cons (pe_ix ix_list (pe_ix ix_list (pv 1) (pe_fld (pv 0) rfl) (fun _ _ => rfl)) (pe_fld (pv 0) rfl) (fun _ _ => rfl)) pa_nil))))))), ?_⟩)
  · obtain ⟨G, R, gh, ⟨v, u, sz, m, x, rfl, _⟩, _⟩ := h
    rfl
  · obtain ⟨G, R, gh, ⟨v, u, sz, m, x, rfl, hv, hu, hs, ok, rfl⟩, q⟩ := h
    cases m with
    | store s =>
      refine st_if (et_B (ev_isi (ev_var (i := 0) rfl hv) (is_Store_Store T) fun H a dx vs e => ty_Store T e)) (At.no gh) (fun G1 H1 g1 _ => ?_) fun G1 H1 g1 z => nomatch z
      exact ⟨_, rfl, q _ _ _ g1 ((rMv K (.store s)).mo _ _ _ g1.gg hv)⟩
    | copy l w fl fw =>
      obtain ⟨_, ok2⟩ := ok
      obtain ⟨line, h1, h2, h3⟩ := at2_get hs ok2
      refine st_if (et_B (ev_isi (ev_var (i := 0) rfl hv) (is_Copy_Store T) fun H a dx vs e => ty_Copy T e)) (At.no gh) (fun G1 H1 g1 z => nomatch z) fun G1 H1 g1 _ => ?_
      have hv1 := (rMv K (.copy l w fl fw)).mo _ _ _ g1.gg hv
      have hu1 := (rNow x).mo _ _ _ g1.gg hu
      refine st_ret (ev_make (ea_cons (ev_fld (R := isN l) (c_Copy T) (n_Copy_line T) (ev_var (i := 0) rfl hv1) rfl) (ea_cons (ev_fld (R := isN w) (c_Copy T) (n_Copy_word T) (ev_var (i := 0) rfl hv1) rfl) (ea_cons (ev_ixL (R := isI (at2 x fl fw)) (Rs := line.map isI) (ev_ixL (R := rLst (line.map isI)) (Rs := x.map fun l : List Int => rLst (l.map isI)) (ev_var (i := 1) rfl hu1) (ev_fld (R := isN fl) (c_Copy T) (n_Copy_from_line T) (ev_var (i := 0) rfl hv1) rfl) (by rw [List.getElem?_map, h1]; rfl)) (ev_fld (R := isN fw) (c_Copy T) (n_Copy_from_word T) (ev_var (i := 0) rfl hv1) rfl) (by rw [List.getElem?_map, h3]; rfl)) ea_nil))) fun vs G1 e rs => ?_) g1.at_ fun v2 G2 H2 g2 rv => q _ _ _ (g1.trans g2) rv
      obtain ⟨_, _, _, rfl, rfl, rfl, rfl⟩ := all3 rs
      exact ⟨l, w, at2 x fl fw, rfl, rfl⟩
end
end Ls


/-! LsW13 -/
namespace Ls
open PySem PySem.Spec PyProof.Rows L2
/-! ### words that are written -/
def NP (p : Addr) (as : List Addr) : Addr → Prop := fun b => b = p ∨ b ∈ as
structure NowAt (p : Addr) (as : List Addr) (x : Words) (H : Hp) : Prop where
  hp : H p = some (.lst (as.map V.ref))
  hl : Paired (fun (a : Addr) (l : List Int) => H a = some (.lst (l.map V.int))) as x
  nd : as.Nodup
  np : p ∉ as
structure NowL (p : Addr) (as : List Addr) (x : Words) (H0 G H : Hp) : Prop where
  at_ : NowAt p as x H
  n0 : ∀ b, NP p as b → H0 b = none
  ng : ∀ b, NP p as b → G b = none
theorem pget1 {α β : Type} {F : α → β → Prop} : ∀ {xs : List α} {ys : List β}, Paired F xs ys → ∀ {i : Nat} {y : β}, ys[i]? = some y → ∃ x, xs[i]? = some x ∧ F x y
  | _, _, .nil, i, x, h => by simp at h
  | _, _, .cons r t, 0, x, h => by
    have e := Option.some.inj h
    subst e
    exact ⟨_, rfl, r⟩
  | _, _, .cons r t, i + 1, x, h => pget1 t (by simpa using h)
section
variable {p : Addr} {as : List Addr} {x : Words} {H H' H0 G G1 H1 : Hp}
theorem NowAt.there (h : NowAt p as x H) : ∀ b, NP p as b → ∃ o, H b = some (.lst o) := fun b hb => by
  rcases hb with z | z
  · rw [z, h.hp]
    exact ⟨_, rfl⟩
  · obtain ⟨j, y, _, _, e⟩ := LiI.paired_ix h.hl z
    exact ⟨_, e⟩
theorem NowAt.same (h : NowAt p as x H) (k : ∀ b, NP p as b → H' b = H b) : NowAt p as x H' := by
  refine ⟨(k p (.inl rfl)).trans h.hp, ?_, h.nd, h.np⟩
  have go : ∀ {as' : List Addr} {x' : Words}, (∀ a ∈ as', a ∈ as) → Paired (fun (a : Addr) (l : List Int) => H a = some (.lst (l.map V.int))) as' x' → Paired (fun (a : Addr) (l : List Int) => H' a = some (.lst (l.map V.int))) as' x' := by
    intro as'
    induction as' with
    | nil =>
      intro x' _ h
      cases h
      exact .nil
    | cons a as' ih =>
      intro x' hm h
      cases h with
      | cons r t => exact .cons ((k a (.inr (hm a List.mem_cons_self))).trans r) (ih (fun b hb => hm b (List.mem_cons_of_mem _ hb)) t)
  exact go (fun a h => h) h.hl
theorem NowAt.ex (h : NowAt p as x H) (k : Ex H H') : NowAt p as x H' := h.same fun b hb => by
  obtain ⟨o, e⟩ := h.there b hb
  rw [e, k _ _ e]
theorem NowL.mo (h : NowL p as x H0 G H) (g : Gr Fm.no G H G1 H1) : NowL p as x H0 G1 H1 := ⟨h.at_.ex g.ex, h.n0, fun b hb => g.fr b (by
  obtain ⟨o, e⟩ := h.at_.there b hb
  rw [e]
  exact Option.some_ne_none _) (h.ng b hb)⟩
theorem NowL.loc (h : NowL p as x H0 G H) : Loc Fm.no (NP p as) G H := ⟨h.ng, fun b hb => by
  obtain ⟨o, e⟩ := h.at_.there b hb
  rw [e]
  exact Option.some_ne_none _, fun _ _ z => z⟩
/-- as they are known for a while -/
theorem NowAt.rep (h : NowAt p as x H) : (rNow x).p (.ref p) (put (NP p as) H G) := by
  refine ⟨p, as.map V.ref, rfl, by rw [put_in (.inl rfl)]; exact h.hp, ?_⟩
  have go : ∀ {as' : List Addr} {x' : Words}, (∀ a ∈ as', a ∈ as) → Paired (fun (a : Addr) (l : List Int) => H a = some (.lst (l.map V.int))) as' x' → All (x'.map fun l => rLst (l.map isI)) (as'.map V.ref) (put (NP p as) H G) := by
    intro as'
    induction as' with
    | nil =>
      intro x' _ h
      cases h
      exact .nil
    | cons a as' ih =>
      intro x' hm h
      cases h with
      | cons r t => exact .cons ⟨a, _, rfl, by rw [put_in (.inr (hm a List.mem_cons_self))]; exact r, all_of _ _⟩ (ih (fun b hb => hm b (List.mem_cons_of_mem _ hb)) t)
  exact go (fun a h => h) h.hl
theorem paired_set {F F' : Addr → List Int → Prop} : ∀ {as : List Addr} {x : Words} {i : Nat} {a : Addr} {l' : List Int}, Paired F as x → as.Nodup → as[i]? = some a → (∀ b l, b ≠ a → F b l → F' b l) → F' a l' → Paired F' as (x.set i l')
  | _, _, i, a, l', .nil, _, h, _, _ => by simp at h
  | _ :: as, _ :: x, 0, a, l', .cons r t, nd, h, k, f => by
    have e := Option.some.inj h
    subst e
    have nd' := List.nodup_cons.mp nd
    refine .cons f ?_
    have go : ∀ {as' : List Addr} {x' : Words}, (∀ b ∈ as', b ∈ as) → Paired F as' x' → Paired F' as' x' := by
      intro as'
      induction as' with
      | nil =>
        intro x' _ h
        cases h
        exact .nil
      | cons b as' ih =>
        intro x' hm h
        cases h with
        | cons r t => exact .cons (k _ _ (fun z => nd'.1 (by rw [← z]; exact hm b List.mem_cons_self)) r) (ih (fun c hc => hm c (List.mem_cons_of_mem _ hc)) t)
    exact go (fun b h => h) t
  | _ :: as, _ :: x, i + 1, a, l', .cons r t, nd, h, k, f => by
    have nd' := List.nodup_cons.mp nd
    have ha : as[i]? = some a := by simpa using h
    exact .cons (k _ _ (fun z => nd'.1 (by rw [z]; exact List.mem_of_getElem? ha)) r) (paired_set t nd'.2 ha k f)
/-- one number is written -/
theorem NowAt.put (h : NowAt p as x H) {l w : Nat} {n : Int} {a : Addr} {line : List Int} (ha : as[l]? = some a) (hx : x[l]? = some line) : NowAt p as (putW x ⟨l, w, n⟩) (upd H a (.lst ((line.map V.int).set w (.int n)))) := by
  have ma : a ∈ as := List.mem_of_getElem? ha
  have pa : p ≠ a := fun z => h.np (by rw [z]; exact ma)
  refine ⟨by rw [upd_ne pa]; exact h.hp, ?_, h.nd, h.np⟩
  refine paired_set h.hl h.nd ha (fun b l hb e => by rw [upd_ne hb]; exact e) ?_
  rw [upd_same, List.getD_eq_getElem?_getD, hx, ← List.map_set]
  rfl
end
/-- [list(line) for line in words] -/
theorem lc_lists {K : PySem.W.Frag} {F : Fm} {σ : L2.St} {G H : Hp} {wi : TI} {j : Nat} {vs : List Nat} {x : Words} {Q : VK} (hI : EvI F wi σ G (x.map fun l => rTup (l.map isI))) (hz : x.length ≤ 1000000) (hw : ∀ v, wipe ((wipe σ vs).set j (some v)) vs = wipe σ vs) (hj : ∀ v, ((wipe σ vs).set j (some v))[j]? = some (some v))
    (at_ : At F G H) (q : ∀ p as H', Gr F G H G H' → NowAt p as x H' → (∀ b, NP p as b → H b = none ∧ G b = none) → Q (.ref p) H') : tLc wi (gName j) tYes (tCB (rLstOf K) (tCons (tVar j) tNil)) vs σ H Q := by
  refine hI G H (Ex.refl _) at_ _ fun J G1 H1 g1 src D hD => ?_
  have gD : Gr F G H G1 (upd H1 D (.lst [])) := g1.trans (Gr.newH g1.at_ hD)
  have nD0 : H D = none := g1.none hD
  refine ⟨fun i m H' => m = x.length - i ∧ i ≤ x.length ∧ ∃ G' as, Ex G1 G' ∧ Gr F G H G' H' ∧ G' D = none ∧ NowAt D as (x.take i) H' ∧ (∀ b ∈ as, H b = none ∧ G' b = none), ⟨x.length, rfl, Nat.zero_le _, G1, [], Ex.refl _, gD, g1.at_.none hD, ⟨upd_same, .nil, List.nodup_nil, fun z => nomatch z⟩, fun b hb => nomatch hb⟩, ?_⟩
  rintro i m H' ⟨rfl, hi, G2, as, e2, g2, nD, na, hn⟩
  have hlen : (x.map fun l => rTup (l.map isI)).length = x.length := List.length_map _
  by_cases hlt : i < x.length
  · refine .inr ⟨src.go i H' (by rw [hlen]; exact hlt) (e2.trans g2.gh), fun H'' => ∃ G' as, Ex G1 G' ∧ Gr F G H G' H'' ∧ G' D = none ∧ NowAt D as (x.take (i + 1)) H'' ∧ (∀ b ∈ as, H b = none ∧ G' b = none), fun H'' p' => ⟨x.length - (i + 1), by omega, rfl, hlt, p'⟩, fun v H3 hy => ?_⟩
    have hx : x[i]? = some x[i] := List.getElem?_eq_getElem hlt
    obtain ⟨G3, g3, hv⟩ := src.yld i (rTup (x[i].map isI)) G2 H' v H3 (by rw [List.getElem?_map, hx]; rfl) e2 g2.gh hy
    have g03 : Gr F G H G3 H3 := g2.trans (g3.up g2.at_)
    have nD3 : G3 D = none := g3.fr D (by rw [na.hp]; exact Option.some_ne_none _) nD
    obtain ⟨pl, ys, rfl, hpl, hys⟩ := hv
    obtain ⟨_, rfl⟩ := all_ints hys G3
    refine ⟨hw _, ?_⟩
    show tCB (rLstOf K) (tCons (tVar j) tNil) _ H3 _
    refine ⟨_, hj _, pl, _, rfl, .inr (st_of (g3.gh _ _ hpl)), fun l hl => ?_⟩
    have na3 := na.ex g3.ex
    have lnew : ∀ b, NP D as b → b ≠ l := fun b hb z => by
      obtain ⟨o, e⟩ := na3.there b hb
      rw [z, hl] at e
      cases e
    have nS : ∀ b, H b = none → ¬ F.S b := fun b z s => at_.sh b s z
    have nl0 : H l = none := g03.none hl
    have gl3 : G3 l = none := g03.at_.none hl
    have g4 := g03.trans (Gr.newH (o := .lst (x[i].map V.int)) g03.at_ hl)
    have eD4 : upd H3 l (.lst (x[i].map V.int)) D = some (.lst (as.map V.ref)) := by rw [upd_ne (lnew D (.inl rfl))]; exact na3.hp
    have lD : l ≠ D := fun z => lnew D (.inl rfl) z.symm
    have las : l ∉ as := fun z => lnew l (.inr z) rfl
    have hal : as.length ≤ i := by
      rw [Paired.length na.hl, List.length_take]
      omega
    refine ⟨as.map V.ref, eD4, Nat.lt_of_le_of_lt (by rw [List.length_map]; omega : (as.map V.ref).length ≤ 1000000) (by rw [sizeLine_eq]; decide), G3, as ++ [l], e2.trans g3.gg, g4.wr nD0 nD3 (nS D nD0), nD3, ⟨?_, ?_, ?_, ?_⟩, ?_⟩
    · rw [upd_same, List.map_append]
      rfl
    · rw [show x.take (i + 1) = x.take i ++ [x[i]] by rw [List.take_add_one, hx]; rfl]
      have go : ∀ {as' : List Addr} {x' : Words}, (∀ a ∈ as', a ∈ as) → Paired (fun (a : Addr) (l : List Int) => H3 a = some (.lst (l.map V.int))) as' x' → Paired (fun (a : Addr) (l' : List Int) => upd (upd H3 l (.lst (x[i].map V.int))) D (.lst (as.map V.ref ++ [.ref l])) a = some (.lst (l'.map V.int))) (as' ++ [l]) (x' ++ [x[i]]) := by
        intro as'
        induction as' with
        | nil =>
          intro x' _ h
          cases h
          exact .cons (by rw [upd_ne lD, upd_same]) .nil
        | cons a as' ih =>
          intro x' hm h
          cases h with
          | cons r t =>
            have ha := hm a List.mem_cons_self
            exact .cons (by rw [upd_ne (fun z => na.np (by rw [← z]; exact ha)), upd_ne (lnew a (.inr ha))]; exact r) (ih (fun b hb => hm b (List.mem_cons_of_mem _ hb)) t)
      exact go (fun a h => h) na3.hl
    · exact List.nodup_append.mpr ⟨na.nd, by simp, fun a ha b hb => by
        rw [List.mem_singleton.mp hb]
        exact lnew a (.inr ha)⟩
    · intro z
      rcases List.mem_append.mp z with z | z
      · exact na.np z
      · exact lD (List.mem_singleton.mp z).symm
    · intro b hb
      rcases List.mem_append.mp hb with z | z
      · exact ⟨(hn b z).1, g3.fr b (by
          obtain ⟨o, e⟩ := na.there b (.inr z)
          rw [e]
          exact Option.some_ne_none _) (hn b z).2⟩
      · rw [List.mem_singleton.mp z]
        exact ⟨nl0, gl3⟩
  · have ei : i = x.length := by omega
    subst ei
    rw [List.take_length] at na
    refine .inl ⟨by
      have z := src.stop H' (e2.trans g2.gh)
      rw [hlen] at z
      exact z, q D as H' (g2.down at_) na fun b hb => ?_⟩
    rcases hb with z | z
    · rw [z]
      exact ⟨nD0, at_.none nD0⟩
    · exact ⟨(hn b z).1, at_.none (hn b z).1⟩
/-! ### recovered -/
theorem putW_shp {sz : List Nat} {x : Words} (h : shp sz x) (s : Sto) : shp sz (putW x s) := by
  unfold shp at h ⊢
  unfold putW
  rw [List.map_set, h, List.length_set]
  apply List.ext_getElem?
  intro k
  rw [List.getElem?_set]
  by_cases q : s.l = k
  · subst q
    rw [if_pos rfl]
    by_cases hl : s.l < sz.length
    · rw [if_pos hl, ← h, List.getElem?_map, List.getD_eq_getElem?_getD]
      have : s.l < x.length := by rw [← h, List.length_map] at hl; exact hl
      rw [List.getElem?_eq_getElem this]
      rfl
    · rw [if_neg hl, List.getElem?_eq_none (by omega)]
  · rw [if_neg q]
def okStp (sz : List Nat) (p : Stp) : Prop := (∀ c ∈ p.1, okCond sz c) ∧ (∀ m ∈ p.2, okMv sz m) ∧ p.1.length ≤ 1000 ∧ p.2.length ≤ 60
def okRec (sz : List Nat) (r : List Stp) : Prop := okMem sz ∧ r.length ≤ 12 ∧ ∀ p ∈ r, okStp sz p
theorem writtenOf_ok {sz : List Nat} {x : Words} {m : Mv} (ok : okMv sz m) : okSto sz (writtenOf m x) := by
  cases m with
  | store s => exact ok
  | copy l w fl fw => exact ok.1
structure StOk (sz : List Nat) (n : Nat) (s : List Sto × Words) : Prop where
  len : s.1.length ≤ n
  shp : shp sz s.2
  ok : ∀ t ∈ s.1, okSto sz t
theorem StOk.step {sz : List Nat} {n : Nat} {s : List Sto × Words} (h : StOk sz n s) {m : Mv} (ok : okMv sz m) : StOk sz (n + 1) (mvStep s m) := by
  refine ⟨?_, putW_shp h.shp _, fun t ht => ?_⟩
  · show (s.1 ++ [_]).length ≤ n + 1
    rw [List.length_append, List.length_singleton]
    have := h.len
    omega
  · rcases List.mem_append.mp ht with z | z
    · exact h.ok t z
    · rw [List.mem_singleton.mp z]
      exact writtenOf_ok ok
theorem StOk.moves {sz : List Nat} : ∀ (ms : List Mv) {n : Nat} {s : List Sto × Words}, StOk sz n s → (∀ m ∈ ms, okMv sz m) → StOk sz (n + ms.length) (ms.foldl mvStep s)
  | [], _, _, h, _ => h
  | m :: ms, n, s, h, ok => by
    have := StOk.moves ms (h.step (ok m List.mem_cons_self)) fun m hm => ok m (List.mem_cons_of_mem _ hm)
    rw [List.foldl_cons, List.length_cons, show n + (ms.length + 1) = n + 1 + ms.length by omega]
    exact this
theorem StOk.stp {sz : List Nat} {n : Nat} {s : List Sto × Words} (h : StOk sz n s) {p : Stp} (ok : okStp sz p) : StOk sz (n + 60) (stStep s p) := by
  unfold stStep
  by_cases q : (p.1.all fun c => c.metW s.2) = true
  · rw [if_pos q]
    have := StOk.moves p.2 h ok.2.1
    have h2 := ok.2.2.2
    exact ⟨by have := this.len; omega, this.shp, this.ok⟩
  · rw [if_neg q]
    exact ⟨by have := h.len; omega, h.shp, h.ok⟩
theorem stOk_at {sz : List Nat} {x : Words} (hx : shp sz x) {r : List Stp} (ok : ∀ p ∈ r, okStp sz p) : ∀ i, i ≤ r.length → StOk sz (60 * i) ((r.take i).foldl stStep ([], x))
  | 0, _ => ⟨Nat.le_refl _, hx, fun t ht => nomatch ht⟩
  | i + 1, hi => by
    have e : r[i]? = some r[i] := List.getElem?_eq_getElem hi
    rw [fold_take e]
    exact (stOk_at hx ok i (by omega)).stp (ok _ (List.getElem_mem hi))
theorem recovered_ok {sz : List Nat} {x : Words} (hx : shp sz x) {r : List Stp} (ok : okRec sz r) : StOk sz 720 (recovered r x) := by
  have h := stOk_at hx ok.2.2 r.length (Nat.le_refl _)
  rw [List.take_length] at h
  have := ok.2.1
  exact ⟨by have := h.len; show ((r.foldl stStep ([], x)).1).length ≤ 720; omega, h.shp, h.ok⟩
theorem sto_cut {K : PySem.W.Frag} {s : Sto} {v : V} {G1 : Hp} {P : Addr → Prop} (h : (rSto K s).p v G1) (hP : ∀ a, P a → ∃ o, G1 a = some (.lst o)) : (rSto K s).p v (cut P G1) := by
  obtain ⟨a, dx, vs, rfl, ha, hf⟩ := h
  refine ⟨a, dx, vs, rfl, by
    rw [cut_out fun z => by
      obtain ⟨o, e⟩ := hP a z
      rw [ha] at e
      cases e]
    exact ha, ?_⟩
  cases hf with
  | cons r1 t1 =>
    cases t1 with
    | cons r2 t2 =>
      cases t2 with
      | cons r3 t3 =>
        cases t3
        exact .cons ⟨r1.1, r1.2⟩ (.cons ⟨r2.1, r2.2⟩ (.cons ⟨r3.1, r3.2⟩ .nil))
end Ls


/-! LsW14 -/
namespace Ls
open PySem PySem.Spec PyProof.Rows L2
theorem getD_some {x : Words} {l : Nat} {line : List Int} (h : x[l]? = some line) : x.getD l [] = line := by
  rw [List.getD_eq_getElem?_getD, h]
  rfl
section
variable {P : Program} {w : World} {K : PySem.W.Frag} {mg : Str → Option Value} {base : Heap}
/-- store = ..; now[..][..] = ..; found.append(store), in a loop over moves; the locals' places are given -/
structure Rcv (K : PySem.W.Frag) (p L : Addr) (as : List Addr) (s : List Sto × Words) (us : List V) (H0 G H : Hp) : Prop where
  now : NowL p as s.2 H0 G H
  eL : H L = some (.lst us)
  gL : G L = none
  all : All (s.1.map (rSto K)) us G
theorem Rcv.mo {p L : Addr} {as : List Addr} {s : List Sto × Words} {us : List V} {H0 G H G1 H1 : Hp} (h : Rcv K p L as s us H0 G H) (g : Gr Fm.no G H G1 H1) : Rcv K p L as s us H0 G1 H1 :=
  ⟨h.now.mo g, g.ex _ _ h.eL, g.fr L (by rw [h.eL]; exact Option.some_ne_none _) h.gL, h.all.mo g.gg⟩
theorem gr_fixP {F : Fm} {P : Addr → Prop} {G0 H0 G H : Hp} (g : Gr F G0 H0 G H) (l : Loc F P G H) (n : ∀ b, P b → H0 b = none) : Gr F G0 H0 (put P H G) H :=
  ⟨g.gg.trans l.ex, g.hh, fun b hb e => by
    rw [put_out fun z => hb (n b z)]
    exact g.fr b hb e, g.th, l.at g.at_⟩
def sp_recovered (K : PySem.W.Frag) : Sp := Prom fun vs G R => ∃ (v u : V) (sz : List Nat) (r : List Stp) (x : Words), vs = [v, u] ∧ (rRec K sz r).p v G ∧ okRec sz r ∧ (rWords x).p u G ∧ shp sz x ∧ R = rTup [rLst ((recovered r x).1.map (rSto K)), rWords (recovered r x).2]
theorem sc_recovered : FnScope ["recovery", "words", "now", "found", "step", "move", "store", "line", "condition"] ["recovery", "words"] (defScope s_recovered) := ⟨rfl, rfl, rfl, by decide +kernel, rfl, by decide +kernel, by decide +kernel⟩
/- recovery=0 words=1 now=2 found=3 step=4 move=5 store=6 line=7 condition=8; cells now; level 4 -/
theorem ok_recovered (T : Tx K mg) : Dk P w K mg base (He.ga K "recovered") 4 ["recovery", "words"] (sp_recovered K) := by
  refine dk_of (d_recovered_at T) sc_recovered (fun _ _ _ _ _ _ us hl => match us, hl with | [_, _], _ => rfl) (fun vs H Q E h => ?_) (fun cdv A outer s H vs Q E hr h => ⟨_, (pss_cons (ps_set (i := 2) sc_recovered.nd rfl (.inr rfl) (pe_lc (own := [("line", 7)]) (g := gName 7) (tt := tYes) rfl sc_recovered.nd (pi_tup (pv 1)) (blkOk_by (by kernel_rfl)) (fun _ _ _ _ _ => (pg_name (i := 7) sc_recovered.nd rfl (.inl rfl))) (fun _ _ _ _ _ => pts_nil) (fun _ _ _ _ _ => (pe_callTy (k_call_list_of (K := K) rfl) (by rfl) (f_list T) bt_list (pa_cons (pv 7) pa_nil)))))
      (pss_cons (ps_set (i := 3) sc_recovered.nd rfl (.inl rfl) (pe_lst pa_nil))
      (pss_cons (ps_for PassesOwn.never rfl (pi_tup (pe_fld (pv 0) rfl)) (pg_name (i := 4) sc_recovered.nd rfl (.inl rfl)) (pss_one (ps_if (pt_val (pe_callB (cr_all rfl) (by rfl) (f_all T) bt_all (pa_cons (pe_lc (own := [("condition", 8)]) (g := gName 8) (tt := tYes) rfl sc_recovered.nd (pi_tup (pe_fld (pv 4) rfl)) (blkOk_by (by kernel_rfl)) (fun _ _ _ _ _ => (pg_name (i := 8) sc_recovered.nd rfl (.inl rfl))) (fun _ _ _ _ _ => pts_nil) (fun _ _ _ _ _ => (pe_mth (pv 8) (c_Is T) (m_Is_is_met T) (ok_Is_is_met T) (hr.mono (by decide)) (pa_cons (pe_ix (k_ix_list (K := K) rfl) (pv 2) (k_pe_fld (K := K) rfl (pv 8) rfl) (fun _ _ => rfl)) pa_nil)))) pa_nil))) (pss_one (ps_for PassesOwn.never rfl (pi_tup (pe_fld (pv 4) rfl)) (pg_name (i := 5) sc_recovered.nd rfl (.inl rfl)) (pss_cons (ps_set (i := 6) sc_recovered.nd rfl (.inl rfl) (pe_fn (ok_written T) (hr.mono (by decide)) (g_written T) (pa_cons (pv 5) (pa_cons (pv 2) pa_nil))))
      (pss_cons (ps_asg (pe_fld (pv 6) rfl) (pg_sub (pe_ix ix_list (pv 2) (pe_fld (pv 6) rfl) (fun _ _ => rfl)) (pe_fld (pv 6) rfl) set_list))
      (pss_one (ps_expr (pe_bm PySem.F.plainAttrs_list PySem.F.slot_list_append PySem.F.type_list_append mt_append (pv 3) (pa_cons (pv 6) pa_nil)))))))) pss_nil)))
      (pss_one (ps_ret (pe_tup (pa_cons (pv 3) (pa_cons (pe_callTy call_tuple_of (by rfl) (f_tuple T) bt_tuple (pa_cons (pe_lc (own := [("line", 7)]) (g := gName 7) (tt := tYes) rfl sc_recovered.nd (pi_list (pv 2)) (blkOk_by (by kernel_rfl)) (fun _ _ _ _ _ => (pg_name (i := 7) sc_recovered.nd rfl (.inl rfl))) (fun _ _ _ _ _ => pts_nil) (fun _ _ _ _ _ => (pe_callTy (k_call_tuple_of (K := K) rfl) (by rfl) (f_tuple T) bt_tuple (pa_cons (pv 7) pa_nil)))) pa_nil)) pa_nil)))))))), ?_⟩)
  · obtain ⟨G, R, gh, ⟨v, u, sz, r, x, rfl, _⟩, _⟩ := h
    rfl
  · obtain ⟨G, R, gh, ⟨v, u, sz, r, x, rfl, hv, okr, hu, hx, rfl⟩, q⟩ := h
    obtain ⟨okm, orl, ost⟩ := okr
    have hxl : x.length = sz.length := by rw [← hx, List.length_map]
    have hxz : x.length ≤ 1000000 := by
      have := okm.2.1
      omega
    have hI0 : EvI Fm.no (iTup K (tVar 1)) (start ["recovery", "words", "now", "found", "step", "move", "store", "line", "condition"] [v, u]) G (x.map fun l => rTup (l.map isI)) := ei_tup (ev_var rfl hu)
    refine st_asgQ (lc_lists hI0 hxz (fun _ => rfl) (fun _ => rfl) (At.no gh) fun p as H1 g1 na hn => ?_)
    refine st_new (Rs := []) ea_nil (by simp) g1.at_ fun L us0 G2 H2 g2 nL1 gL2 _ eL2 hus0 => ?_
    cases hus0
    have g02 := g1.trans g2
    have nL : H L = none := g1.none nL1
    have hLP : ¬ NP p as L := fun z => by
      obtain ⟨o, e⟩ := na.there L z
      rw [nL1] at e
      cases e
    have now0 : NowL p as x H G H1 := ⟨na, fun b hb => (hn b hb).1, fun b hb => (hn b hb).2⟩
    have rc0 : Rcv K p L as ([], x) [] H G2 H2 := ⟨now0.mo g2, eL2, gL2, .nil⟩
    refine st_forB (K := K) g02 (ei_tup (ev_fld (R := rTup (r.map (rStp K))) (c_Recovery T) (n_Recovery_steps T) (ev_var (i := 0) rfl ((rRec K sz r).mo _ _ _ g02.gg hv)) rfl)) (fun i σ G' H' => ∃ x4 x5 x6 x7 x8 us, σ = [some v, some u, some (.ref p), some (.ref L), x4, x5, x6, x7, x8] ∧ Rcv K p L as ((r.take i).foldl stStep ([], x)) us H G' H') (fun G' H' g => ⟨_, _, _, _, _, [], rfl, rc0.mo g⟩)
      (fun i σ G' H' G1 H1 ⟨x4, x5, x6, x7, x8, us, e, rc⟩ _ g => ⟨x4, x5, x6, x7, x8, us, e, rc.mo g⟩) ?_ ?_
    · rintro i Y y σ' G3 H3 N hN hY g3 e3 hy ⟨x4, x5, x6, x7, x8, us, rfl, rc⟩
      obtain ⟨st, hi, hst, rfl⟩ := get_map hY
      obtain ⟨okc, okmv, ocl, oml⟩ := ost st hst
      have es := fold_take hi (f := stStep) (a := (([], x) : List Sto × Words))
      have hlt := (List.getElem?_eq_some_iff.mp hi).1
      have so := stOk_at hx ost i (Nat.le_of_lt hlt)
      generalize (r.take i).foldl stStep ([], x) = s at rc es so
      have hev : EvT Fm.no (tB (tCB (rAll K) (tCons (tLc (iTup K (tFld K (tVar 4) "conditions")) (gName 8) tYes (tMeth (He.ga K "Is") "is_met" (sp_Is_is_met K) [] E0 (tVar 8) (tCons (tOp (rIxL K) (tVar 2) (tFld K (tVar 8) "line")) tNil)) [8]) tNil))) [some v, some u, some (.ref p), some (.ref L), some y, x5, x6, x7, x8] (put (NP p as) H3 G3) (· = st.1.all fun c => c.metW s.2) := by
        have hyp := (rStp K st).mo _ _ _ rc.now.loc.ex hy
        have hnow := rc.now.at_.rep (G := G3)
        refine et_B (ev_to (ev_all (bs := st.1.map fun c => c.metW s.2) (ev_to (ev_lcM (j := 8) (vs := [8]) st.1 (rCond K) (fun c => isB (c.metW s.2)) (ei_tup (ev_fld (R := rTup (st.1.map (rCond K))) (c_Step T) (n_Step_conditions T) (ev_var (i := 4) rfl hyp) rfl)) (by omega) (fun _ => rfl) fun c hc z G1 e rz => ?_) (by rw [List.map_map]; rfl))) (by rw [List.all_map]; rfl))
        obtain ⟨line, h1, h2, h3⟩ := at2_get so.shp (okc c hc)
        have e1 : c.metW s.2 = c.met line := by
          unfold Cond.metW
          rw [getD_some h1]
        rw [e1]
        refine ev_meth (ev_var (i := 8) rfl rz) rfl (ea_cons (ev_ixL (R := rLst (line.map isI)) (Rs := s.2.map fun l : List Int => rLst (l.map isI)) (ev_var (i := 2) rfl ((rNow s.2).mo _ _ _ e hnow)) (ev_fld (R := isN c.l) (c_Is T) (n_Is_line T) (ev_var (i := 8) rfl rz) rfl) (by rw [List.getElem?_map, h1]; rfl)) ea_nil) fun y vs G1 e r rs => ?_
        obtain ⟨_, rfl, r1⟩ := all1 rs
        exact ⟨y, _, c, line, rfl, r, .inr r1, h2, rfl⟩
      refine EvT.peek rc.now.loc g3.at_ hev fun b G4 H4 g4 _ e4 => ?_
      have rc4 := rc.mo g4
      have g34 := g3.trans g4
      cases b with
      | false =>
        refine hN _ _ H4 g4.gg g34 ⟨_, _, _, _, _, us, rfl, ?_⟩
        rw [es]
        unfold stStep
        rw [if_neg (by rw [← e4]; decide)]
        exact rc4
      | true =>
        have es2 : stStep s st = st.2.foldl mvStep s := by
          unfold stStep
          rw [if_pos e4.symm]
        rw [es2] at es
        have hy4 := (rStp K st).mo _ _ _ g4.gg hy
        refine st_forB (K := K) g34 (ei_tup (ev_fld (R := rTup (st.2.map (rMv K))) (c_Step T) (n_Step_moves T) (ev_var (i := 4) rfl hy4) rfl)) (fun j σ G' H' => ∃ x5 x6 x7 x8 us, σ = [some v, some u, some (.ref p), some (.ref L), some y, x5, x6, x7, x8] ∧ Rcv K p L as ((st.2.take j).foldl mvStep s) us H G' H') (fun G' H' g => ⟨_, _, _, _, us, rfl, rc4.mo g⟩)
          (fun i σ G' H' G1 H1 ⟨x5, x6, x7, x8, us, e, rc⟩ _ g => ⟨x5, x6, x7, x8, us, e, rc.mo g⟩) ?_ ?_
        · rintro j Z z σ' G5 H5 M hM hZ g5 e5 hz ⟨y5, y6, y7, y8, us5, rfl, rc5⟩
          obtain ⟨mv, hj, hmv, rfl⟩ := get_map hZ
          have esj := fold_take hj (f := mvStep) (a := s)
          have hjl := (List.getElem?_eq_some_iff.mp hj).1
          have so5 : StOk sz (60 * i + (st.2.take j).length) ((st.2.take j).foldl mvStep s) := StOk.moves _ so fun m hm => okmv m (List.mem_of_mem_take hm)
          rw [List.length_take] at so5
          generalize (st.2.take j).foldl mvStep s = t at rc5 esj so5
          have hev2 : Ev Fm.no (tCall (sp_written K) [] E0 (tCons (tVar 5) (tCons (tVar 2) tNil))) [some v, some u, some (.ref p), some (.ref L), some y, some z, y6, y7, y8] (put (NP p as) H5 G5) (rSto K (writtenOf mv t.2)) := by
            refine ev_call (ea_cons (ev_var (i := 5) rfl ((rMv K mv).mo _ _ _ rc5.now.loc.ex hz)) (ea_cons (ev_var (i := 2) rfl (rc5.now.at_.rep (G := G5))) ea_nil)) fun vs G1 e rs => ?_
            obtain ⟨_, _, rfl, r1, r2⟩ := all2 rs
            exact ⟨_, _, sz, mv, t.2, rfl, r1, r2, so5.shp, okmv mv hmv, rfl⟩
          refine st_asgQ (Ev.peek rc5.now.loc g5.at_ hev2 fun vst G6 H6 g6 _ r6 e6 => ?_)
          have rs6 : (rSto K (writtenOf mv t.2)).p vst (cut (NP p as) G6) := sto_cut r6 fun b hb => by
            obtain ⟨o, eo⟩ := rc5.now.at_.there b hb
            exact ⟨o, e6 _ _ (by rw [put_in hb]; exact eo)⟩
          have rc6 := rc5.mo g6
          have okw := writtenOf_ok (x := t.2) (okmv mv hmv)
          have em : mvStep t mv = (t.1 ++ [writtenOf mv t.2], putW t.2 (writtenOf mv t.2)) := rfl
          generalize writtenOf mv t.2 = w at rs6 okw em
          obtain ⟨line, h1, h2, _⟩ := at2_get so5.shp okw
          obtain ⟨al, hal, eal⟩ := pget1 rc6.now.at_.hl h1
          have mal : NP p as al := .inr (List.mem_of_getElem? hal)
          have at6 : At (Fm.hold (NP p as) H6) (cut (NP p as) G6) H6 := at_hold g6.gh rc6.now.ng rc6.now.loc.h
          have eP : ∀ H', (Fm.hold (NP p as) H6).I H' → H' p = some (.lst (as.map V.ref)) := fun H' ii => (ii p (.inl rfl)).trans rc6.now.at_.hp
          have eAl : ∀ H', (Fm.hold (NP p as) H6).I H' → H' al = some (.lst (line.map V.int)) := fun H' ii => (ii al mal).trans eal
          refine st_asgG (F := Fm.hold (NP p as) H6) (ev_fld (R := isI w.n) (c_Store T) (n_Store_number T) (ev_var (i := 6) rfl rs6) rfl) at6 fun v7 G7 H7 g7 rv7 => ?_
          cases rv7
          have rs7 := (rSto K w).mo _ _ _ g7.gg rs6
          refine g_setL (m := al) g7.at_ (ev_ixF (ev_var (i := 2) rfl rfl) (ev_fld (R := isN w.l) (c_Store T) (n_Store_line T) (ev_var (i := 6) rfl rs7) rfl) eP (by rw [List.getElem?_map, hal]; rfl)) (ev_fld (R := isN w.w) (c_Store T) (n_Store_word T) (ev_var (i := 6) rfl rs7) rfl) eAl (by rw [List.length_map]; exact h2) fun G8 H8 g8 => ?_
          have g68 := (g7.trans g8).unhold
          have rc8 := rc6.mo g68
          have g08 := (g5.trans g6).trans g68
          have Lal : L ≠ al := fun z => hLP (by rw [z]; exact mal)
          have g09 := g08.wrNo (o := .lst ((line.map V.int).set w.w (.int w.n))) (rc8.now.n0 al mal) (rc8.now.ng al mal)
          have na9 := rc8.now.at_.put (l := w.l) (w := w.w) (n := w.n) hal h1
          have eL9 : upd H8 al (.lst ((line.map V.int).set w.w (.int w.n))) L = some (.lst us5) := (upd_ne Lal).trans rc8.eL
          have hsz : us5.length ≤ 1000000 := by
            rw [← rc5.all.len, List.length_map]
            have := so5.len
            omega
          refine st_appR (i := 3) (p := L) rfl eL9 ⟨vst, rfl, app_end eL9 hsz (hM _ G8 _ (g6.gg.trans g68.gg) (g09.wrNo nL rc8.gL) ⟨_, _, _, _, us5 ++ [vst], rfl, ⟨⟨?_, rc8.now.n0, rc8.now.ng⟩, upd_same, rc8.gL, ?_⟩⟩)⟩
          · rw [esj, em]
            exact na9.same fun b hb => upd_ne fun z => hLP (by rw [← z]; exact hb)
          · rw [esj, em]
            show All ((t.1 ++ [w]).map (rSto K)) _ _
            rw [List.map_append]
            exact rc8.all.snoc ((rSto K w).mo _ _ _ g68.gg rs6)
        · rintro σ5 G5 H5 g5 e5 ⟨y5, y6, y7, y8, us5, rfl, rc5⟩
          rw [List.length_map, List.take_length, ← es] at rc5
          exact hN _ _ H5 (g4.gg.trans e5) g5 ⟨_, _, _, _, _, us5, rfl, rc5⟩
    · rintro σ' G3 H3 g3 e3 ⟨x4, x5, x6, x7, x8, us, rfl, rc⟩
      rw [List.length_map, List.take_length] at rc
      have g4 := g3.fixNo nL rc.gL rc.eL
      have lc4 : Loc Fm.no (NP p as) (upd G3 L (.lst us)) H3 := ⟨fun b hb => by
        rw [upd_ne fun z => hLP (by rw [← z]; exact hb)]
        exact rc.now.ng b hb, rc.now.loc.h, fun _ _ z => z⟩
      have g5 := gr_fixP g4 lc4 rc.now.n0
      have so := recovered_ok hx ⟨okm, orl, ost⟩
      have hl2 : (r.foldl stStep ([], x)).2.length ≤ 1000000 := by
        have := so.shp
        have h3 : (recovered r x).2.length = sz.length := by rw [← this, List.length_map]
        show (recovered r x).2.length ≤ _
        rw [h3]
        have := okm.2.1
        omega
      refine st_ret (ev_tup (ea_cons (ev_var (R := rLst ((recovered r x).1.map (rSto K))) (i := 3) rfl ⟨L, us, rfl, by rw [put_out hLP, upd_same], rc.all.mo ((Ex.new rc.gL).trans lc4.ex)⟩) (ea_cons (ev_tupleL (ev_lcM (j := 7) (vs := [7]) (recovered r x).2 (fun l => rLst (l.map isI)) (fun l => rTup (l.map isI)) (ei_list (ev_var (i := 2) rfl (rc.now.at_.rep (G := upd G3 L (.lst us))))) hl2 (fun _ => rfl) fun l _ y G1 e ry => ev_tupleL (ev_var (i := 7) rfl ry))) ea_nil)) (by simp)) g5.at_ fun v6 G6 H6 g6 rv => q _ _ _ (g5.trans g6) rv
def sp_settle (K : PySem.W.Frag) : Sp := Prom fun vs G R => ∃ (v u : V) (sz : List Nat) (r : List Stp) (x : Words), vs = [v, u] ∧ (rRec K sz r).p v G ∧ okRec sz r ∧ (rWords x).p u G ∧ shp sz x ∧ R = rWords (settleOf r x)
theorem ev_recovered {F : Fm} {σ : L2.St} {G : Hp} {ta tb : TE} {sz : List Nat} {r : List Stp} {x : Words} (ha : Ev F ta σ G (rRec K sz r)) (hb : Ev F tb σ G (rWords x)) (okr : okRec sz r) (hx : shp sz x) :
    Ev F (tCall (sp_recovered K) [] E0 (tCons ta (tCons tb tNil))) σ G (rTup [rLst ((recovered r x).1.map (rSto K)), rWords (recovered r x).2]) :=
  ev_call (ea_cons ha (ea_cons hb ea_nil)) fun vs G1 e rs => by
    obtain ⟨_, _, rfl, r1, r2⟩ := all2 rs
    exact ⟨_, _, sz, r, x, rfl, r1, okr, r2, hx, rfl⟩
theorem sc_settle : FnScope ["recovery", "words"] ["recovery", "words"] (defScope s_settle) := ⟨rfl, rfl, rfl, by decide +kernel, rfl, by decide +kernel, by decide +kernel⟩
/- recovery=0 words=1; cells none; level 5 -/
theorem ok_settle (T : Tx K mg) : Dk P w K mg base (He.ga K "settle") 5 ["recovery", "words"] (sp_settle K) := by
  refine dk_of (d_settle_at T) sc_settle (fun _ _ _ _ _ _ us hl => match us, hl with | [_, _], _ => rfl) (fun vs H Q E h => ?_) (fun cdv A outer s H vs Q E hr h => ⟨_, (pss_cons (ps_expr (pe_fn (ok_check_words T) (hr.mono (by decide)) (g_check_words T) (pa_cons (pe_fld (pv 0) rfl) (pa_cons (pv 1) pa_nil))))
      (pss_one (ps_ret (pe_ix ix_tup (pe_fn (ok_recovered T) (hr.mono (by decide)) (g_recovered T) (pa_cons (pv 0) (pa_cons (pv 1) pa_nil))) pe_int (fun _ _ => rfl))))), ?_⟩)
  · obtain ⟨G, R, gh, ⟨v, u, sz, r, x, rfl, _⟩, _⟩ := h
    rfl
  · obtain ⟨G, R, gh, ⟨v, u, sz, r, x, rfl, hv, okr, hu, hx, rfl⟩, q⟩ := h
    refine st_drop (R := isV .non) (ev_call (ea_cons (ev_fld (R := rMem K sz) (c_Recovery T) (n_Recovery_memory T) (ev_var (i := 0) rfl hv) rfl) (ea_cons (ev_var (i := 1) rfl hu) ea_nil)) fun vs G1 e rs => ?_) (At.no gh) fun v0 G0 H0 g0 _ => ?_
    · obtain ⟨_, _, rfl, r1, r2⟩ := all2 rs
      exact ⟨_, _, sz, x, rfl, r1, okr.1, r2, hx, rfl⟩
    exact st_ret (ev_ixT (R := rWords (settleOf r x)) (i := 1) (ev_recovered (ev_var (i := 0) rfl ((rRec K sz r).mo _ _ _ g0.gg hv)) (ev_var (i := 1) rfl ((rWords x).mo _ _ _ g0.gg hu)) okr hx) ev_c rfl) g0.at_ fun v1 G1 H1 g1 rv => q _ _ _ (g0.trans g1) rv
end
end Ls


/-! LsW15 -/
namespace Ls
open PySem PySem.Spec PyProof.Rows L2
section
variable {P : Program} {w : World} {K : PySem.W.Frag} {mg : Str → Option Value} {base : Heap}
def movesOf (r : List Stp) : Nat := (r.map fun p : Stp => p.2.length).sum
def sp_Recovery_init (K : PySem.W.Frag) : Sp := PromI (He.ga K "Recovery") fun args G fs => ∃ (m c : V) (sz : List Nat) (r : List Stp), args = [m, c] ∧ (rMem K sz).p m G ∧ (rSeq (r.map (rStp K))).p c G ∧ okRec sz r ∧ movesOf r ≤ 8 ∧ fs = [(("memory" : Str), rMem K sz), (("steps" : Str), rTup (r.map (rStp K)))]
theorem sc_Recovery_init : FnScope ["self", "memory", "steps", "moves", "step", "move"] ["self", "memory", "steps"] (defScope s_Recovery_init) := ⟨rfl, rfl, rfl, by decide +kernel, rfl, by decide +kernel, by decide +kernel⟩
/- self=0 memory=1 steps=2 moves=3 step=4 move=5; cells none; level 4 -/
theorem ok_Recovery_init (T : Tx K mg) : Dk P w K mg base (He.ma K (He.ga K "Recovery") "__init__") 4 ["self", "memory", "steps"] (sp_Recovery_init K) := by
  refine dk_of (d_Recovery_init_at T) sc_Recovery_init (fun _ _ _ _ _ _ us hl => match us, hl with | [_, _, _], _ => rfl) (fun vs H Q E h => ?_) (fun cdv A outer s H vs Q E hr h => ⟨_, (pss_cons (ps_fld (pv 0) (pv 1) rfl)
      (pss_cons (ps_fld (pv 0) (pe_callTy call_tuple_of (by rfl) (f_tuple T) bt_tuple (pa_cons (pv 2) pa_nil)) rfl)
      (pss_cons (ps_if (pt_cmpR op_gt (pe_callB call_len_seq (by rfl) (f_len T) bt_len (pa_cons (pe_fld (pv 0) rfl) pa_nil)) (pe_gl (i_MOST_STEPS T)) (nomark _)) (pss_one ps_never) pss_nil)
      (pss_cons (ps_set (i := 3) sc_Recovery_init.nd rfl (.inl rfl) (pe_callB (cr_sum rfl) (by rfl) (f_sum T) bt_sum (pa_cons (pe_lc (own := [("step", 4)]) (g := gName 4) (tt := tYes) rfl sc_Recovery_init.nd (pi_tup (pe_fld (pv 0) rfl)) (blkOk_by (by kernel_rfl)) (fun _ _ _ _ _ => (pg_name (i := 4) sc_Recovery_init.nd rfl (.inl rfl))) (fun _ _ _ _ _ => pts_nil) (fun _ _ _ _ _ => (pe_callB (k_call_len_seq (K := K) rfl) (by rfl) (f_len T) bt_len (pa_cons (k_pe_fld (K := K) rfl (pv 4) rfl) pa_nil)))) pa_nil)))
      (pss_cons (ps_if (pt_cmpR op_gt (pv 3) (pe_gl (i_MOST_MOVES T)) (nomark _)) (pss_one ps_never) pss_nil)
      (pss_one (ps_for PassesOwn.never rfl (pi_tup (pe_fld (pv 0) rfl)) (pg_name (i := 4) sc_Recovery_init.nd rfl (.inl rfl)) (pss_cons (ps_expr (pe_fn (ok_check_conditions T) (hr.mono (by decide)) (g_check_conditions T) (pa_cons (pv 1) (pa_cons (pe_fld (pv 4) rfl) pa_nil))))
      (pss_one (ps_for PassesOwn.never rfl (pi_tup (pe_fld (pv 4) rfl)) (pg_name (i := 5) sc_Recovery_init.nd rfl (.inl rfl)) (pss_one (ps_expr (pe_alt (pe_mth (pv 5) (c_Store T) (m_Store_check T) (ok_Store_check T) (hr.mono (by decide)) (pa_cons (pv 1) pa_nil)) (pe_mth (pv 5) (c_Copy T) (m_Copy_check T) (ok_Copy_check T) (hr.mono (by decide)) (pa_cons (pv 1) pa_nil))))))))))))))), ?_⟩)
  · obtain ⟨x, dx, args, G, fs, rfl, hx, gh, ⟨m, c, sz, r, rfl, _⟩, _⟩ := h
    rfl
  · obtain ⟨x, dx, args, G, fs, rfl, hx, gh, ⟨m, c, sz, r, rfl, hm, hc, ⟨ok1, ok2, ok3⟩, ok4, rfl⟩, q⟩ := h
    refine ini_fld rfl (Ini.start hx gh) (c_Recovery T) (n_Recovery_memory T) (ev_var rfl hm) rfl (by simp) fun v1 G1 H1 i1 e1 => ?_
    refine ini_fld rfl i1 (c_Recovery T) (n_Recovery_steps T) (ev_tupleS (ev_var rfl ((rSeq _).mo _ _ _ e1 hc))) rfl (by simp) fun v2 G2 H2 i2 e2 => ?_
    refine st_if (et_test (ev_T0 (ev_lenT (ev_self rfl (c_Recovery T) (n_Recovery_steps T) i2.fl rfl)) ev_cI)) i2.at_ (fun G3 H3 g b => ?_) (fun G3 H3 g3 _ => ?_)
    · rw [List.length_map, decide_eq_false (show ¬ (12 : Int) < (r.length : Int) by omega)] at b
      cases b
    have i3 := i2.up g3
    have hsum : Ev (Fm.cell x (.ins (He.ga K "Recovery") dx ([] ++ [(("memory" : Str), v1)] ++ [(("steps" : Str), v2)]))) (tCB (rSum K) (tCons (tLc (iTup K (tFld K (tVar 0) "steps")) (gName 4) tYes (tCB (fun xs H Q => ∃ p ys, xs = [.ref p] ∧ (SqL K H p ys ∨ SqT K H p ys) ∧ Q (.int ys.length) H) (tCons (tFld K (tVar 4) "moves") tNil)) [4]) tNil)) (start ["self", "memory", "steps", "moves", "step", "move"] [.ref x, m, c]) G3 (isN (movesOf r)) := by
      refine ev_to (ev_sum (ns := r.map fun p : Stp => ((p.2.length : Nat) : Int)) (ev_to (ev_lcM (j := 4) (vs := [4]) r (rStp K) (fun p : Stp => isN p.2.length) (ei_tup (ev_self rfl (c_Recovery T) (n_Recovery_steps T) i3.fl rfl)) (by omega) (fun _ => rfl) fun p hp y G4 e ry => ev_to (ev_lenT (ev_fld (R := rTup (p.2.map (rMv K))) (c_Step T) (n_Step_moves T) (ev_var (i := 4) rfl ry) rfl)) (by rw [List.length_map])) (by rw [List.map_map]; rfl))) ?_
      have e := sum_nat (r.map fun p : Stp => p.2.length)
      rw [List.map_map] at e
      exact congrArg isI e
    refine st_asg hsum i3.at_ fun v4 G4 H4 g4 r4 => ?_
    have i4 := i3.up g4
    refine st_if (et_test (ev_T0 (ev_var (R := isN (movesOf r)) (i := 3) rfl r4) ev_cI)) i4.at_ (fun G5 H5 g b => ?_) (fun G5 H5 g5 _ => ?_)
    · rw [decide_eq_false (show ¬ (8 : Int) < (movesOf r : Int) by omega)] at b
      cases b
    have i5 := i4.up g5
    have hm5 := (rMem K sz).mo _ _ _ ((((e1.trans e2).trans g3.gg).trans g4.gg).trans g5.gg) hm
    refine st_forB (K := K) (Gr.refl i5.at_) (ei_tup (ev_self rfl (c_Recovery T) (n_Recovery_steps T) i5.fl rfl)) (fun i σ G' H' => ∃ y z, σ = [some (.ref x), some m, some c, some v4, y, z]) (fun _ _ _ => ⟨_, _, rfl⟩) (fun i σ G' H' G1 H1 p _ _ => p) ?_ ?_
    · rintro i Y y σ' G6 H6 N hN hY g6 e6 hy ⟨x1, x2, rfl⟩
      obtain ⟨p, hi, hp, rfl⟩ := get_map hY
      obtain ⟨okc, okm, ocl, oml⟩ := ok3 p hp
      refine st_drop (R := isV .non) (ev_call (ea_cons (ev_var (i := 1) rfl ((rMem K sz).mo _ _ _ g6.gg hm5)) (ea_cons (ev_fld (R := rTup (p.1.map (rCond K))) (c_Step T) (n_Step_conditions T) (ev_var (i := 4) rfl hy) rfl) ea_nil)) fun vs G7 e rs => ?_) g6.at_ fun y7 G7 H7 g7 _ => ?_
      · obtain ⟨_, _, rfl, r1, r2⟩ := all2 rs
        exact ⟨_, _, sz, p.1, rfl, r1, .inl r2, okc, rfl⟩
      have g67 := g6.trans g7
      have hy7 := (rStp K p).mo _ _ _ g7.gg hy
      refine st_forB (K := K) g67 (ei_tup (ev_fld (R := rTup (p.2.map (rMv K))) (c_Step T) (n_Step_moves T) (ev_var (i := 4) rfl hy7) rfl)) (fun j σ G' H' => ∃ z, σ = [some (.ref x), some m, some c, some v4, some y, z]) (fun _ _ _ => ⟨_, rfl⟩) (fun i σ G' H' G1 H1 p _ _ => p) ?_ ?_
      · rintro j Z z σ' G8 H8 M hM hZ g8 e8 hz ⟨x3, rfl⟩
        obtain ⟨mv, hj, hmv, rfl⟩ := get_map hZ
        have okv := okm mv hmv
        have hm8 := (rMem K sz).mo _ _ _ g8.gg hm5
        refine st_drop (R := isV .non) ?_ g8.at_ fun y9 G9 H9 g9 _ => hM _ _ _ g9.gg (g8.trans g9) ⟨_, rfl⟩
        cases mv with
        | store s =>
          refine ev_altL (ev_meth (ev_var (i := 5) rfl hz) rfl (ea_cons (ev_var (i := 1) rfl hm8) ea_nil) fun y vs G1 e r rs => ?_)
          obtain ⟨_, rfl, rm⟩ := all1 rs
          exact ⟨y, _, sz, s, rfl, r, rm, okv, rfl⟩
        | copy l w fl fw =>
          refine ev_altR (ev_meth (ev_var (i := 5) rfl hz) rfl (ea_cons (ev_var (i := 1) rfl hm8) ea_nil) fun y vs G1 e r rs => ?_)
          obtain ⟨_, rfl, rm⟩ := all1 rs
          exact ⟨y, _, sz, l, w, fl, fw, rfl, r, rm, okv.1, okv.2, rfl⟩
      · rintro σ8 G8 H8 g8 e8 ⟨x3, rfl⟩
        exact hN _ _ _ (g7.gg.trans e8) g8 ⟨_, _, rfl⟩
    · rintro σ' G6 H6 g6 _ ⟨x1, x2, rfl⟩
      exact ini_end (i5.up g6) del_same q
/-! ### the checker -/
def rCk (K : PySem.W.Frag) (sz : List Nat) (r : List Stp) (good : List Words) (d : Addr) : Rp := rIns (He.ga K "Checker") [("recovery", rRec K sz r), ("good", rGood good), ("known", isV (.ref d))]
def okImgs (sz : List Nat) (bs : List Bx) (st : List (List (List Int))) : Prop := ∀ b ∈ bs, okBx b ∧ bxSize b ≤ 1000000 ∧ ∀ k, k < bxSize b → okI st (bxAt b k) ∧ shp sz (wordsOf st (bxAt b k)) ∧ (bxAt b k).length ≤ 1000
def rOptP : Option (Option Img × Words) → Rp
  | none => isV .non
  | some p => rPair p
def lookF (r : List Stp) (good : List Words) (st : List (List (List Int))) (i : Img) : Option (Option Img × Words) :=
  if (recovered r (wordsOf st i)).2 ∈ good then none else some (some i, (recovered r (wordsOf st i)).2)
theorem lookedFor_eq (n : Nat) (r : List Stp) (good : List Words) (x : Words) : lookedFor n r good x = if (recovered r x).2 ∈ good then (imgsOf (boxesOf n (storeCs (recovered r x).1))).findSome? (lookF r good (statesOf (recovered r x).1 x)) else some (none, (recovered r x).2) := rfl
theorem okCmd_stores {sz : List Nat} {ss : List Sto} (h : ∀ t ∈ ss, okSto sz t) : ∀ c ∈ storeCs ss, okCmd sz c := fun c hc => by
  obtain ⟨s, hs, rfl⟩ := List.mem_map.mp hc
  exact h s hs
theorem okW_shp {sz : List Nat} {x : Words} (hx : shp sz x) {s : Sto} (ok : okSto sz s) : okW x s := by
  obtain ⟨line, h1, h2, _⟩ := at2_get hx ok
  exact ⟨line, h1, h2⟩
theorem findSome_drop {α β : Type} {xs : List α} {f : α → Option β} {j : Nat} {x : α} (h : xs[j]? = some x) : (xs.drop j).findSome? f = match f x with | some b => some b | none => (xs.drop (j + 1)).findSome? f := by
  have hdr : xs.drop j = x :: xs.drop (j + 1) := by
    obtain ⟨h1, h2⟩ := List.getElem?_eq_some_iff.mp h
    rw [← h2]
    exact List.drop_eq_getElem_cons h1
  rw [hdr, List.findSome?_cons]
  cases f x <;> rfl
def sp_Checker_looked_for (K : PySem.W.Frag) : Sp := Prom fun vs G R => ∃ (c u : V) (d : Addr) (sz : List Nat) (r : List Stp) (good : List Words) (x : Words), vs = [c, u] ∧ (rCk K sz r good d).p c G ∧ okRec sz r ∧ (rWords x).p u G ∧ shp sz x ∧
  okImgs sz (boxesOf sz.length (storeCs (recovered r x).1)) (statesOf (recovered r x).1 x) ∧ R = rOptP (lookedFor sz.length r good x)
theorem ev_ckRec {F : Fm} {σ : L2.St} {G : Hp} {te : TE} {d : Addr} {sz : List Nat} {r : List Stp} {good : List Words} (T : Tx K mg) (h : Ev F te σ G (rCk K sz r good d)) : Ev F (tFld K te "recovery") σ G (rRec K sz r) := ev_fld (c_Checker T) (n_Checker_recovery T) h rfl
theorem ev_ckGood {F : Fm} {σ : L2.St} {G : Hp} {te : TE} {d : Addr} {sz : List Nat} {r : List Stp} {good : List Words} (T : Tx K mg) (h : Ev F te σ G (rCk K sz r good d)) : Ev F (tFld K te "good") σ G (rGood good) := ev_fld (c_Checker T) (n_Checker_good T) h rfl
theorem sc_Checker_looked_for : FnScope ["self", "words", "moves", "end", "memory", "states", "box", "place", "second", "last"] ["self", "words"] (defScope s_Checker_looked_for) := ⟨rfl, rfl, rfl, by decide +kernel, rfl, by decide +kernel, by decide +kernel⟩
/- self=0 words=1 moves=2 end=3 memory=4 states=5 box=6 place=7 second=8 last=9; cells none; level 5 -/
theorem ok_Checker_looked_for (T : Tx K mg) : Dk P w K mg base (He.ma K (He.ga K "Checker") "looked_for") 5 ["self", "words"] (sp_Checker_looked_for K) := by
  refine dk_of (d_Checker_looked_for_at T) sc_Checker_looked_for (fun _ _ _ _ _ _ us hl => match us, hl with | [_, _], _ => rfl) (fun vs H Q E h => ?_) (fun cdv A outer s H vs Q E hr h => ⟨_, (pss_cons (ps_asg (pe_fn (ok_recovered T) (hr.mono (by decide)) (g_recovered T) (pa_cons (pe_fld (pv 0) rfl) (pa_cons (pv 1) pa_nil))) (pg_tup rfl (pgs_cons (pg_name (i := 2) sc_Checker_looked_for.nd rfl (.inl rfl)) (pgs_cons (pg_name (i := 3) sc_Checker_looked_for.nd rfl (.inl rfl)) pgs_nil))))
      (pss_cons (ps_if (pt_cmpR (op_notInD (hu65 hr)) (pv 3) (pe_fld (pv 0) rfl) (by rfl)) (pss_one (ps_ret (pe_tup (pa_cons pe_non (pa_cons (pv 3) pa_nil))))) pss_nil)
      (pss_cons (ps_set (i := 4) sc_Checker_looked_for.nd rfl (.inl rfl) (pe_fld (pe_fld (pv 0) rfl) rfl))
      (pss_cons (ps_set (i := 5) sc_Checker_looked_for.nd rfl (.inl rfl) (pe_fn (ok_states_of T) (hr.mono (by decide)) (g_states_of T) (pa_cons (pv 4) (pa_cons (pv 2) (pa_cons (pv 1) pa_nil)))))
      (pss_cons (ps_for PassesOwn.never rfl (pi_list (pe_fn (ok_boxes_of T) (hr.mono (by decide)) (g_boxes_of T) (pa_cons (pv 4) (pa_cons (pv 2) pa_nil)))) (pg_name (i := 6) sc_Checker_looked_for.nd rfl (.inl rfl)) (pss_one (ps_for PassesOwn.never rfl (pi_range1 (by rfl) (f_range T) (pa_cons (pe_mth0 (pv 6) (c_Box T) (m_Box_size T) (ok_Box_size T) (hr.mono (by decide))) pa_nil)) (pg_name (i := 7) sc_Checker_looked_for.nd rfl (.inl rfl)) (pss_cons (ps_set (i := 8) sc_Checker_looked_for.nd rfl (.inl rfl) (pe_mth (pv 6) (c_Box T) (m_Box_image_at T) (ok_Box_image_at T) (hr.mono (by decide)) (pa_cons (pv 7) pa_nil)))
      (pss_cons (ps_set (i := 9) sc_Checker_looked_for.nd rfl (.inl rfl) (pe_ix ix_tup (pe_fn (ok_recovered T) (hr.mono (by decide)) (g_recovered T) (pa_cons (pe_fld (pv 0) rfl) (pa_cons (pe_fn (ok_words_of T) (hr.mono (by decide)) (g_words_of T) (pa_cons (pv 5) (pa_cons (pv 8) pa_nil))) pa_nil))) pe_int (fun _ _ => rfl)))
      (pss_one (ps_if (pt_cmpR (op_notInD (hu65 hr)) (pv 9) (pe_fld (pv 0) rfl) (by rfl)) (pss_one (ps_ret (pe_tup (pa_cons (pv 8) (pa_cons (pv 9) pa_nil))))) pss_nil)))))))
      (pss_one (ps_ret pe_non))))))), ?_⟩)
  · obtain ⟨G, R, gh, ⟨c, u, d, sz, r, good, x, rfl, _⟩, _⟩ := h
    rfl
  · obtain ⟨G, R, gh, ⟨c, u, d, sz, r, good, x, rfl, hc, okr, hu, hx, oki, rfl⟩, q⟩ := h
    have so := recovered_ok hx okr
    rw [lookedFor_eq] at q
    refine st_asgG (ev_recovered (ev_ckRec T (ev_var (i := 0) rfl hc)) (ev_var (i := 1) rfl hu) okr hx) (At.no gh) fun v1 G1 H1 g1 r1 => ?_
    refine g_two r1 g1.gh fun vm ve hm he => ?_
    have hc1 := (rCk K sz r good d).mo _ _ _ g1.gg hc
    refine st_if (B := (· = !decide ((recovered r x).2 ∈ good))) (et_test (ev_niG (ev_var (i := 3) rfl he) (ev_ckGood T (ev_var (i := 0) rfl hc1)))) g1.at_ (fun G2 H2 g2 e2 => ?_) fun G2 H2 g2 e2 => ?_
    · have hng : ¬ (recovered r x).2 ∈ good := by simpa using e2.symm
      rw [if_neg hng] at q
      exact st_ret (R := rPair (none, (recovered r x).2)) (ev_tup (ea_cons ev_c (ea_cons (ev_var (i := 3) rfl ((rWords _).mo _ _ _ g2.gg he)) ea_nil)) (by simp)) g2.at_ fun v3 G3 H3 g3 rv => q _ _ _ ((g1.trans g2).trans g3) rv
    have hg : (recovered r x).2 ∈ good := by simpa using e2.symm
    rw [if_pos hg] at q
    have g12 := g1.trans g2
    have hc2 := (rCk K sz r good d).mo _ _ _ g2.gg hc1
    refine st_asg (ev_fld (R := rMem K sz) (c_Recovery T) (n_Recovery_memory T) (ev_ckRec T (ev_var (i := 0) rfl hc2)) rfl) g2.at_ fun v3 G3 H3 g3 hmem => ?_
    have hm3 := (rLst ((recovered r x).1.map (rSto K))).mo _ _ _ (g2.gg.trans g3.gg) hm
    have sl := so.len
    refine st_asg (ev_call (R := rLst ((statesOf (recovered r x).1 x).map rSt)) (ea_cons (ev_var (i := 4) rfl hmem) (ea_cons (ev_var (i := 2) rfl hm3) (ea_cons (ev_var (i := 1) rfl ((rWords x).mo _ _ _ (g12.trans g3).gg hu)) ea_nil))) fun vs G4 e rs => ?_) g3.at_ fun v4 G4 H4 g4 hst => ?_
    · obtain ⟨_, _, _, rfl, _, r2, r3⟩ := all3 rs
      refine ⟨_, _, _, (recovered r x).1, x, rfl, r2, by omega, r3, ?_, fun s hs => okW_shp hx (so.ok s hs), rfl⟩
      have : x.length = sz.length := by rw [← hx, List.length_map]
      have := okr.1.2.1
      omega
    have g04 := (g12.trans g3).trans g4
    have hm4 := (rLst ((recovered r x).1.map (rSto K))).mo _ _ _ g4.gg hm3
    have emap : (recovered r x).1.map (rSto K) = (storeCs (recovered r x).1).map (rCmd K) := by
      unfold storeCs
      rw [List.map_map]
      rfl
    rw [emap] at hm4
    generalize hbs : boxesOf sz.length (storeCs (recovered r x).1) = bs at oki q
    have hbx : ∀ F : Fm, ∀ σ : L2.St, ∀ G', Ex G4 G' → σ[4]? = some (some v3) → σ[2]? = some (some vm) → Ev F (tCall (sp_boxes_of K) [] E0 (tCons (tVar 4) (tCons (tVar 2) tNil))) σ G' (rLst (bs.map (rBx K))) := fun F σ G' e h4 h2 =>
      ev_call (ea_cons (ev_var h4 ((rMem K sz).mo _ _ _ (g4.gg.trans e) hmem)) (ea_cons (ev_var h2 ((rLst _).mo _ _ _ e hm4)) ea_nil)) fun vs G5 e rs => by
        obtain ⟨_, _, rfl, r1, r2⟩ := all2 rs
        refine ⟨_, _, sz, storeCs (recovered r x).1, rfl, r1, okr.1, .inr r2, okCmd_stores so.ok, ?_, by rw [hbs]⟩
        unfold storeCs
        rw [List.length_map]
        omega
    have hc4 := (rCk K sz r good d).mo _ _ _ (g3.gg.trans g4.gg) hc2
    have hbl : bs.length ≤ 1000 := by
      rw [← hbs]
      have h1 := boxesOf_len sz.length (storeCs (recovered r x).1)
      unfold storeCs at h1 ⊢
      rw [List.length_map] at h1
      omega
    refine st_forB (K := K) g04 (ei_list (hbx _ _ G4 (Ex.refl _) rfl rfl)) (fun j σ G' H' => ∃ x6 x7 x8 x9, σ = [some c, some u, some vm, some ve, some v3, some v4, x6, x7, x8, x9] ∧ (imgsOf (bs.drop j)).findSome? (lookF r good (statesOf (recovered r x).1 x)) = (imgsOf bs).findSome? (lookF r good (statesOf (recovered r x).1 x))) (fun _ _ _ => ⟨_, _, _, _, rfl, rfl⟩) (fun i σ G' H' G1 H1 p _ _ => p) ?_ ?_
    · rintro j Y y σ' G5 H5 N hN hY g5 e5 hy ⟨x6, x7, x8, x9, rfl, hd⟩
      obtain ⟨b, hj, hb, rfl⟩ := get_map hY
      obtain ⟨ok1, ok2, ok3⟩ := oki b hb
      have hdr : bs.drop j = b :: bs.drop (j + 1) := by
        obtain ⟨h1, h2⟩ := List.getElem?_eq_some_iff.mp hj
        rw [← h2]
        exact List.drop_eq_getElem_cons h1
      have hd2 : ((List.range (bxSize b)).map (bxAt b)).findSome? (lookF r good (statesOf (recovered r x).1 x)) = none → (imgsOf (bs.drop (j + 1))).findSome? (lookF r good (statesOf (recovered r x).1 x)) = (imgsOf bs).findSome? (lookF r good (statesOf (recovered r x).1 x)) := fun hn => by
        rw [← hd, hdr]
        unfold imgsOf
        rw [List.flatMap_cons, List.findSome?_append, hn]
        rfl
      have hd3 : ∀ p, ((List.range (bxSize b)).map (bxAt b)).findSome? (lookF r good (statesOf (recovered r x).1 x)) = some p → (imgsOf bs).findSome? (lookF r good (statesOf (recovered r x).1 x)) = some p := fun p hn => by
        rw [← hd, hdr]
        unfold imgsOf
        rw [List.flatMap_cons, List.findSome?_append, hn]
        rfl
      refine st_forB (K := K) g5 (ei_rng1 (ea_cons (ev_size (i := 6) rfl hy ok1) ea_nil) ok2) (fun k σ G' H' => ∃ x7 x8 x9, σ = [some c, some u, some vm, some ve, some v3, some v4, some y, x7, x8, x9] ∧ (((List.range (bxSize b)).map (bxAt b)).drop k).findSome? (lookF r good (statesOf (recovered r x).1 x)) = ((List.range (bxSize b)).map (bxAt b)).findSome? (lookF r good (statesOf (recovered r x).1 x))) (fun _ _ _ => ⟨_, _, _, rfl, rfl⟩) (fun i σ G' H' G1 H1 p _ _ => p) ?_ ?_
      · rintro k Z z σ' G6 H6 M hM hZ g6 e6 hz ⟨y7, y8, y9, rfl, hk⟩
        obtain ⟨n, hkn, hn, rfl⟩ := get_map hZ
        have hnk : n = k := by
          obtain ⟨hlt, e4⟩ := List.getElem?_eq_some_iff.mp hkn
          rw [List.getElem_range] at e4
          exact e4.symm
        subst hnk
        have hnb : n < bxSize b := List.mem_range.mp hn
        obtain ⟨oi1, oi2, oi3⟩ := ok3 n hnb
        have hgi : ((List.range (bxSize b)).map (bxAt b))[n]? = some (bxAt b n) := by rw [List.getElem?_map, hkn]; rfl
        rw [findSome_drop hgi] at hk
        refine st_asg (ev_meth (R := rImg (bxAt b n)) (ev_var (i := 6) rfl ((rBx K b).mo _ _ _ e6 hy)) rfl (ea_cons (ev_var (R := isN n) (i := 7) rfl hz) ea_nil) fun y vs G1 e r rs => ?_) g6.at_ fun v7 G7 H7 g7 r7 => ?_
        · obtain ⟨_, rfl, rfl⟩ := all1 rs
          exact ⟨y, b, n, rfl, r, ok1, rfl⟩
        have e47 : Ex G4 G7 := (e5.trans e6).trans g7.gg
        have hc7 := (rCk K sz r good d).mo _ _ _ e47 hc4
        have hw : Ev Fm.no (tCall (sp_words_of K) [] E0 (tCons (tVar 5) (tCons (tVar 8) tNil))) [some c, some u, some vm, some ve, some v3, some v4, some y, some z, some v7, y9] G7 (rWords (wordsOf (statesOf (recovered r x).1 x) (bxAt b n))) := ev_call (ea_cons (ev_var rfl ((rLst _).mo _ _ _ e47 hst)) (ea_cons (ev_var rfl r7) ea_nil)) fun vs G1 e rs => by
          obtain ⟨_, _, rfl, r1, r2⟩ := all2 rs
          exact ⟨_, _, _, _, rfl, r1, r2, oi3, oi1, rfl⟩
        refine st_asg (ev_ixT (R := rWords (recovered r (wordsOf (statesOf (recovered r x).1 x) (bxAt b n))).2) (i := 1) (ev_recovered (ev_ckRec T (ev_var (i := 0) rfl hc7)) hw okr oi2) ev_c rfl) g7.at_ fun v8 G8 H8 g8 r8 => ?_
        have g08 := (g6.trans g7).trans g8
        have hc8 := (rCk K sz r good d).mo _ _ _ g8.gg hc7
        refine st_if (B := (· = !decide ((recovered r (wordsOf (statesOf (recovered r x).1 x) (bxAt b n))).2 ∈ good))) (et_test (ev_niG (ev_var (i := 9) rfl r8) (ev_ckGood T (ev_var (i := 0) rfl hc8)))) g8.at_ (fun G9 H9 g9 e9 => ?_) fun G9 H9 g9 e9 => ?_
        · have hng : ¬ (recovered r (wordsOf (statesOf (recovered r x).1 x) (bxAt b n))).2 ∈ good := by simpa using e9.symm
          have hf : lookF r good (statesOf (recovered r x).1 x) (bxAt b n) = some (some (bxAt b n), (recovered r (wordsOf (statesOf (recovered r x).1 x) (bxAt b n))).2) := by
            unfold lookF
            rw [if_neg hng]
          rw [hf] at hk
          rw [hd3 _ hk.symm] at q
          exact st_ret (R := rPair (some (bxAt b n), (recovered r (wordsOf (statesOf (recovered r x).1 x) (bxAt b n))).2)) (ev_tup (ea_cons (ev_var (i := 8) rfl ((rImg _).mo _ _ _ (g8.gg.trans g9.gg) r7)) (ea_cons (ev_var (i := 9) rfl ((rWords _).mo _ _ _ g9.gg r8)) ea_nil)) (by simp)) g9.at_ fun v10 G10 H10 g10 rv => q _ _ _ ((g08.trans g9).trans g10) rv
        · have hg9 : (recovered r (wordsOf (statesOf (recovered r x).1 x) (bxAt b n))).2 ∈ good := by simpa using e9.symm
          have hf : lookF r good (statesOf (recovered r x).1 x) (bxAt b n) = none := by
            unfold lookF
            rw [if_pos hg9]
          rw [hf] at hk
          exact hM _ _ _ ((g7.gg.trans g8.gg).trans g9.gg) (g08.trans g9) ⟨_, _, _, rfl, hk⟩
      · rintro σ6 G6 H6 g6 e6 ⟨y7, y8, y9, rfl, hk⟩
        have el : ((List.range (bxSize b)).map isN).length = ((List.range (bxSize b)).map (bxAt b)).length := by rw [List.length_map, List.length_map]
        rw [el, List.drop_length] at hk
        exact hN _ _ _ e6 g6 ⟨_, _, _, _, rfl, hd2 hk.symm⟩
    · rintro σ' G5 H5 g5 e5 ⟨x6, x7, x8, x9, rfl, hd⟩
      rw [List.length_map, List.drop_length] at hd
      rw [← hd] at q
      exact q _ _ _ g5 rfl
end
end Ls


/-! LsW16 -/
namespace Ls
open PySem PySem.Spec PyProof.Rows L2
theorem iteT {c : Prop} [Decidable c] {a b : Prop} (hc : c) (h : a) : if c then a else b := by
  rw [if_pos hc]
  exact h
theorem lookE_app {xs : List KE} {x : Words} {a : Addr} {u : Value} (h : lookE xs x = none) : lookE (xs ++ [(x, a, u)]) x = some u := by
  unfold lookE at h ⊢
  rw [Option.map_eq_none_iff] at h
  rw [List.find?_append, h]
  simp
theorem lookE_mem {xs : List KE} {x : Words} {u : Value} (h : lookE xs x = some u) : ∃ e ∈ xs, e.1 = x ∧ e.2.2 = u := by
  unfold lookE at h
  obtain ⟨e, he, hu⟩ := Option.map_eq_some_iff.mp h
  have h1 := List.find?_some he
  exact ⟨e, List.mem_of_find?_eq_some he, of_decide_eq_true h1, hu⟩
theorem lookE_not {xs : List KE} {x : Words} (h : lookE xs x = none) : x ∉ xs.map (·.1) := fun hm => by
  obtain ⟨e, he, hx⟩ := List.mem_map.mp hm
  unfold lookE at h
  rw [Option.map_eq_none_iff, List.find?_eq_none] at h
  exact h e he (decide_eq_true hx)
theorem at_one {d : Addr} {G H : Hp} (e : Ex G H) (g : G d = none) (h : H d ≠ none) : At (Fm.one d) G H := ⟨e, fun a s => by rw [(s : a = d)]; exact g, fun a s => by rw [(s : a = d)]; exact h, True.intro⟩
theorem gr_one_wr {d : Addr} {G H : Hp} {o : HO} (a : At (Fm.one d) G H) : Gr (Fm.one d) G H G (upd H d o) where
  gg := Ex.refl _
  hh := fun x u s e => by
    rw [upd_ne fun z => s z]
    exact e
  fr := fun _ _ e => e
  th := fun x hx => by
    by_cases q : x = d
    · rw [q, upd_same]
      exact Option.some_ne_none _
    · rw [upd_ne q]
      exact hx
  at_ := at_one (a.gh.mut (a.sg d rfl)) (a.sg d rfl) (by rw [upd_same]; exact Option.some_ne_none _)
structure Kn (P : Program) (w : World) (n : Nat) (r : List Stp) (good : List Words) (d : Addr) (xs : List KE) (G H : Hp) : Prop where
  at_ : H d = some (.ext (dictO P w xs d))
  sys : (d == sysModules) = false
  nd : (xs.map (·.1)).Nodup
  keys : ∀ e ∈ xs, (rWords e.1).p (.ref e.2.1) G
  g : G d = none
  no : ∀ e ∈ xs, e.2.2 = Value.none ∧ lookedFor n r good e.1 = none
section
variable {P : Program} {w : World} {K : PySem.W.Frag} {mg : Str → Option Value} {base : Heap}
theorem Kn.mo {n : Nat} {r : List Stp} {good : List Words} {d : Addr} {xs : List KE} {G H G1 H1 : Hp} (k : Kn P w n r good d xs G H) (g : Gr Fm.no G H G1 H1) : Kn P w n r good d xs G1 H1 :=
  ⟨g.ex _ _ k.at_, k.sys, k.nd, fun e he => (rWords e.1).mo _ _ _ g.gg (k.keys e he), g.fr d (by rw [k.at_]; exact Option.some_ne_none _) k.g, k.no⟩
theorem Kn.kd {n : Nat} {r : List Stp} {good : List Words} {d : Addr} {xs : List KE} {G H : Hp} (k : Kn P w n r good d xs G H) (e : Ex G H) : KD P w H d xs := ⟨k.at_, k.sys, k.nd, fun x hx => (rWords x.1).mo _ _ _ e (k.keys x hx)⟩
def sp_Checker_init (P : Program) (w : World) (K : PySem.W.Frag) : Sp := fun vs H Q _ => ∃ x dx v g sz r good G, vs = [.ref x, v, g] ∧ H x = some (.ins (He.ga K "Checker") dx []) ∧ Ex G (del H x) ∧ (rRec K sz r).p v G ∧ (rGood good).p g G ∧ good.length ≤ 1000000 ∧ (∀ y ∈ good, y.length ≤ 1000000) ∧
  ∀ G' H' d, Gr Fm.no G (del H x) G' H' → (rCk K sz r good d).p (.ref x) G' → H' d = some (.ext (dictO P w [] d)) → G' d = none → del H x d = none → (d == sysModules) = false → Q .non H'
theorem sc_Checker_init : FnScope ["self", "recovery", "good", "words", "line"] ["self", "recovery", "good"] (defScope s_Checker_init) := ⟨rfl, rfl, rfl, by decide +kernel, rfl, by decide +kernel, by decide +kernel⟩
/- self=0 recovery=1 good=2 words=3 line=4; cells none; level 1 -/
theorem ok_Checker_init (T : Tx K mg) : Dk P w K mg base (He.ma K (He.ga K "Checker") "__init__") 1 ["self", "recovery", "good"] (sp_Checker_init P w K) := by
  refine dk_of (d_Checker_init_at T) sc_Checker_init (fun _ _ _ _ _ _ us hl => match us, hl with | [_, _, _], _ => rfl) (fun vs H Q E h => ?_) (fun cdv A outer s H vs Q E hr h => ⟨_, (pss_cons (ps_fld (pv 0) (pv 1) rfl)
      (pss_cons (ps_fld (pv 0) (pe_lc (own := [("words", 3)]) (g := gName 3) (tt := tYes) rfl sc_Checker_init.nd (pi_list (pv 2)) (blkOk_by (by kernel_rfl)) (fun _ _ _ _ _ => (pg_name (i := 3) sc_Checker_init.nd rfl (.inl rfl))) (fun _ _ _ _ _ => pts_nil) (fun _ _ _ _ _ => (pe_callTy (k_call_tuple_of (K := K) rfl) (by rfl) (f_tuple T) bt_tuple (pa_cons (pe_lc (own := [("line", 4)]) (g := gName 4) (tt := tYes) rfl sc_Checker_init.nd (k_pi_tup (K := K) rfl (pv 3)) (blkOk_by (by kernel_rfl)) (fun _ _ _ _ _ => (pg_name (i := 4) sc_Checker_init.nd rfl (.inl rfl))) (fun _ _ _ _ _ => pts_nil) (fun _ _ _ _ _ => (pe_callTy (k_call_tuple_of (K := K) rfl) (by rfl) (f_tuple T) bt_tuple (pa_cons (pv 4) pa_nil)))) pa_nil)))) rfl)
      (pss_one (ps_fld (pv 0) pe_dnewX rfl)))), ?_⟩)
  · obtain ⟨x, dx, v, g, sz, r, good, G, rfl, _⟩ := h
    rfl
  · obtain ⟨x, dx, v, g, sz, r, good, G, rfl, hx, gh, hv, hg, hgl, hgy, q⟩ := h
    refine ini_fld rfl (Ini.start hx gh) (c_Checker T) (n_Checker_recovery T) (ev_var rfl hv) rfl (by simp) fun v1 G1 H1 i1 e1 => ?_
    refine ini_fld rfl i1 (c_Checker T) (n_Checker_good T) (ev_lcM (j := 3) (vs := [3]) good rWords rWords (ei_list (ev_var (i := 2) rfl ((rGood good).mo _ _ _ e1 hg))) hgl (fun _ => rfl) fun y hy z G2 e ry => ev_tupleL (ev_lcM (j := 4) (vs := [4]) y (fun l => rTup (l.map isI)) (fun l => rTup (l.map isI)) (ei_tup (ev_var (i := 3) rfl ry)) (hgy y hy) (fun _ => rfl) fun l _ t G3 e3 rl => ev_tupleT (ev_var (i := 4) rfl rl))) rfl (by simp) fun v2 G2 H2 i2 e2 => ?_
    refine fun p hp hs => ?_
    have hx2 : H2 x = some (.ins (He.ga K "Checker") dx ([] ++ [(("recovery" : Str), v1)] ++ [(("good" : Str), v2)])) := i2.at_.i
    have xp : x ≠ p := fun z => by
      rw [z, hp] at hx2
      cases hx2
    have ep : putF "known" (V.ref p) ([] ++ [(("recovery" : Str), v1)] ++ [(("good" : Str), v2)]) = [(("recovery" : Str), v1), (("good" : Str), v2), (("known" : Str), .ref p)] := putF_new rfl
    refine ⟨.ref x, rfl, x, _, dx, _, rfl, (upd_ne xp).trans hx2, c_Checker T, n_Checker_known T, by simp, ?_⟩
    rw [ep]
    have gp : G2 p = none := i2.at_.none hp
    have hp2 : del H2 x p = none := (del_ne xp.symm).trans hp
    have np0 : del H x p = none := i2.gr.none hp2
    have gx : G2 x = none := i2.at_.sg x rfl
    have g3 := i2.gr.trans (Gr.newH (o := .ext (dictO P w [] p)) i2.gr.at_ hp2)
    have g4 := g3.wrNo (o := .ins (He.ga K "Checker") dx [(("recovery" : Str), v1), (("good" : Str), v2), (("known" : Str), .ref p)]) del_same gx
    have eH : upd (upd (del H2 x) p (.ext (dictO P w [] p))) x (.ins (He.ga K "Checker") dx [(("recovery" : Str), v1), (("good" : Str), v2), (("known" : Str), .ref p)]) = upd (upd H2 p (.ext (dictO P w [] p))) x (.ins (He.ga K "Checker") dx [(("recovery" : Str), v1), (("good" : Str), v2), (("known" : Str), .ref p)]) := by
      funext b
      by_cases q1 : b = x
      · rw [q1, upd_same, upd_same]
      · rw [upd_ne q1, upd_ne q1]
        by_cases q2 : b = p
        · rw [q2, upd_same, upd_same]
        · rw [upd_ne q2, upd_ne q2, del_ne q1]
    rw [eH] at g4
    have g5 := g4.fixNo del_same gx upd_same
    have fl := i2.fl
    cases fl with
    | cons f1 t1 =>
      cases t1 with
      | cons f2 t2 =>
        refine q _ _ p g5 ⟨x, dx, _, rfl, upd_same, .cons ⟨rfl, (rRec K sz r).mo _ _ _ (Ex.new gx) f1.2⟩ (.cons ⟨rfl, (rGood good).mo _ _ _ (Ex.new gx) f2.2⟩ (.cons ⟨rfl, rfl⟩ .nil))⟩ ?_ ?_ np0 hs
        · rw [upd_ne xp.symm, upd_same]
          rfl
        · rw [upd_ne xp.symm]
          exact gp
def sp_Checker_fault (P : Program) (w : World) (K : PySem.W.Frag) : Sp := fun vs H Q _ => ∃ G c a d sz r good x xs, vs = [c, .ref a] ∧ Ex G H ∧ (rCk K sz r good d).p c G ∧ okRec sz r ∧ (rWords x).p (.ref a) G ∧ shp sz x ∧
  okImgs sz (boxesOf sz.length (storeCs (recovered r x).1)) (statesOf (recovered r x).1 x) ∧ Kn P w sz.length r good d xs G H ∧ xs.length ≤ 100000 ∧
  ∀ v G' H', Gr (Fm.one d) G H G' H' → (rOptP (lookedFor sz.length r good x)).p v G' → (lookedFor sz.length r good x = none → ∃ xs', Kn P w sz.length r good d xs' G' H' ∧ xs'.length ≤ xs.length + 1) → Q v H'
theorem ev_ckKnown {F : Fm} {σ : L2.St} {G : Hp} {te : TE} {d : Addr} {sz : List Nat} {r : List Stp} {good : List Words} (T : Tx K mg) (h : Ev F te σ G (rCk K sz r good d)) : Ev F (tFld K te "known") σ G (isV (.ref d)) := ev_fld (c_Checker T) (n_Checker_known T) h rfl
theorem sc_Checker_fault : FnScope ["self", "words"] ["self", "words"] (defScope s_Checker_fault) := ⟨rfl, rfl, rfl, by decide +kernel, rfl, by decide +kernel, by decide +kernel⟩
/- self=0 words=1; cells none; level 6 -/
theorem ok_Checker_fault (T : Tx K mg) : Dk P w K mg base (He.ma K (He.ga K "Checker") "fault") 6 ["self", "words"] (sp_Checker_fault P w K) := by
  refine dk_of (d_Checker_fault_at T) sc_Checker_fault (fun _ _ _ _ _ _ us hl => match us, hl with | [_, _], _ => rfl) (fun vs H Q E h => ?_) (fun cdv A outer s H vs Q E hr h => ⟨_, (pss_cons (ps_if (pt_cmpR (op_notInK hr) (pv 1) (pe_fld (pv 0) rfl) (by rfl)) (pss_one (ps_asg (pe_mth (pv 0) (c_Checker T) (m_Checker_looked_for T) (ok_Checker_looked_for T) (hr.mono (by decide)) (pa_cons (pv 1) pa_nil)) (pg_sub (pe_fld (pv 0) rfl) (pv 1) (setK hr)))) pss_nil)
      (pss_one (ps_ret (pe_getK hr (pe_fld (pv 0) rfl) (pv 1))))), ?_⟩)
  · obtain ⟨G, c, a, d, sz, r, good, x, xs, rfl, _⟩ := h
    rfl
  · obtain ⟨G, c, a, d, sz, r, good, x, xs, rfl, gh, hc, okr, hx, hs, oki, kn, hxl, q⟩ := h
    have at1 := at_one gh kn.g (by rw [kn.at_]; exact Option.some_ne_none _)
    have hret : ∀ G1 H1 xs1 u v, Gr (Fm.one d) G H G1 H1 → H1 d = some (.ext (dictO P w xs1 d)) → (xs1.map (·.1)).Nodup → (∀ e ∈ xs1, (rWords e.1).p (.ref e.2.1) G1) → lookE xs1 x = some u → RelV v u → (rOptP (lookedFor sz.length r good x)).p v G1 → (lookedFor sz.length r good x = none → (∀ e ∈ xs1, e.2.2 = Value.none ∧ lookedFor sz.length r good e.1 = none) ∧ xs1.length ≤ xs.length + 1) →
        tGetK P w (tFld K (tVar 0) "known") (tVar 1) (start ["self", "words"] [c, .ref a]) H1 Q := fun G1 H1 xs1 u v g1 hd nd ky hl rv ro hn => by
      refine ev_ckKnown (F := Fm.no) T (ev_var (i := 0) rfl ((rCk K sz r good d).mo _ _ _ g1.gg hc)) G1 H1 (Ex.refl _) (At.no g1.gh) _ fun y G2 H2 g2 ry => ?_
      cases ry
      refine ⟨_, rfl, d, xs1, x, a, u, rfl, rfl, ⟨g2.ex _ _ hd, kn.sys, nd, fun e he => (rWords e.1).mo _ _ _ (g2.gg.trans g2.gh) (ky e he)⟩, (rWords x).mo _ _ _ ((g1.gg.trans g2.gg).trans g2.gh) hx, hl, v, rv, ?_⟩
      have g12 := g1.trans (Gr.up g1.at_ g2)
      refine q v G2 H2 g12 ((rOptP _).mo _ _ _ g2.gg ro) fun e => ?_
      obtain ⟨h1, h2⟩ := hn e
      exact ⟨xs1, ⟨g2.ex _ _ hd, kn.sys, nd, fun e he => (rWords e.1).mo _ _ _ g2.gg (ky e he), g12.fr d (by rw [kn.at_]; exact Option.some_ne_none _) kn.g, h1⟩, h2⟩
    refine ⟨_, rfl, ?_⟩
    refine ev_ckKnown (F := Fm.no) T (ev_var (i := 0) rfl hc) G H (Ex.refl _) (At.no gh) _ fun y G1 H1 g1 ry => ?_
    cases ry
    have kn1 := kn.mo g1
    refine ⟨d, xs, x, a, rfl, rfl, kn1.kd g1.gh, (rWords x).mo _ _ _ (g1.gg.trans g1.gh) hx, _, rfl, ?_⟩
    have g1o := Gr.up at1 g1
    cases hl : lookE xs x with
    | some u =>
      show tNext _ _ _
      obtain ⟨e, he, hex, heu⟩ := lookE_mem hl
      obtain ⟨n1, n2⟩ := kn.no e he
      have hu : u = Value.none := heu.symm.trans n1
      have hlf : lookedFor sz.length r good x = none := by rw [← hex]; exact n2
      refine hret G1 H1 xs u .non g1o kn1.at_ kn1.nd kn1.keys hl (by rw [hu]; rfl) (by rw [hlf]; rfl) fun _ => ⟨kn1.no, Nat.le_succ _⟩
    | none =>
      refine iteT rfl ?_
      refine st_asgG (F := Fm.no) (ev_meth (R := rOptP (lookedFor sz.length r good x)) (ev_var (i := 0) rfl ((rCk K sz r good d).mo _ _ _ g1.gg hc)) rfl (ea_cons (ev_var (i := 1) rfl ((rWords x).mo _ _ _ g1.gg hx)) ea_nil) fun y vs G2 e ry rs => ?_) (At.no g1.gh) fun v2 G2 H2 g2 r2 => ?_
      · obtain ⟨_, rfl, r1⟩ := all1 rs
        exact ⟨y, _, d, sz, r, good, x, rfl, ry, okr, r1, hs, oki, rfl⟩
      have kn2 := kn1.mo g2
      refine ev_ckKnown (F := Fm.no) T (ev_var (i := 0) rfl ((rCk K sz r good d).mo _ _ _ (g1.gg.trans g2.gg) hc)) G2 H2 (Ex.refl _) (At.no g2.gh) _ fun y G3 H3 g3 ry => ?_
      cases ry
      have kn3 := kn2.mo g3
      have hx3 := (rWords x).mo _ _ _ ((g1.gg.trans g2.gg).trans g3.gg) hx
      refine ⟨_, rfl, d, xs, x, a, rfl, rfl, kn3.kd g3.gh, hxl, (rWords x).mo _ _ _ g3.gh hx3, hl, fun u ru => ?_⟩
      have g23 := Gr.up g1o.at_ (g2.trans g3)
      have g03 := g1o.trans g23
      have g04 := g03.trans (gr_one_wr (o := .ext (dictO P w (xs ++ [(x, a, u)]) d)) g03.at_)
      refine hret G3 _ (xs ++ [(x, a, u)]) u v2 g04 upd_same ?_ ?_ (lookE_app hl) ru ((rOptP _).mo _ _ _ g3.gg r2) fun hn => ⟨?_, by simp⟩
      · rw [List.map_append]
        exact List.nodup_append.mpr ⟨kn3.nd, by simp, fun y hy z hz => by
          rw [List.mem_singleton.mp hz]
          exact fun e => lookE_not hl (by
            have e' : y = x := e
            rw [← e']
            exact hy)⟩
      · intro e he
        rcases List.mem_append.mp he with z | z
        · exact kn3.keys e z
        · rw [List.mem_singleton.mp z]
          exact hx3
      · intro e he
        rcases List.mem_append.mp he with z | z
        · exact kn3.no e z
        · rw [List.mem_singleton.mp z]
          rw [hn] at r2
          cases r2
          exact ⟨ru, hn⟩
end
end Ls


/-! LsW17 -/
namespace Ls
open PySem PySem.Spec PyProof.Rows L2
def chkF (sz : List Nat) (r : List Stp) (good : List Words) (cs : List Cmd) (k : Nat) : Option (Img × Option Img × Words) :=
  match imageB (boxesOf sz.length cs) k with
  | none => none
  | some i => (lookedFor sz.length r good (contentsOf sz cs i)).map fun p => (i, p.1, p.2)
def checkOf (sz : List Nat) (r : List Stp) (good : List Words) (cs : List Cmd) : Option (Img × Option Img × Words) := (List.range (countB (boxesOf sz.length cs))).findSome? (chkF sz r good cs)
def rFailO (K : PySem.W.Frag) : Option (Img × Option Img × Words) → Rp
  | none => isV .non
  | some p => rFail K p.1 p.2.1 p.2.2
/-- what the program's images are -/
def okCs (sz : List Nat) (cs : List Cmd) : Prop := okBs (boxesOf sz.length cs) ∧ ∀ k, k < countB (boxesOf sz.length cs) → ∃ i, imageB (boxesOf sz.length cs) k = some i ∧ inMade sz.length cs i ∧ okI (statesOf (storesOf cs) (blank sz)) i ∧ i.length ≤ 1000 ∧ shp sz (contentsOf sz cs i)
def okRecImgs (sz : List Nat) (r : List Stp) (x : Words) : Prop := okImgs sz (boxesOf sz.length (storeCs (recovered r x).1)) (statesOf (recovered r x).1 x)
theorem lookedFor_shp {sz : List Nat} {r : List Stp} {good : List Words} {x : Words} {p : Option Img × Words} (okr : okRec sz r) (hx : shp sz x) (oki : okRecImgs sz r x) (h : lookedFor sz.length r good x = some p) : shp sz p.2 := by
  rw [lookedFor_eq] at h
  by_cases q : (recovered r x).2 ∈ good
  · rw [if_pos q] at h
    obtain ⟨i, hi, hf⟩ := List.exists_of_findSome?_eq_some h
    unfold imgsOf at hi
    obtain ⟨b, hb, hi⟩ := List.mem_flatMap.mp hi
    obtain ⟨k, hk, rfl⟩ := List.mem_map.mp hi
    obtain ⟨_, _, o3⟩ := oki b hb
    obtain ⟨_, o, _⟩ := o3 k (List.mem_range.mp hk)
    unfold lookF at hf
    by_cases q2 : (recovered r (wordsOf (statesOf (recovered r x).1 x) (bxAt b k))).2 ∈ good
    · rw [if_pos q2] at hf
      cases hf
    · rw [if_neg q2] at hf
      cases hf
      exact (recovered_ok o okr).shp
  · rw [if_neg q] at h
    cases h
    exact (recovered_ok hx okr).shp
section
variable {P : Program} {w : World} {K : PySem.W.Frag} {mg : Str → Option Value} {base : Heap}
theorem ck_make {σ : L2.St} {G0 H0 G H : Hp} {ta tb : TE} {sz : List Nat} {r : List Stp} {good : List Words} {Q : VK} (b : Gr Fm.no G0 H0 G H) (ha : Ev Fm.no ta σ G (rRec K sz r)) (hb : Ev Fm.no tb σ G (rGood good)) (hl : good.length ≤ 1000000) (hy : ∀ y ∈ good, y.length ≤ 1000000)
    (q : ∀ x d G' H', Gr Fm.no G0 H0 G' H' → Gr Fm.no G H G' H' → (rCk K sz r good d).p (.ref x) G' → Kn P w sz.length r good d [] G' H' → H d = none → Q (.ref x) H') : tMake (He.ga K "Checker") (sp_Checker_init P w K) [] E0 (tCons ta (tCons tb tNil)) σ H Q := by
  refine ea_cons ha (ea_cons hb ea_nil) G H (Ex.refl _) b.at_ _ fun vs G1 H1 g1 rs => fun x dx nx nd ne => ?_
  obtain ⟨v, g, rfl, hv, hg⟩ := all2 rs
  have e1 : del (upd (upd H1 dx (.own x)) x (.ins (He.ga K "Checker") dx [])) x = upd H1 dx (.own x) := by
    rw [del_upd, del_none]
    rw [upd_ne (Ne.symm ne)]
    exact nx
  have g2 : Gr Fm.no G H G1 (upd H1 dx (.own x)) := g1.trans (Gr.newH g1.at_ nd)
  refine ⟨x, dx, v, g, sz, r, good, G1, rfl, upd_same, by rw [e1]; exact g2.gh, hv, hg, hl, hy, fun G' H' d g3 rc hd gd nd0 hs => ⟨rfl, ?_⟩⟩
  rw [e1] at g3 nd0
  have g4 := g2.trans g3
  exact q x d G' H' (b.trans g4) g4 rc ⟨hd, hs, List.nodup_nil, fun e he => (nomatch he), gd, fun e he => nomatch he⟩ (g2.none nd0)
def sp_check (K : PySem.W.Frag) : Sp := Prom fun vs G R => ∃ (v u g : V) (sz : List Nat) (cs : List Cmd) (r : List Stp) (good : List Words), vs = [v, u, g] ∧ (rProg K sz cs).p v G ∧ okProg sz cs ∧ (rRec K sz r).p u G ∧ okRec sz r ∧ (rGood good).p g G ∧ good.length ≤ 1000 ∧ (∀ y ∈ good, shp sz y) ∧
  okCs sz cs ∧ countB (boxesOf sz.length cs) ≤ 300 ∧ (∀ i, inMade sz.length cs i → shp sz (contentsOf sz cs i) → okRecImgs sz r (contentsOf sz cs i)) ∧ R = rFailO K (checkOf sz r good cs)
theorem sc_check : FnScope ["program", "recovery", "good", "words", "many", "states", "checker", "place", "image", "found"] ["program", "recovery", "good"] (defScope s_check) := ⟨rfl, rfl, rfl, by decide +kernel, rfl, by decide +kernel, by decide +kernel⟩
/- program=0 recovery=1 good=2 words=3 many=4 states=5 checker=6 place=7 image=8 found=9; cells none; level 7 -/
theorem ok_check (T : Tx K mg) : Dk P w K mg base (He.ga K "check") 7 ["program", "recovery", "good"] (sp_check K) := by
  refine dk_of (d_check_at T) sc_check (fun _ _ _ _ _ _ us hl => match us, hl with | [_, _, _], _ => rfl) (fun vs H Q E h => ?_) (fun cdv A outer s H vs Q E hr h => ⟨_, (pss_cons (ps_if (pt_cmpR (op_neOwn0 (ok_Memory_eq T) (m_Memory_eq T) (mk_Memory T).makes (ne_Memory T) (hr.mono (by decide))) (pe_fld (pv 0) rfl) (pe_fld (pv 1) rfl) (nomark _)) (pss_one ps_never) pss_nil)
      (pss_cons (ps_for PassesOwn.never rfl (pi_list (pv 2)) (pg_name (i := 3) sc_check.nd rfl (.inl rfl)) (pss_one (ps_expr (pe_fn (ok_check_words T) (hr.mono (by decide)) (g_check_words T) (pa_cons (pe_fld (pv 0) rfl) (pa_cons (pv 3) pa_nil))))))
      (pss_cons (ps_set (i := 4) sc_check.nd rfl (.inl rfl) (pe_fn (ok_count T) (hr.mono (by decide)) (g_count T) (pa_cons (pv 0) pa_nil)))
      (pss_cons (ps_if (pt_cmpR op_gt (pv 4) (pe_gl (i_MOST_IMAGES T)) (nomark _)) (pss_one ps_never) pss_nil)
      (pss_cons (ps_set (i := 5) sc_check.nd rfl (.inl rfl) (pe_fn (ok_states_of T) (hr.mono (by decide)) (g_states_of T) (pa_cons (pe_fld (pv 0) rfl) (pa_cons (pe_fn (ok_stores T) (hr.mono (by decide)) (g_stores T) (pa_cons (pv 0) pa_nil)) (pa_cons (pe_fn (ok_blank T) (hr.mono (by decide)) (g_blank T) (pa_cons (pe_fld (pv 0) rfl) pa_nil)) pa_nil)))))
      (pss_cons (ps_set (i := 6) sc_check.nd rfl (.inl rfl) (pe_mk (mk_Checker T) (ok_Checker_init T) (hr.mono (by decide)) (g_Checker T) (pa_cons (pv 1) (pa_cons (pv 2) pa_nil))))
      (pss_cons (ps_for PassesOwn.never rfl (pi_range1 (by rfl) (f_range T) (pa_cons (pv 4) pa_nil)) (pg_name (i := 7) sc_check.nd rfl (.inl rfl)) (pss_cons (ps_set (i := 8) sc_check.nd rfl (.inl rfl) (pe_fn (ok_image_at T) (hr.mono (by decide)) (g_image_at T) (pa_cons (pv 0) (pa_cons (pv 7) pa_nil))))
      (pss_cons (ps_set (i := 9) sc_check.nd rfl (.inl rfl) (pe_mth (pv 6) (c_Checker T) (m_Checker_fault T) (ok_Checker_fault T) (hr.mono (by decide)) (pa_cons (pe_fn (ok_words_of T) (hr.mono (by decide)) (g_words_of T) (pa_cons (pv 5) (pa_cons (pv 8) pa_nil))) pa_nil)))
      (pss_one (ps_if (pt_cmpR op_notN1 (pv 9) pe_non (nomark _)) (pss_one (ps_ret (pe_mk (mk_Failed T) (ok_Failed_init T) (hr.mono (by decide)) (g_Failed T) (pa_cons (pv 8) (pa_cons (pe_ix ix_tup (pv 9) pe_int (fun _ _ => rfl)) (pa_cons (pe_ix ix_tup (pv 9) pe_int (fun _ _ => rfl)) pa_nil)))))) pss_nil)))))
      (pss_one (ps_ret pe_non))))))))), ?_⟩)
  · obtain ⟨G, R, gh, ⟨v, u, g, sz, cs, r, good, rfl, _⟩, _⟩ := h
    rfl
  · obtain ⟨G, R, gh, ⟨v, u, g, sz, cs, r, good, rfl, hv, okp, hu, okr, hg, hgl, hgs, ⟨okb, okc⟩, hcnt, okri, rfl⟩, q⟩ := h
    have hpm : ∀ σ : L2.St, ∀ G', Ex G G' → σ[0]? = some (some v) → Ev Fm.no (tFld K (tVar 0) "memory") σ G' (rMem K sz) := fun σ G' e h0 => ev_fld (c_Program T) (n_Program_memory T) (ev_var h0 ((rProg K sz cs).mo _ _ _ e hv)) rfl
    have hrm : ∀ σ : L2.St, ∀ G', Ex G G' → σ[1]? = some (some u) → Ev Fm.no (tFld K (tVar 1) "memory") σ G' (rMem K sz) := fun σ G' e h0 => ev_fld (c_Recovery T) (n_Recovery_memory T) (ev_var h0 ((rRec K sz r).mo _ _ _ e hu)) rfl
    refine st_if (B := (· = false)) ((et_test (ev_neOwn (b := true) (hpm _ G (Ex.refl _) rfl) (hrm _ G (Ex.refl _) rfl) fun x y G1 e rx ry => ⟨x, y, sz, sz, rfl, rx, ry, by rw [decide_eq_true rfl]⟩)).to rfl) (At.no gh) (fun G1 H1 g1 z => nomatch z) fun G1 H1 g1 _ => ?_
    refine st_forB (K := K) g1 (ei_list (ev_var (R := rLst (good.map rWords)) (i := 2) rfl ((rGood good).mo _ _ _ g1.gg hg))) (fun i σ G' H' => ∃ y, σ = [some v, some u, some g, y, none, none, none, none, none, none]) (fun _ _ _ => ⟨_, rfl⟩) (fun i σ G' H' G1 H1 p _ _ => p) ?_ ?_
    · rintro i Y y σ' G2 H2 N hN hY g2 e2 hy ⟨y1, rfl⟩
      obtain ⟨x, hi, hx, rfl⟩ := get_map hY
      refine st_drop (R := isV .non) (ev_call (ea_cons (hpm _ G2 g2.gg rfl) (ea_cons (ev_var (i := 3) rfl hy) ea_nil)) fun vs G3 e rs => ?_) g2.at_ fun y3 G3 H3 g3 _ => hN _ _ _ g3.gg (g2.trans g3) ⟨_, rfl⟩
      obtain ⟨_, _, rfl, r1, r2⟩ := all2 rs
      exact ⟨_, _, sz, x, rfl, r1, okp.1, r2, hgs x hx, rfl⟩
    rintro σ' G2 H2 g2 _ ⟨y1, rfl⟩
    refine st_asg (ev_call (R := isN (countB (boxesOf sz.length cs))) (ea_cons (ev_var (i := 0) rfl ((rProg K sz cs).mo _ _ _ g2.gg hv)) ea_nil) fun vs G3 e rs => ?_) g2.at_ fun v3 G3 H3 g3 r3 => ?_
    · obtain ⟨_, rfl, r1⟩ := all1 rs
      exact ⟨_, sz, cs, rfl, r1, okp, okb, rfl⟩
    have g23 := g2.trans g3
    refine st_if (et_test (ev_T0 (ev_var (R := isN (countB (boxesOf sz.length cs))) (i := 4) rfl r3) ev_cI)) g3.at_ (fun G4 H4 g b => ?_) (fun G4 H4 g4 _ => ?_)
    · rw [decide_eq_false (show ¬ (300 : Int) < (countB (boxesOf sz.length cs) : Int) by omega)] at b
      cases b
    have g24 := g23.trans g4
    refine st_asg (ev_sts T (i := 0) rfl ((rProg K sz cs).mo _ _ _ g24.gg hv) okp) g4.at_ fun v5 G5 H5 g5 hst => ?_
    have g25 := g24.trans g5
    have hga : ∀ y ∈ good, y.length ≤ 1000000 := fun y hy => by
      have h1 := hgs y hy
      have h2 : y.length = sz.length := by rw [← h1, List.length_map]
      have := okp.1.2.1
      omega
    have hra : Ev Fm.no (tVar 1) [some v, some u, some g, y1, some v3, some v5, none, none, none, none] G5 (rRec K sz r) := ev_var rfl ((rRec K sz r).mo _ _ _ g25.gg hu)
    have hrb : Ev Fm.no (tVar 2) [some v, some u, some g, y1, some v3, some v5, none, none, none, none] G5 (rGood good) := ev_var rfl ((rGood good).mo _ _ _ g25.gg hg)
    refine st_asgQ (ck_make g25 hra hrb (by omega) hga fun ck d G6 H6 g6 g56 hck kn0 nd5 => ?_)
    have nd : H d = none := g25.none nd5
    have hst6 := (rLst ((statesOf (storesOf cs) (blank sz)).map rSt)).mo _ _ _ g56.gg hst
    have r36 := (isN (countB (boxesOf sz.length cs))).mo _ _ _ ((g4.gg.trans g5.gg).trans g56.gg) r3
    refine st_forB (K := K) g6 (ei_rng1 (ea_cons (ev_var (i := 4) rfl r36) ea_nil) (by omega)) (fun i σ G' H' => ∃ x7 x8 x9 xs, σ = [some v, some u, some g, y1, some v3, some v5, some (.ref ck), x7, x8, x9] ∧ Kn P w sz.length r good d xs G' H' ∧ xs.length ≤ i ∧ ((List.range (countB (boxesOf sz.length cs))).drop i).findSome? (chkF sz r good cs) = checkOf sz r good cs) (fun G' H' g => ⟨_, _, _, [], rfl, kn0.mo g, Nat.le_refl _, rfl⟩)
      (fun i σ G' H' G1 H1 ⟨x7, x8, x9, xs, e, k, p⟩ _ g => ⟨x7, x8, x9, xs, e, k.mo g, p⟩) ?_ ?_
    · rintro i Y y σ' G7 H7 N hN hY g7 e7 hy ⟨x7, x8, x9, xs, rfl, kn, hxs, hd⟩
      obtain ⟨n, hin, hn, rfl⟩ := get_map hY
      have hni : n = i := by
        obtain ⟨hlt, e4⟩ := List.getElem?_eq_some_iff.mp hin
        rw [List.getElem_range] at e4
        exact e4.symm
      subst hni
      have hnb := List.mem_range.mp hn
      obtain ⟨im, him, hma, hoi, hil, hsh⟩ := okc n hnb
      rw [findSome_drop hin] at hd
      have hcf : chkF sz r good cs n = (lookedFor sz.length r good (contentsOf sz cs im)).map fun p => (im, p.1, p.2) := by
        unfold chkF
        rw [him]
      rw [hcf] at hd
      refine st_asg (ev_call (R := rImg im) (ea_cons (ev_var (i := 0) rfl ((rProg K sz cs).mo _ _ _ g7.gg hv)) (ea_cons (ev_var (R := isN n) (i := 7) rfl hy) ea_nil)) fun vs G8 e rs => ?_) g7.at_ fun v8 G8 H8 g8 r8 => ?_
      · obtain ⟨_, _, rfl, r1, rfl⟩ := all2 rs
        exact ⟨_, n, sz, cs, im, rfl, r1, okp, okb, him, rfl⟩
      have g78 := g7.trans g8
      have hck8 := (rCk K sz r good d).mo _ _ _ (e7.trans g8.gg) hck
      have hwd : Ev Fm.no (tCall (sp_words_of K) [] E0 (tCons (tVar 5) (tCons (tVar 8) tNil))) [some v, some u, some g, y1, some v3, some v5, some (.ref ck), some y, some v8, x9] G8 (rWords (contentsOf sz cs im)) := ev_call (ea_cons (ev_var (i := 5) rfl ((rLst _).mo _ _ _ (e7.trans g8.gg) hst6)) (ea_cons (ev_var (i := 8) rfl r8) ea_nil)) fun vs G1 e rs => by
        obtain ⟨_, _, rfl, r1, r2⟩ := all2 rs
        exact ⟨_, _, _, im, rfl, r1, r2, hil, hoi, rfl⟩
      obtain ⟨ca, cdx, cvs, ce, hca, hcf2⟩ := id hck8
      cases ce
      refine ⟨.ref ck, rfl, ck, cdx, cvs, rfl, g78.gh _ _ hca, hcf2.no rfl, hwd G8 H8 (Ex.refl _) g78.at_ _ fun vw G9 H9 g9 r9 => ?_⟩
      obtain ⟨wa, wvs, rfl, hwa⟩ := id r9
      have g79 := g78.trans g9
      have kn9 := (kn.mo g8).mo g9
      refine ⟨G9, .ref ck, wa, d, sz, r, good, contentsOf sz cs im, xs, rfl, g79.gh, (rCk K sz r good d).mo _ _ _ g9.gg hck8, okr, r9, hsh, okri im hma hsh, kn9, by omega, fun vf G10 H10 g10 r10 hk10 => ?_⟩
      have g710 := g79.loc g10 nd fun z => z
      cases hlf : lookedFor sz.length r good (contentsOf sz cs im) with
      | none =>
        rw [hlf] at hd r10
        obtain ⟨xs', kn', hl'⟩ := hk10 hlf
        cases r10
        refine st_if (B := (· = false)) ((et_notN (b := true) (ev_var (R := isV .non) (i := 9) rfl rfl) fun v G r => by cases r; rfl).to rfl) g710.at_ (fun G11 H11 g11 z => nomatch z) fun G11 H11 g11 _ => ?_
        exact hN _ _ _ ((g8.gg.trans g9.gg).trans (g10.gg.trans g11.gg)) (g710.trans g11) ⟨_, _, _, xs', rfl, kn'.mo g11, by omega, hd⟩
      | some p =>
        rw [hlf] at hd r10
        have hd : some (im, p.1, p.2) = checkOf sz r good cs := hd
        rw [← hd] at q
        have hpw : p.2.length ≤ 1000 := by
          have h1 := lookedFor_shp okr hsh (okri im hma hsh) hlf
          have h2 : p.2.length = sz.length := by rw [← h1, List.length_map]
          have := okp.1.2.1
          omega
        refine st_if (B := (· = true)) ((et_notN (b := false) (ev_var (R := rPair p) (i := 9) rfl r10) fun v G r => by
          obtain ⟨_, _, rfl, _⟩ := r
          rfl).to rfl) g710.at_ (fun G11 H11 g11 _ => ?_) fun G11 H11 g11 z => nomatch z
        have r11 := (rPair p).mo _ _ _ g11.gg r10
        refine st_ret (ev_make (ea_cons (ev_var (R := rImg im) (i := 8) rfl ((rImg im).mo _ _ _ ((g9.gg.trans g10.gg).trans g11.gg) r8)) (ea_cons (ev_ixT (R := rOpt rImg p.1) (i := 0) (ev_var (i := 9) rfl r11) ev_c rfl) (ea_cons (ev_ixT (R := rWords p.2) (i := 1) (ev_var (i := 9) rfl r11) ev_c rfl) ea_nil))) fun vs G12 e rs => ?_) g11.at_ fun v12 G12 H12 g12 rv => q _ _ _ ((g710.trans g11).trans g12) rv
        obtain ⟨_, _, _, rfl, r1, r2, r3⟩ := all3 rs
        exact ⟨_, _, _, im, p.1, p.2, rfl, r1, r2, r3, hpw, rfl⟩
    · rintro σ' G7 H7 g7 _ ⟨x7, x8, x9, xs, rfl, kn, hxs, hd⟩
      rw [List.length_map, List.drop_length] at hd
      rw [← hd] at q
      exact q _ _ _ g7 rfl
end
end Ls


/-! LsW18 -/
namespace Ls
open PySem PySem.Spec PyProof.Rows L2
/-! ### the generator -/
def rng3 (H : Hp) (r : Addr) : Prop := ∃ a b c : Int, H r = some (.lst [.int a, .int b, .int c])
def Fm.rng (r : Addr) : Fm := ⟨fun a => a = r, fun H => rng3 H r, fun H H' k ⟨a, b, c, h⟩ => ⟨a, b, c, (k r rfl).trans h⟩⟩
theorem at_rng {r : Addr} {G H : Hp} (e : Ex G H) (g : G r = none) (i : rng3 H r) : At (Fm.rng r) G H where
  gh := e
  sg := fun a s => by rw [(s : a = r)]; exact g
  sh := fun a s => by
    obtain ⟨x, y, z, h⟩ := i
    rw [(s : a = r), h]
    exact Option.some_ne_none _
  i := i
theorem gr_rng_wr {r : Addr} {G H : Hp} {a b c : Int} (at_ : At (Fm.rng r) G H) : Gr (Fm.rng r) G H G (upd H r (.lst [.int a, .int b, .int c])) where
  gg := Ex.refl _
  hh := fun x u s e => by
    rw [upd_ne fun z => s z]
    exact e
  fr := fun _ _ e => e
  th := fun x hx => by
    by_cases q : x = r
    · rw [q, upd_same]
      exact Option.some_ne_none _
    · rw [upd_ne q]
      exact hx
  at_ := at_rng (at_.gh.mut (at_.sg r rfl)) (at_.sg r rfl) ⟨a, b, c, upd_same⟩
/-- a number below a limit -/
def rLt (m : Nat) : Rp := rSome fun n : Nat => rIf (n < m) (isN n)
def PromR (pre : Addr → List V → Hp → Rp → Prop) : Sp := fun vs H Q E => ∃ r, PromF (Fm.rng r) (pre r) vs H Q E
theorem ev_callR {r : Addr} {pre : Addr → List V → Hp → Rp → Prop} {σ : L2.St} {G : Hp} {ts : TA} {Rs : List Rp} {R : Rp} {E : XK} (h : EvA (Fm.rng r) ts σ G Rs) (hp : ∀ vs G1, Ex G G1 → All Rs vs G1 → pre r vs G1 R) : Ev (Fm.rng r) (tCall (PromR pre) [] E ts) σ G R :=
  ev_callF (F := Fm.rng r) (pre := pre r) (fun vs H Q z => ⟨r, z⟩) h hp
/-! ### the script: a list of ints, tracked or not -/
def rScr (K : PySem.W.Frag) (ns : List Int) : Rp := ⟨fun v G => ∃ a, v = .ref a ∧ SqL K G a (ns.map V.int), fun v G G' e ⟨a, h, s⟩ => ⟨a, h, by
  rcases s with s | s
  · rcases s with s | ⟨o, s⟩
    · exact .inl (.inl (e _ _ s))
    · exact .inl (.inr ⟨o, e _ _ s⟩)
  · exact .inr s⟩⟩
section
variable {F : Fm} {σ : L2.St} {G : Hp} {ta tb te : TE} {K : PySem.W.Frag} {ns : List Int}
theorem ev_lenScr (h : Ev F ta σ G (rScr K ns)) : Ev F (tCB (fun xs H Q => ∃ p ys, xs = [.ref p] ∧ (SqL K H p ys ∨ SqT K H p ys) ∧ Q (.int ys.length) H) (tCons ta tNil)) σ G (isN ns.length) :=
  ev_cbv (ea_cons h ea_nil) fun vs G1 H1 _ eh hs Q q => by
    cases hs with
    | cons r t =>
      cases t
      obtain ⟨a, rfl, ha⟩ := (rScr K ns).mo _ _ _ eh r
      exact ⟨a, _, rfl, .inl ha, q _ (by rw [List.length_map]; rfl)⟩
theorem ev_ixScr {i : Nat} {n : Int} (h : Ev F ta σ G (rScr K ns)) (hi : Ev F tb σ G (isN i)) (hn : ns[i]? = some n) : Ev F (tOp (rIxL K) ta tb) σ G (isI n) :=
  ev_opv h hi fun x y G1 H1 _ eh hx hy Q q => by
    obtain ⟨a, rfl, ha⟩ := (rScr K ns).mo _ _ _ eh hx
    exact ⟨a, _, i, .int n, rfl, hy, ha, atI_nat (by rw [List.getElem?_map, hn]; rfl), q _ rfl⟩
end
section
variable {P : Program} {w : World} {K : PySem.W.Frag} {mg : Str → Option Value} {base : Heap}
def sp__law_cell (K : PySem.W.Frag) : Sp := Prom fun vs G R => ∃ (v : V) (ns : List Int) (i : Nat), vs = [v, .int i] ∧ (rScr K ns).p v G ∧ R = rSome isI
theorem sc__law_cell : FnScope ["_law_script", "_law_index"] ["_law_script", "_law_index"] (defScope s__law_cell) := ⟨rfl, rfl, rfl, by decide +kernel, rfl, by decide +kernel, by decide +kernel⟩
/- _law_script=0 _law_index=1; cells none; level 1 -/
theorem ok__law_cell (T : Tx K mg) : Dk P w K mg base (He.ga K "_law_cell") 1 ["_law_script", "_law_index"] (sp__law_cell K) := by
  refine dk_of (d__law_cell_at T) sc__law_cell (fun _ _ _ _ _ _ us hl => match us, hl with | [_, _], _ => rfl) (fun vs H Q E h => ?_) (fun cdv A outer s H vs Q E hr h => ⟨_, (pss_cons (ps_if (pt_cmpR op_lt (pv 1) (pe_callB call_len_seq (by rfl) (f_len T) bt_len (pa_cons (pv 0) pa_nil)) (nomark _)) (pss_one (ps_ret (pe_ix ix_list (pv 0) (pv 1) (fun _ _ => rfl)))) pss_nil)
      (pss_one (ps_ret pe_int))), ?_⟩)
  · obtain ⟨G, R, gh, ⟨v, ns, i, rfl, _⟩, _⟩ := h
    rfl
  · obtain ⟨G, R, gh, ⟨v, ns, i, rfl, hv, rfl⟩, q⟩ := h
    refine st_if (B := (· = decide (i < ns.length))) ((et_test (ev_T0 (ev_var (R := isN i) (i := 1) rfl rfl) (ev_lenScr (ev_var (i := 0) rfl hv)))).to ?_) (At.no gh) (fun G1 H1 g1 e => ?_) fun G1 H1 g1 _ => q _ _ _ g1 ⟨0, rfl⟩
    · exact decide_eq_decide.mpr (by omega)
    · have hi : i < ns.length := of_decide_eq_true e.symm
      exact st_ret (ev_ixScr (ev_var (i := 0) rfl ((rScr K ns).mo _ _ _ g1.gg hv)) (ev_var (R := isN i) (i := 1) rfl rfl) (List.getElem?_eq_getElem hi)) g1.at_ fun v2 G2 H2 g2 rv => q _ _ _ (g1.trans g2) ⟨_, rv⟩
def sp__law_rng : Sp := fun vs H Q _ => ∃ n : Int, vs = [.int n] ∧ ∀ (p : Addr) (a b c : Int), H p = none → Q (.ref p) (upd H p (.lst [.int a, .int b, .int c]))
theorem sc__law_rng : FnScope ["_law_cell_here"] ["_law_cell_here"] (defScope s__law_rng) := ⟨rfl, rfl, rfl, by decide +kernel, rfl, by decide +kernel, by decide +kernel⟩
/- _law_cell_here=0; cells none; level 1 -/
theorem ok__law_rng (T : Tx K mg) : Dk P w K mg base (He.ga K "_law_rng") 1 ["_law_cell_here"] sp__law_rng := by
  refine dk_of (d__law_rng_at T) sc__law_rng (fun _ _ _ _ _ _ us hl => match us, hl with | [_], _ => rfl) (fun vs H Q E h => ?_) (fun cdv A outer s H vs Q E hr h => ⟨_, (pss_one (ps_ret (pe_lst (pa_cons (pe_callB call_abs (by rfl) (f_abs T) bt_abs (pa_cons (pv 0) pa_nil)) (pa_cons (pe_op op_mod (pv 0) pe_int) (pa_cons pe_int pa_nil)))))), ?_⟩)
  · obtain ⟨n, rfl, _⟩ := h
    rfl
  · obtain ⟨n, rfl, q⟩ := h
    exact ⟨_, rfl, n, rfl, _, rfl, n, _, rfl, rfl, (show (0 : Int) < 2147483629 by decide), by show 3 ≤ sizeLine; rw [sizeLine_eq]; decide, fun p hp => q p _ _ _ hp⟩
def sp__law_draw : Sp := PromR fun r vs G R => ∃ m : Nat, vs = [.ref r, .int m] ∧ 1 ≤ m ∧ m ≤ 1000 ∧ R = rLt m
theorem lt_mod (i : Int) {m : Nat} (h : 1 ≤ m) (G : Hp) : (rLt m).p (.int (i % (m : Int))) G := by
  have h1 : 0 ≤ i % (m : Int) := Int.emod_nonneg _ (by omega)
  have h2 : i % (m : Int) < m := Int.emod_lt_of_pos _ (by omega)
  refine ⟨(i % (m : Int)).toNat, by omega, ?_⟩
  show V.int (i % (m : Int)) = V.int (((i % (m : Int)).toNat : Nat) : Int)
  rw [Int.toNat_of_nonneg h1]
theorem sc__law_draw : FnScope ["_law_rng_here", "_law_limit", "_law_digit", "_law_mixed"] ["_law_rng_here", "_law_limit"] (defScope s__law_draw) := ⟨rfl, rfl, rfl, by decide +kernel, rfl, by decide +kernel, by decide +kernel⟩
/- _law_rng_here=0 _law_limit=1 _law_digit=2 _law_mixed=3; cells none; level 1 -/
theorem ok__law_draw (T : Tx K mg) : Dk P w K mg base (He.ga K "_law_draw") 1 ["_law_rng_here", "_law_limit"] sp__law_draw := by
  refine dk_of (d__law_draw_at T) sc__law_draw (fun _ _ _ _ _ _ us hl => match us, hl with | [_, _], _ => rfl) (fun vs H Q E h => ?_) (fun cdv A outer s H vs Q E hr h => ⟨_, (pss_cons (ps_if (pt_cmpR op_ge (pe_ix ix_list (pv 0) pe_int (fun _ _ => rfl)) (pe_op op_pow pe_int pe_int) (nomark _)) (pss_cons (ps_set (i := 2) sc__law_draw.nd rfl (.inl rfl) (pe_op op_mod (pe_ix ix_list (pv 0) pe_int (fun _ _ => rfl)) (pv 1)))
      (pss_cons (ps_asg (pe_op op_fdiv (pe_ix ix_list (pv 0) pe_int (fun _ _ => rfl)) (pv 1)) (pg_sub (pv 0) pe_int set_list))
      (pss_one (ps_ret (pv 2))))) pss_nil)
      (pss_cons (ps_asg (pe_op op_add (pe_ix ix_list (pv 0) pe_int (fun _ _ => rfl)) pe_int) (pg_sub (pv 0) pe_int set_list))
      (pss_cons (ps_set (i := 3) sc__law_draw.nd rfl (.inl rfl) (pe_op op_mod (pe_op op_mul (pe_op op_add (pe_op op_add (pe_ix ix_list (pv 0) pe_int (fun _ _ => rfl)) (pe_op op_mul pe_int (pe_ix ix_list (pv 0) pe_int (fun _ _ => rfl)))) pe_int) pe_int) pe_int))
      (pss_cons (ps_set (i := 3) sc__law_draw.nd rfl (.inl rfl) (pe_op op_mod (pe_op op_mul (pv 3) (pe_op op_add (pe_op op_fdiv (pv 3) pe_int) pe_int)) pe_int))
      (pss_one (ps_ret (pe_op op_mod (pe_op op_mod (pe_op op_add (pe_op op_fdiv (pv 3) pe_int) (pe_op op_mul (pe_op op_mod (pv 3) pe_int) pe_int)) pe_int) (pv 1)))))))), ?_⟩)
  · obtain ⟨r, G, R, at_, ⟨m, rfl, _⟩, _⟩ := h
    rfl
  · obtain ⟨r, G, R, at_, ⟨m, rfl, m1, m2, rfl⟩, q⟩ := h
    obtain ⟨a, b, c, hr0⟩ := id at_.i
    have ho : ∀ (G H : Hp) (a b c : Int), At (Fm.rng r) G H → H r = some (.lst [.int a, .int b, .int c]) → At (Fm.hold (fun x => x = r) H) G H := fun G H a b c at_ e => at_hold at_.gh (fun x z => by rw [z]; exact at_.sg r rfl) fun x z => by rw [z, e]; exact Option.some_ne_none _
    have rd : ∀ (H : Hp) (σ : L2.St) (G : Hp) (a b c : Int) (i : Nat) (x : Int), H r = some (.lst [.int a, .int b, .int c]) → σ[0]? = some (some (.ref r)) → [V.int a, V.int b, V.int c][i]? = some (.int x) → Ev (Fm.hold (fun x => x = r) H) (tOp (rIxL K) (tVar 0) (tC (.int i))) σ G (isI x) := fun H σ G a b c i x e h0 hi =>
      ev_ixF (ev_var h0 rfl) ev_c (fun H' ii => (ii r rfl).trans e) hi
    have upg : ∀ {G H G1 H1}, At (Fm.rng r) G H → Gr (Fm.hold (fun x => x = r) H) G H G1 H1 → Gr (Fm.rng r) G H G1 H1 ∧ ∀ o, H r = some o → H1 r = some o := fun {G H G1 H1} a g => ⟨Gr.up a g.unhold, fun o e => (g.at_.i r rfl).trans e⟩
    refine st_if (et_test (ev_T0 (p := fun i j => decide (i ≥ j)) (rd H _ G a b c 0 a hr0 rfl rfl) (ev_I (c := CPow) (g := fun i j => .int (i ^ j.toNat)) ev_cI ev_cI ⟨by decide, by decide, by decide⟩))) (ho G H a b c at_ hr0) (fun G1 H1 g1 _ => ?_) fun G1 H1 g1 _ => ?_
    · obtain ⟨g1', k1⟩ := upg at_ g1
      have e1 := k1 _ hr0
      refine st_asg (ev_I (c := fun _ j => 0 < j) (g := fun i j => .int (i % j)) (rd H1 _ G1 a b c 0 a e1 rfl rfl) (ev_var (R := isN m) (i := 1) rfl rfl) (by omega)) (ho G1 H1 a b c g1'.at_ e1) fun v2 G2 H2 g2 r2 => ?_
      cases r2
      obtain ⟨g2', k2⟩ := upg g1'.at_ g2
      have e2 := k2 _ e1
      have g02 := g1'.trans g2'
      refine st_asgG (ev_I (c := CDiv) (g := fun i j => .int (i / j)) (rd H2 _ G2 a b c 0 a e2 rfl rfl) (ev_var (R := isN m) (i := 1) rfl rfl) ⟨by omega, by omega⟩) (ho G2 H2 a b c g02.at_ e2) fun v3 G3 H3 g3 r3 => ?_
      cases r3
      obtain ⟨g3', k3⟩ := upg g02.at_ g3
      have e3 := k3 _ e2
      have g03 := g02.trans g3'
      refine g_setL (m := r) (ho G3 H3 a b c g03.at_ e3) (ev_var (i := 0) rfl rfl) (ev_c (v := .int (0 : Nat))) (fun H' ii => (ii r rfl).trans e3) (by simp) fun G4 H4 g4 => ?_
      obtain ⟨g4', k4⟩ := upg g03.at_ g4
      have g04 := g03.trans g4'
      exact ⟨_, rfl, q _ _ _ (g04.trans (gr_rng_wr g04.at_)) (lt_mod a m1 _)⟩
    · obtain ⟨g1', k1⟩ := upg at_ g1
      have e1 := k1 _ hr0
      refine st_asgG (ev_I0 (g := fun i j => .int (i + j)) (rd H1 _ G1 a b c 2 c e1 rfl rfl) ev_cI) (ho G1 H1 a b c g1'.at_ e1) fun v2 G2 H2 g2 r2 => ?_
      cases r2
      obtain ⟨g2', k2⟩ := upg g1'.at_ g2
      have e2 := k2 _ e1
      have g02 := g1'.trans g2'
      refine g_setL (m := r) (ho G2 H2 a b c g02.at_ e2) (ev_var (i := 0) rfl rfl) (ev_c (v := .int (2 : Nat))) (fun H' ii => (ii r rfl).trans e2) (by simp) fun G3 H3 g3 => ?_
      obtain ⟨g3', k3⟩ := upg g02.at_ g3
      have g03 := g02.trans g3'
      have g04 := g03.trans (gr_rng_wr (a := a) (b := b) (c := c + 1) g03.at_)
      have e4 : upd H3 r (.lst [.int a, .int b, .int (c + 1)]) r = _ := upd_same
      refine st_asg (ev_I (c := fun _ j => 0 < j) (g := fun i j => .int (i % j)) (ev_I (c := CMul) (g := fun i j => .int (i * j)) (ev_I0 (g := fun i j => .int (i + j)) (ev_I0 (g := fun i j => .int (i + j)) (rd _ _ G3 a b (c + 1) 1 b e4 rfl rfl) (ev_I (c := CMul) (g := fun i j => .int (i * j)) ev_cI (rd _ _ G3 a b (c + 1) 2 (c + 1) e4 rfl rfl) (.inl (by decide)))) ev_cI) ev_cI (.inr (by decide))) ev_cI (by decide)) (ho G3 _ a b (c + 1) g04.at_ e4) fun v5 G5 H5 g5 r5 => ?_
      cases r5
      obtain ⟨g5', k5⟩ := upg g04.at_ g5
      have g05 := g04.trans g5'
      have hx0 : ∀ i : Int, 0 ≤ i % 2147483647 ∧ i % 2147483647 < 2147483647 := fun i => ⟨Int.emod_nonneg _ (by decide), Int.emod_lt_of_pos _ (by decide)⟩
      generalize hx : ((b + 7919 * (c + 1) + 1) * 48271) % 2147483647 = x
      have hxb : 0 ≤ x ∧ x < 2147483647 := by
        rw [← hx]
        exact hx0 _
      refine st_asg (F := Fm.no) (ev_I (c := fun _ j => 0 < j) (g := fun i j => .int (i % j)) (ev_I (c := CMul) (g := fun i j => .int (i * j)) (ev_var (R := isI x) (i := 3) rfl rfl) (ev_I0 (g := fun i j => .int (i + j)) (ev_I (c := CDiv) (g := fun i j => .int (i / j)) (ev_var (R := isI x) (i := 3) rfl rfl) ev_cI ⟨by decide, by decide⟩) ev_cI) (.inl (by omega))) ev_cI (by decide)) (At.no g05.gh) fun v6 G6 H6 g6 r6 => ?_
      cases r6
      have g06 := g05.trans (Gr.up g05.at_ g6)
      refine st_ret (F := Fm.no) (R := rLt m) (Ev.imp (ev_I (c := fun _ j => 0 < j) (g := fun i j => .int (i % j)) (ev_I (c := fun _ j => 0 < j) (g := fun i j => .int (i % j)) (ev_I0 (g := fun i j => .int (i + j)) (ev_I (c := CDiv) (g := fun i j => .int (i / j)) (ev_var (R := isI _) (i := 3) rfl rfl) ev_cI ⟨by decide, by decide⟩) (ev_I (c := CMul) (g := fun i j => .int (i * j)) (ev_I (c := fun _ j => 0 < j) (g := fun i j => .int (i % j)) (ev_var (R := isI _) (i := 3) rfl rfl) ev_cI (by decide)) ev_cI (.inr (by decide)))) ev_cI (by decide)) (ev_var (R := isN m) (i := 1) rfl rfl) (by omega)) fun v G' _ rv => by
        cases rv
        exact lt_mod _ m1 _) (At.no g06.gh) fun v7 G7 H7 g7 rv => q _ _ _ (g06.trans (Gr.up g06.at_ g7)) rv
end
end Ls


/-! LsW19 -/
namespace Ls
open PySem PySem.Spec PyProof.Rows L2
/-! ### values that are some of a kind -/
def rSuch {α : Type} (q : α → Prop) (RB : α → Rp) : Rp := rSome fun a : α => rIf (q a) (RB a)
theorem all_choose {α : Type} {q : α → Prop} {RB : α → Rp} {G : Hp} : ∀ {n : Nat} {vs : List V}, All (List.replicate n (rSuch q RB)) vs G → ∃ xs : List α, xs.length = n ∧ (∀ a ∈ xs, q a) ∧ All (xs.map RB) vs G
  | 0, _, .nil => ⟨[], rfl, (fun a ha => nomatch ha), .nil⟩
  | n + 1, _, .cons ⟨a, ha, ra⟩ t => by
    obtain ⟨xs, h1, h2, h3⟩ := all_choose t
    refine ⟨a :: xs, by rw [List.length_cons, h1], fun b hb => ?_, .cons ra h3⟩
    rcases List.mem_cons.mp hb with z | z
    · rw [z]; exact ha
    · exact h2 b z
theorem lst_choose {α : Type} {q : α → Prop} {RB : α → Rp} {G : Hp} {n : Nat} {v : V} (h : (rLst (List.replicate n (rSuch q RB))).p v G) : ∃ xs : List α, xs.length = n ∧ (∀ a ∈ xs, q a) ∧ (rLst (xs.map RB)).p v G := by
  obtain ⟨a, vs, rfl, ha, hs⟩ := h
  obtain ⟨xs, h1, h2, h3⟩ := all_choose hs
  exact ⟨xs, h1, h2, a, vs, rfl, ha, h3⟩
theorem range_rep {R : Rp} (n : Nat) : ((List.range n).map fun _ => R) = List.replicate n R := by
  apply List.ext_getElem?
  intro i
  rw [List.getElem?_map, List.getElem?_replicate]
  by_cases h : i < n
  · rw [if_pos h, List.getElem?_eq_getElem (by rw [List.length_range]; exact h)]
    rfl
  · rw [if_neg h, List.getElem?_eq_none (by rw [List.length_range]; omega)]
    rfl
def rAnyOf (Rs : List Rp) : Rp := ⟨fun v G => ∃ S ∈ Rs, S.p v G, fun v G G' e ⟨S, h1, h2⟩ => ⟨S, h1, S.mo v _ _ e h2⟩⟩
section
variable {F : Fm} {σ : L2.St} {G H G0 H0 G1 H1 : Hp} {R : Rp} {Rs Ys : List Rp} {ta tb te : TE} {K : PySem.W.Frag} {ts : TA} {g : TG} {tt : TT} {vs : List Nat} {D : Ends}
theorem lc_rng {c : Nat → Prop} (h : EvA F ts σ G [rSuch c isN]) (hc : ∀ n, c n → n ≤ 1000000) (k : ∀ n, c n → ∀ wi : TI, (∀ F σ G, EvI F wi σ G ((List.range n).map isN)) → ∀ G', Ex G G' → Ev F (tLc wi g tt te vs) σ G' R) : Ev F (tLc (iRng1 ts) g tt te vs) σ G R := fun G1 H1 e a Q q =>
  h G1 H1 e a _ fun us G2 H2 g2 hs => by
    obtain ⟨v, rfl, n, hn, hv⟩ := all1 hs
    cases hv
    have hb := hc n hn
    refine ⟨(n : Int), rfl, by omega, by omega, ?_⟩
    have hw : ∀ F σ G, EvI F (fun _ H R => R (Itr 0 (n : Int).toNat) H) σ G ((List.range n).map isN) := fun F σ G G1 H1 e a R q => by
      refine q _ G1 H1 (Gr.refl a) ?_
      have e1 := src_range (lo := 0) (n := n) (G := G1)
      have e2 : ((List.range n).map fun i => isI (0 + (i : Nat))) = (List.range n).map isN := by
        congr 1
        funext i
        rw [Int.zero_add]
        rfl
      rw [e2] at e1
      exact e1
    exact k n hn _ hw G2 (e.trans g2.gg) G2 H2 (Ex.refl _) g2.at_ Q fun v G3 H3 g3 rv => q v G3 H3 (g2.trans g3) rv
theorem for_rng {tb : TS} {c : Nat → Prop} (b : Gr F G0 H0 G H) (h : EvA F ts σ G [rSuch c isN]) (hc : ∀ n, c n → n ≤ 1000000) (k : ∀ n, c n → ∀ wi : TI, (∀ F σ G, EvI F wi σ G ((List.range n).map isN)) → ∀ G' H', Gr F G0 H0 G' H' → Ex G G' → Gr F G H G' H' → tFor wi g tb D σ H') : tFor (iRng1 ts) g tb D σ H :=
  h G H (Ex.refl _) b.at_ _ fun us G2 H2 g2 hs => by
    obtain ⟨v, rfl, n, hn, hv⟩ := all1 hs
    cases hv
    have hb := hc n hn
    refine ⟨(n : Int), rfl, by omega, by omega, ?_⟩
    have hw : ∀ F σ G, EvI F (fun _ H R => R (Itr 0 (n : Int).toNat) H) σ G ((List.range n).map isN) := fun F σ G G1 H1 e a R q => by
      refine q _ G1 H1 (Gr.refl a) ?_
      have e1 := src_range (lo := 0) (n := n) (G := G1)
      have e2 : ((List.range n).map fun i => isI (0 + (i : Nat))) = (List.range n).map isN := by
        congr 1
        funext i
        rw [Int.zero_add]
        rfl
      rw [e2] at e1
      exact e1
    exact k n hn _ hw G2 H2 (b.trans g2) g2.gg g2
/-- [e for x in range(n)], an element being one of a kind -/
theorem ev_lcR {α : Type} {q : α → Prop} {RB : α → Rp} {j : Nat} {c : Nat → Prop} (h : EvA F ts σ G [rSuch c isN]) (hc : ∀ n, c n → n ≤ 1000000) (hw : ∀ v, wipe ((wipe σ vs).set j (some v)) vs = wipe σ vs) (he : ∀ v G', Ex G G' → Ev F te ((wipe σ vs).set j (some v)) G' (rSuch q RB)) :
    Ev F (tLc (iRng1 ts) (gName j) tYes te vs) σ G (rSuch (fun xs : List α => c xs.length ∧ ∀ a ∈ xs, q a) fun xs => rLst (xs.map RB)) :=
  lc_rng h hc fun n hn wi hwi G' e => Ev.imp (ev_lcM (List.range n) isN (fun _ => rSuch q RB) (hwi F σ G') (by rw [List.length_range]; exact hc n hn) hw fun x _ v G1 e1 _ => he v G1 (e.trans e1)) fun v G2 _ r => by
    rw [range_rep] at r
    obtain ⟨xs, h1, h2, h3⟩ := lst_choose r
    exact ⟨xs, ⟨by rw [h1]; exact hn, h2⟩, h3⟩
theorem ev_add1 {c d : Nat → Prop} (h : Ev F te σ G (rSuch c isN)) (hd : ∀ n, c n → d (1 + n)) : Ev F (tOp (rI0 fun i j => .int (i + j)) (tC (.int 1)) te) σ G (rSuch d isN) :=
  ev_opv ev_c h fun x y G1 H1 _ _ hx ⟨n, hn, hy⟩ Q q => by
    cases hx
    cases hy
    refine ⟨1, n, rfl, rfl, q _ ⟨1 + n, hd n hn, ?_⟩⟩
    show V.int (1 + (n : Int)) = V.int ((1 + n : Nat) : Int)
    rw [Int.natCast_add]
    rfl
/-- a list that is gathered -/
structure Acc (F : Fm) (L : Addr) (Rs : List Rp) (H0 G H : Hp) : Prop where
  at_ : ∃ us, H L = some (.lst us) ∧ All Rs us G
  g : G L = none
  n0 : H0 L = none
  nS : ¬ F.S L
theorem Acc.gr {L : Addr} (a : Acc F L Rs H0 G H) (g : Gr F G H G1 H1) : Acc F L Rs H0 G1 H1 := by
  obtain ⟨us, h1, h2⟩ := a.at_
  exact ⟨⟨us, g.hh L _ a.nS h1, h2.mo g.gg⟩, g.fr L (by rw [h1]; exact Option.some_ne_none _) a.g, a.n0, a.nS⟩
theorem st_appA {L : Addr} {i : Nat} (hi : σ[i]? = some (some (.ref L))) (a : Acc F L Rs H0 G H) (b : Gr F G0 H0 G H) (h : Ev F te σ G R) (hz : Rs.length ≤ 1000000) (k : ∀ G' H', Gr F G0 H0 G' H' → Ex G G' → Acc F L (Rs ++ [R]) H0 G' H' → D.nx σ H') : tDrop (tBM K "list" rAppend (tVar i) (tCons te tNil)) D σ H := by
  obtain ⟨us, h1, h2⟩ := a.at_
  refine st_appR hi h1 (h G H (Ex.refl _) b.at_ _ fun v G2 H2 g2 rv => ?_)
  have a2 := a.gr g2
  have e2 := g2.hh L _ a.nS h1
  refine app_end e2 (by rw [← h2.len]; exact hz) (k G2 _ ((b.trans g2).wr a.n0 a2.g a.nS) g2.gg ⟨⟨us ++ [v], upd_same, (h2.mo g2.gg).snoc rv⟩, a2.g, a.n0, a.nS⟩)
theorem Acc.fin {L : Addr} (a : Acc F L Rs H0 G H) (b : Gr F G0 H0 G H) : ∃ G', Gr F G0 H0 G' H ∧ (rLst Rs).p (.ref L) G' := by
  obtain ⟨us, h1, h2⟩ := a.at_
  exact ⟨_, b.fix a.n0 a.g a.nS h1, L, us, rfl, upd_same, h2.mo (Ex.new a.g)⟩
theorem st_newA {i : Nat} (b : Gr F G0 H0 G H) (k : ∀ L G' H', Gr F G0 H0 G' H' → Gr F G H G' H' → Acc F L [] H0 G' H' → D.nx (σ.set i (some (.ref L))) H') : tAsg (tLst tNil) (gName i) D σ H :=
  st_new (Rs := []) ea_nil (by simp) b.at_ fun L us G' H' g nL gL nS eL hus => by
    cases hus
    exact k L G' H' (b.trans g) g ⟨⟨[], eL, .nil⟩, gL, b.none nL, nS⟩
theorem et_eq0 {m : Nat} (h : Ev F te σ G (rLt m)) : EvT F (tTest (tOp rEq te (tC (.int 0)))) σ G (fun _ => True) := fun G1 H1 e a Q q =>
  h G1 H1 e a _ fun v G2 H2 g2 ⟨n, hn, hv⟩ => by
    cases hv
    exact ⟨rfl, _, rfl, q _ G2 H2 g2 True.intro⟩
end
/-! ### the law's values -/
def rLCmd : Cmd → Rp
  | .store s => rTup [isV (.str "store"), isN s.l, isN s.w, isI s.n]
  | .flush l => rTup [isV (.str "flush"), isN l]
  | .fence => rTup [isV (.str "fence")]
def rLCond (c : Cond) : Rp := rTup [isN c.l, isN c.w, rLst (c.ns.map isI)]
def rLMv : Mv → Rp
  | .store s => rLCmd (.store s)
  | .copy l w fl fw => rTup [isV (.str "copy"), isN l, isN w, isN fl, isN fw]
def rLStp (p : Stp) : Rp := rTup [rLst (p.1.map rLCond), rLst (p.2.map rLMv)]
def okSz (sz : List Nat) : Prop := 1 ≤ sz.length ∧ sz.length ≤ 3 ∧ ∀ s ∈ sz, 1 ≤ s ∧ s ≤ 3
theorem okSz.mem {sz : List Nat} (h : okSz sz) : okMem sz := ⟨h.1, by have := h.2.1; omega, fun s hs => by have := h.2.2 s hs; omega⟩
def okLCond (sz : List Nat) (c : Cond) : Prop := okCond sz c ∧ c.ns.length < 60
def okLStp (sz : List Nat) (p : Stp) : Prop := p.1.length ≤ 6 ∧ (∀ c ∈ p.1, okLCond sz c) ∧ ∀ m ∈ p.2, okMv sz m
def okLRec (sz : List Nat) (r : List Stp) : Prop := r.length ≤ 4 ∧ (∀ p ∈ r, okLStp sz p) ∧ movesOf r ≤ 8
section
variable {P : Program} {w : World} {K : PySem.W.Frag} {mg : Str → Option Value} {base : Heap}
theorem ev_draw {r : Addr} {σ : L2.St} {G : Hp} {te : TE} {m : Nat} {i : Nat} (hi : σ[i]? = some (some (.ref r))) (h : Ev (Fm.rng r) te σ G (isN m)) (h1 : 1 ≤ m) (h2 : m ≤ 1000) : Ev (Fm.rng r) (tCall sp__law_draw [] E0 (tCons (tVar i) (tCons te tNil))) σ G (rLt m) :=
  ev_callR (ea_cons (ev_var (R := isV (.ref r)) hi rfl) (ea_cons h ea_nil)) fun vs G1 e rs => by
    obtain ⟨_, _, rfl, rfl, rfl⟩ := all2 rs
    exact ⟨m, rfl, h1, h2, rfl⟩
def sp__law_pick (K : PySem.W.Frag) : Sp := PromR fun r vs G R => ∃ (v : V) (Rs : List Rp), vs = [.ref r, v] ∧ (rLst Rs).p v G ∧ 1 ≤ Rs.length ∧ Rs.length ≤ 1000 ∧ R = rAnyOf Rs
theorem sc__law_pick : FnScope ["_law_rng_here", "_law_items"] ["_law_rng_here", "_law_items"] (defScope s__law_pick) := ⟨rfl, rfl, rfl, by decide +kernel, rfl, by decide +kernel, by decide +kernel⟩
/- _law_rng_here=0 _law_items=1; cells none; level 2 -/
theorem ok__law_pick (T : Tx K mg) : Dk P w K mg base (He.ga K "_law_pick") 2 ["_law_rng_here", "_law_items"] (sp__law_pick K) := by
  refine dk_of (d__law_pick_at T) sc__law_pick (fun _ _ _ _ _ _ us hl => match us, hl with | [_, _], _ => rfl) (fun vs H Q E h => ?_) (fun cdv A outer s H vs Q E hr h => ⟨_, (pss_one (ps_ret (pe_ix ix_list (pv 1) (pe_fn (ok__law_draw T) (hr.mono (by decide)) (g__law_draw T) (pa_cons (pv 0) (pa_cons (pe_callB call_len_seq (by rfl) (f_len T) bt_len (pa_cons (pv 1) pa_nil)) pa_nil))) (fun _ _ => rfl)))), ?_⟩)
  · obtain ⟨r, G, R, at_, ⟨v, Rs, rfl, _⟩, _⟩ := h
    rfl
  · obtain ⟨r, G, R, at_, ⟨v, Rs, rfl, hv, h1, h2, rfl⟩, q⟩ := h
    refine st_ret (F := Fm.rng r) (R := rAnyOf Rs) (ev_opv (ev_var (i := 1) rfl hv) (ev_draw (i := 0) rfl (ev_lenL (ev_var (i := 1) rfl hv)) h1 h2) fun x y G1 H1 _ eh ⟨a, ys, hx, ha, hs⟩ ⟨n, hn, hy⟩ Q q => ?_) at_ q
    cases hy
    have hR : Rs[n]? = some Rs[n] := List.getElem?_eq_getElem hn
    obtain ⟨v, hv, rv⟩ := hs.get hR
    exact ⟨a, ys, n, v, hx, rfl, sq_of (eh _ _ ha), atI_nat hv, q v ⟨Rs[n], List.getElem_mem hn, rv⟩⟩
theorem ev_pick {r : Addr} {σ : L2.St} {G : Hp} {te : TE} {Rs : List Rp} {i : Nat} (hi : σ[i]? = some (some (.ref r))) (h : Ev (Fm.rng r) te σ G (rLst Rs)) (h1 : 1 ≤ Rs.length) (h2 : Rs.length ≤ 1000) : Ev (Fm.rng r) (tCall (sp__law_pick K) [] E0 (tCons (tVar i) (tCons te tNil))) σ G (rAnyOf Rs) :=
  ev_callR (ea_cons (ev_var (R := isV (.ref r)) hi rfl) (ea_cons h ea_nil)) fun vs G1 e rs => by
    obtain ⟨_, _, rfl, rfl, r2⟩ := all2 rs
    exact ⟨_, Rs, rfl, r2, h1, h2, rfl⟩
def rSz : Rp := rSuch okSz fun sz => rLst (sz.map isN)
def sp__law_random_sizes : Sp := PromR fun r vs G R => vs = [.ref r, .int 3, .int 3] ∧ R = rSz
theorem sc__law_random_sizes : FnScope ["_law_rng_here", "_law_most_lines", "_law_most_words", "_law_line"] ["_law_rng_here", "_law_most_lines", "_law_most_words"] (defScope s__law_random_sizes) := ⟨rfl, rfl, rfl, by decide +kernel, rfl, by decide +kernel, by decide +kernel⟩
/- _law_rng_here=0 _law_most_lines=1 _law_most_words=2 _law_line=3; cells _law_most_words _law_rng_here; level 2 -/
theorem ok__law_random_sizes (T : Tx K mg) : Dk P w K mg base (He.ga K "_law_random_sizes") 2 ["_law_rng_here", "_law_most_lines", "_law_most_words"] sp__law_random_sizes := by
  refine dk_of (d__law_random_sizes_at T) sc__law_random_sizes (fun _ _ _ _ _ _ us hl => match us, hl with | [_, _, _], _ => rfl) (fun vs H Q E h => ?_) (fun cdv A outer s H vs Q E hr h => ⟨_, (pss_one (ps_ret (pe_lc (own := [("_law_line", 3)]) (g := gName 3) (tt := tYes) rfl sc__law_random_sizes.nd (pi_range1 (by rfl) (f_range T) (pa_cons (pe_op op_add pe_int (pe_fn (ok__law_draw T) (hr.mono (by decide)) (g__law_draw T) (pa_cons (pv 0) (pa_cons (pv 1) pa_nil)))) pa_nil)) (blkOk_by (by kernel_rfl)) (fun _ _ _ _ _ => (pg_name (i := 3) sc__law_random_sizes.nd rfl (.inl rfl))) (fun _ _ _ _ _ => pts_nil) (fun _ _ _ _ _ => (pe_op op_add pe_int (pe_fn (ok__law_draw T) (hr.mono (by decide)) (g__law_draw T) (pa_cons (pv 0) (pa_cons (pv 2) pa_nil)))))))), ?_⟩)
  · obtain ⟨r, G, R, at_, ⟨rfl, _⟩, _⟩ := h
    rfl
  · obtain ⟨r, G, R, at_, ⟨rfl, rfl⟩, q⟩ := h
    refine st_ret (F := Fm.rng r) (R := rSz) (Ev.imp (ev_lcR (α := Nat) (q := fun s => 1 ≤ s ∧ s ≤ 3) (RB := isN) (c := fun n => 1 ≤ n ∧ n ≤ 3) (j := 3) (vs := [3]) (σ := [some (.ref r), some (.int 3), some (.int 3), none]) (ea_cons (ev_add1 (c := fun n => n < 3) (ev_draw (m := 3) (i := 0) rfl (ev_var (i := 1) rfl rfl) (by decide) (by decide)) fun n hn => by omega) ea_nil) (fun n hn => by omega) (fun _ => rfl) fun v G' e => ev_add1 (c := fun n => n < 3) (ev_draw (m := 3) (i := 0) rfl (ev_var (i := 2) rfl rfl) (by decide) (by decide)) fun n hn => by omega) fun v G' _ r => ?_) at_ q
    obtain ⟨xs, ⟨⟨h1, h2⟩, h3⟩, hr⟩ := r
    exact ⟨xs, ⟨h1, h2, h3⟩, hr⟩
end
end Ls


/-! LsW20 -/
namespace Ls
open PySem PySem.Spec PyProof.Rows L2
theorem okSz.get {sz : List Nat} (h : okSz sz) {n : Nat} (hn : n < sz.length) : ∃ s, sz[n]? = some s ∧ 1 ≤ s ∧ s ≤ 3 := ⟨sz[n], List.getElem?_eq_getElem hn, h.2.2 _ (List.getElem_mem hn)⟩
theorem any_int {Rs : List Rp} (h : ∀ S ∈ Rs, ∃ i, S = isI i) {v : V} {G : Hp} (r : (rAnyOf Rs).p v G) : (rSome isI).p v G := by
  obtain ⟨S, hS, hv⟩ := r
  obtain ⟨i, rfl⟩ := h S hS
  exact ⟨i, hv⟩
/-- [i, j, ..] of ints -/
theorem ea_ints {F : Fm} {σ : L2.St} {G : Hp} : ∀ {is : List Int} {ts : TA}, EvA F ts σ G (is.map isI) → EvA F ts σ G (is.map isI) := fun h => h
section
variable {P : Program} {w : World} {K : PySem.W.Frag} {mg : Str → Option Value} {base : Heap}
theorem ev_szAt {F : Fm} {σ : L2.St} {G : Hp} {i j : Nat} {v u : V} {sz : List Nat} {n s : Nat} (hi : σ[i]? = some (some v)) (hj : σ[j]? = some (some u)) (hv : (rLst (sz.map isN)).p v G) (hu : u = .int n) (hs : sz[n]? = some s) : Ev F (tOp (rIxL K) (tVar i) (tVar j)) σ G (isN s) :=
  ev_ixL (Rs := sz.map isN) (ev_var hi hv) (ev_var (R := isN n) hj hu) (by rw [List.getElem?_map, hs]; rfl)
theorem ev_lenSz {F : Fm} {σ : L2.St} {G : Hp} {i : Nat} {v : V} {sz : List Nat} (hi : σ[i]? = some (some v)) (hv : (rLst (sz.map isN)).p v G) : Ev F (tCB (fun xs H Q => ∃ p ys, xs = [.ref p] ∧ (SqL K H p ys ∨ SqT K H p ys) ∧ Q (.int ys.length) H) (tCons (tVar i) tNil)) σ G (isN sz.length) :=
  ev_to (ev_lenL (ev_var hi hv)) (by rw [List.length_map])
def sp__law_random_command : Sp := PromR fun r vs G R => ∃ (v : V) (sz : List Nat), vs = [.ref r, v] ∧ (rLst (sz.map isN)).p v G ∧ okSz sz ∧ R = rSuch (okCmd sz) rLCmd
theorem ev_strs {F : Fm} {σ : L2.St} {G : Hp} : Ev F (tLst (tCons (tC (.str "store")) (tCons (tC (.str "store")) (tCons (tC (.str "store")) (tCons (tC (.str "flush")) (tCons (tC (.str "flush")) (tCons (tC (.str "fence")) tNil))))))) σ G (rLst [isV (.str "store"), isV (.str "store"), isV (.str "store"), isV (.str "flush"), isV (.str "flush"), isV (.str "fence")]) :=
  ev_lst (ea_cons ev_c (ea_cons ev_c (ea_cons ev_c (ea_cons ev_c (ea_cons ev_c (ea_cons ev_c ea_nil)))))) (by simp)
theorem ev_nums {F : Fm} {σ : L2.St} {G : Hp} {ts : TA} {is : List Int} (h : EvA F ts σ G (is.map isI)) (hl : is.length ≤ 1000) : Ev F (tLst ts) σ G (rLst (is.map isI)) := ev_lst h (by rw [List.length_map]; exact hl)
theorem ev_pickI {r : Addr} {σ : L2.St} {G : Hp} {te : TE} {is : List Int} {i : Nat} (hi : σ[i]? = some (some (.ref r))) (h : Ev (Fm.rng r) te σ G (rLst (is.map isI))) (h1 : 1 ≤ is.length) (h2 : is.length ≤ 1000) : Ev (Fm.rng r) (tCall (sp__law_pick K) [] E0 (tCons (tVar i) (tCons te tNil))) σ G (rSome isI) :=
  Ev.imp (ev_pick hi h (by rw [List.length_map]; exact h1) (by rw [List.length_map]; exact h2)) fun v G' _ rv => any_int (fun S hS => by
    obtain ⟨i, _, rfl⟩ := List.mem_map.mp hS
    exact ⟨i, rfl⟩) rv
theorem ev_m1 {F : Fm} {σ : L2.St} {G : Hp} : Ev F (tUn (rU fun i => .int (-i)) (tC (.int 1))) σ G (isI (-1)) := fun G1 H1 e a Q q => ⟨1, rfl, q _ G1 H1 (Gr.refl a) rfl⟩
theorem tup4_imp {F : Fm} {σ : L2.St} {G : Hp} {te : TE} {R1 R2 R3 R4 S : Rp} (h : Ev F te σ G (rTup [R1, R2, R3, R4])) (k : ∀ a v1 v2 v3 v4 G', G' a = some (.tup [v1, v2, v3, v4]) → R1.p v1 G' → R2.p v2 G' → R3.p v3 G' → R4.p v4 G' → S.p (.ref a) G') : Ev F te σ G S :=
  Ev.imp h fun v G' _ ⟨a, vs, hv, ha, hs⟩ => by
    obtain ⟨v1, v2, v3, v4, rfl, r1, r2, r3, r4⟩ := all4 hs
    rw [hv]
    exact k a v1 v2 v3 v4 G' ha r1 r2 r3 r4
theorem tup3_imp {F : Fm} {σ : L2.St} {G : Hp} {te : TE} {R1 R2 R3 S : Rp} (h : Ev F te σ G (rTup [R1, R2, R3])) (k : ∀ a v1 v2 v3 G', G' a = some (.tup [v1, v2, v3]) → R1.p v1 G' → R2.p v2 G' → R3.p v3 G' → S.p (.ref a) G') : Ev F te σ G S :=
  Ev.imp h fun v G' _ ⟨a, vs, hv, ha, hs⟩ => by
    obtain ⟨v1, v2, v3, rfl, r1, r2, r3⟩ := all3 hs
    rw [hv]
    exact k a v1 v2 v3 G' ha r1 r2 r3
theorem sc__law_random_command : FnScope ["_law_rng_here", "_law_sizes", "_law_kind", "_law_line"] ["_law_rng_here", "_law_sizes"] (defScope s__law_random_command) := ⟨rfl, rfl, rfl, by decide +kernel, rfl, by decide +kernel, by decide +kernel⟩
/- _law_rng_here=0 _law_sizes=1 _law_kind=2 _law_line=3; cells none; level 3 -/
theorem ok__law_random_command (T : Tx K mg) : Dk P w K mg base (He.ga K "_law_random_command") 3 ["_law_rng_here", "_law_sizes"] sp__law_random_command := by
  refine dk_of (d__law_random_command_at T) sc__law_random_command (fun _ _ _ _ _ _ us hl => match us, hl with | [_, _], _ => rfl) (fun vs H Q E h => ?_) (fun cdv A outer s H vs Q E hr h => ⟨_, (pss_cons (ps_set (i := 2) sc__law_random_command.nd rfl (.inl rfl) (pe_fn (ok__law_pick T) (hr.mono (by decide)) (g__law_pick T) (pa_cons (pv 0) (pa_cons (pe_lst (pa_cons pe_str (pa_cons pe_str (pa_cons pe_str (pa_cons pe_str (pa_cons pe_str (pa_cons pe_str pa_nil))))))) pa_nil))))
      (pss_cons (ps_set (i := 3) sc__law_random_command.nd rfl (.inl rfl) (pe_fn (ok__law_draw T) (hr.mono (by decide)) (g__law_draw T) (pa_cons (pv 0) (pa_cons (pe_callB call_len_seq (by rfl) (f_len T) bt_len (pa_cons (pv 1) pa_nil)) pa_nil))))
      (pss_cons (ps_if (pt_cmpR op_eq (pv 2) pe_str (nomark _)) (pss_one (ps_ret (pe_tup (pa_cons pe_str pa_nil)))) pss_nil)
      (pss_cons (ps_if (pt_cmpR op_eq (pv 2) pe_str (nomark _)) (pss_one (ps_ret (pe_tup (pa_cons pe_str (pa_cons (pv 3) pa_nil))))) pss_nil)
      (pss_one (ps_ret (pe_tup (pa_cons pe_str (pa_cons (pv 3) (pa_cons (pe_fn (ok__law_draw T) (hr.mono (by decide)) (g__law_draw T) (pa_cons (pv 0) (pa_cons (pe_ix ix_list (pv 1) (pv 3) (fun _ _ => rfl)) pa_nil))) (pa_cons (pe_fn (ok__law_pick T) (hr.mono (by decide)) (g__law_pick T) (pa_cons (pv 0) (pa_cons (pe_lst (pa_cons pe_int (pa_cons pe_int (pa_cons pe_int (pa_cons pe_int (pa_cons pe_int (pa_cons (pe_un un_neg pe_int) pa_nil))))))) pa_nil))) pa_nil))))))))))), ?_⟩)
  · obtain ⟨r, G, R, at_, ⟨v, sz, rfl, _⟩, _⟩ := h
    rfl
  · obtain ⟨r, G, R, at_, ⟨v, sz, rfl, hv, ok, rfl⟩, q⟩ := h
    have okl := ok.1
    have okl2 := ok.2.1
    refine st_asg (ev_pick (i := 0) rfl ev_strs (by simp) (by simp)) at_ fun vk G1 H1 g1 hk => ?_
    refine st_asg (ev_draw (i := 0) rfl (ev_lenSz (i := 1) rfl ((rLst (sz.map isN)).mo _ _ _ g1.gg hv)) okl (by omega)) g1.at_ fun vl G2 H2 g2 ⟨l, hl, hvl⟩ => ?_
    cases hvl
    have g12 := g1.trans g2
    have kind : vk = .str "store" ∨ vk = .str "flush" ∨ vk = .str "fence" := by
      obtain ⟨S, hS, hv⟩ := hk
      simp only [List.mem_cons, List.not_mem_nil, or_false] at hS
      rcases hS with rfl | rfl | rfl | rfl | rfl | rfl
      · exact .inl hv
      · exact .inl hv
      · exact .inl hv
      · exact .inr (.inl hv)
      · exact .inr (.inl hv)
      · exact .inr (.inr hv)
    obtain ⟨s, hs, s1, s3⟩ := ok.get hl
    rcases kind with rfl | rfl | rfl
    · refine st_if (B := (· = false)) ((et_test (ev_eq (ev_var (i := 2) rfl rfl) ev_c rfl)).to (by decide)) g2.at_ (fun G3 H3 g3 z => nomatch z) fun G3 H3 g3 _ => ?_
      refine st_if (B := (· = false)) ((et_test (ev_eq (ev_var (i := 2) rfl rfl) ev_c rfl)).to (by decide)) g3.at_ (fun G4 H4 g4 z => nomatch z) fun G4 H4 g4 _ => ?_
      have g14 := (g12.trans g3).trans g4
      refine st_ret (R := rSuch (okCmd sz) rLCmd) (tup4_imp (ev_tup (ea_cons ev_c (ea_cons (ev_var (R := isN l) (i := 3) rfl rfl) (ea_cons (ev_draw (i := 0) rfl (ev_szAt (i := 1) (j := 3) rfl rfl ((rLst _).mo _ _ _ g14.gg hv) rfl hs) s1 (by omega)) (ea_cons (ev_pickI (i := 0) (is := [1, 1, 2, 3, 0, -1]) rfl (ev_nums (ea_cons ev_c (ea_cons ev_c (ea_cons ev_c (ea_cons ev_c (ea_cons ev_c (ea_cons ev_m1 ea_nil)))))) (by simp)) (by simp) (by simp)) ea_nil)))) (by simp)) fun a v1 v2 v3 v4 G' ha r1 r2 r3 r4 => ?_) g4.at_ fun v5 G5 H5 g5 rv => q _ _ _ (g14.trans g5) rv
      obtain ⟨x, hx, hx3⟩ := r3
      obtain ⟨n, hn⟩ := r4
      exact ⟨.store ⟨l, x, n⟩, ⟨s, hs, hx⟩, a, _, rfl, ha, .cons r1 (.cons r2 (.cons hx3 (.cons hn .nil)))⟩
    · refine st_if (B := (· = false)) ((et_test (ev_eq (ev_var (i := 2) rfl rfl) ev_c rfl)).to (by decide)) g2.at_ (fun G3 H3 g3 z => nomatch z) fun G3 H3 g3 _ => ?_
      refine st_if (B := (· = true)) ((et_test (ev_eq (ev_var (i := 2) rfl rfl) ev_c rfl)).to (by decide)) g3.at_ (fun G4 H4 g4 _ => ?_) fun G4 H4 g4 z => nomatch z
      have g14 := (g12.trans g3).trans g4
      exact st_ret (R := rSuch (okCmd sz) rLCmd) (Ev.imp (ev_tup (ea_cons ev_c (ea_cons (ev_var (R := isN l) (i := 3) rfl rfl) ea_nil)) (by simp)) fun v G' _ r => ⟨.flush l, hl, r⟩) g4.at_ fun v5 G5 H5 g5 rv => q _ _ _ (g14.trans g5) rv
    · refine st_if (B := (· = true)) ((et_test (ev_eq (ev_var (i := 2) rfl rfl) ev_c rfl)).to (by decide)) g2.at_ (fun G3 H3 g3 _ => ?_) fun G3 H3 g3 z => nomatch z
      exact st_ret (R := rSuch (okCmd sz) rLCmd) (Ev.imp (ev_tup (ea_cons ev_c ea_nil) (by simp)) fun v G' _ r => ⟨.fence, True.intro, r⟩) g3.at_ fun v5 G5 H5 g5 rv => q _ _ _ ((g12.trans g3).trans g5) rv
def sp__law_random_commands : Sp := PromR fun r vs G R => ∃ (v : V) (sz : List Nat) (m : Nat), vs = [.ref r, v, .int m] ∧ (rLst (sz.map isN)).p v G ∧ okSz sz ∧ m ≤ 100 ∧ R = rSuch (fun cs : List Cmd => cs.length ≤ m ∧ ∀ c ∈ cs, okCmd sz c) fun cs => rLst (cs.map rLCmd)
theorem ev_p1 {F : Fm} {σ : L2.St} {G : Hp} {te : TE} {m : Nat} (h : Ev F te σ G (isN m)) : Ev F (tOp (rI0 fun i j => .int (i + j)) te (tC (.int 1))) σ G (isN (m + 1)) := ev_to (ev_I0 h ev_cI) (by
  show isV (.int ((m : Int) + 1)) = isV (.int ((m + 1 : Nat) : Int))
  rw [Int.natCast_add]
  rfl)
theorem sc__law_random_commands : FnScope ["_law_rng_here", "_law_sizes", "_law_most", "_law_index"] ["_law_rng_here", "_law_sizes", "_law_most"] (defScope s__law_random_commands) := ⟨rfl, rfl, rfl, by decide +kernel, rfl, by decide +kernel, by decide +kernel⟩
/- _law_rng_here=0 _law_sizes=1 _law_most=2 _law_index=3; cells _law_rng_here _law_sizes; level 4 -/
theorem ok__law_random_commands (T : Tx K mg) : Dk P w K mg base (He.ga K "_law_random_commands") 4 ["_law_rng_here", "_law_sizes", "_law_most"] sp__law_random_commands := by
  refine dk_of (d__law_random_commands_at T) sc__law_random_commands (fun _ _ _ _ _ _ us hl => match us, hl with | [_, _, _], _ => rfl) (fun vs H Q E h => ?_) (fun cdv A outer s H vs Q E hr h => ⟨_, (pss_one (ps_ret (pe_lc (own := [("_law_index", 3)]) (g := gName 3) (tt := tYes) rfl sc__law_random_commands.nd (pi_range1 (by rfl) (f_range T) (pa_cons (pe_fn (ok__law_draw T) (hr.mono (by decide)) (g__law_draw T) (pa_cons (pv 0) (pa_cons (pe_op op_add (pv 2) pe_int) pa_nil))) pa_nil)) (blkOk_by (by kernel_rfl)) (fun _ _ _ _ _ => (pg_name (i := 3) sc__law_random_commands.nd rfl (.inl rfl))) (fun _ _ _ _ _ => pts_nil) (fun _ _ _ _ _ => (pe_fn (ok__law_random_command T) (hr.mono (by decide)) (g__law_random_command T) (pa_cons (pv 0) (pa_cons (pv 1) pa_nil))))))), ?_⟩)
  · obtain ⟨r, G, R, at_, ⟨v, sz, m, rfl, _⟩, _⟩ := h
    rfl
  · obtain ⟨r, G, R, at_, ⟨v, sz, m, rfl, hv, ok, hm, rfl⟩, q⟩ := h
    refine st_ret (F := Fm.rng r) (R := rSuch (fun cs : List Cmd => cs.length ≤ m ∧ ∀ c ∈ cs, okCmd sz c) fun cs => rLst (cs.map rLCmd)) (Ev.imp (ev_lcR (α := Cmd) (q := okCmd sz) (RB := rLCmd) (c := fun n => n < m + 1) (j := 3) (vs := [3]) (σ := [some (.ref r), some v, some (.int m), none]) (ea_cons (ev_draw (i := 0) rfl (ev_p1 (ev_var (R := isN m) (i := 2) rfl rfl)) (by omega) (by omega)) ea_nil) (fun n hn => by omega) (fun _ => rfl) fun x G' e => ev_callR (ea_cons (ev_var (R := isV (.ref r)) (i := 0) rfl rfl) (ea_cons (ev_var (i := 1) rfl ((rLst _).mo _ _ _ e hv)) ea_nil)) fun vs G1 e rs => ?_) fun v G' _ r => ?_) at_ q
    · obtain ⟨_, _, rfl, rfl, r2⟩ := all2 rs
      exact ⟨_, sz, rfl, r2, ok, rfl⟩
    · obtain ⟨xs, ⟨h1, h2⟩, hr⟩ := r
      exact ⟨xs, ⟨by omega, h2⟩, hr⟩
end
end Ls


/-! LsW21 -/
namespace Ls
open PySem PySem.Spec PyProof.Rows L2
def rConds (sz : List Nat) (m : Nat) : Rp := rSuch (fun cs : List Cond => cs.length ≤ m ∧ ∀ c ∈ cs, okLCond sz c) fun cs => rLst (cs.map rLCond)
def rNumL : Rp := rSuch (fun ns : List Int => ns.length < 60) fun ns => rLst (ns.map isI)
theorem acc_rep {F : Fm} {L : Addr} {R : Rp} {i : Nat} {H0 G H : Hp} (a : Acc F L (List.replicate i R ++ [R]) H0 G H) : Acc F L (List.replicate (i + 1) R) H0 G H := by
  rw [List.replicate_succ']
  exact a
section
variable {P : Program} {w : World} {K : PySem.W.Frag} {mg : Str → Option Value} {base : Heap}
/-- (line, draw(sizes[line]), numbers) -/
theorem ev_cond {r : Addr} {σ : L2.St} {G : Hp} {v vn : V} {sz : List Nat} {l s : Nat} {j : Nat} (h0 : σ[0]? = some (some (.ref r))) (h1 : σ[1]? = some (some v)) (hv : (rLst (sz.map isN)).p v G) (hj : σ[5]? = some (some (.int l))) (hs : sz[l]? = some s) (s1 : 1 ≤ s) (s3 : s ≤ 3) (hn : σ[6]? = some (some vn)) (rn : rNumL.p vn G) :
    Ev (Fm.rng r) (tTup (tCons (tVar 5) (tCons (tCall sp__law_draw [] E0 (tCons (tVar 0) (tCons (tOp (rIxL K) (tVar 1) (tVar 5)) tNil))) (tCons (tVar 6) tNil)))) σ G (rSuch (okLCond sz) rLCond) :=
  tup3_imp (ev_tup (ea_cons (ev_var (R := isN l) hj rfl) (ea_cons (ev_draw h0 (ev_szAt h1 hj hv rfl hs) s1 (by omega)) (ea_cons (ev_var (R := rNumL) hn rn) ea_nil))) (by simp)) fun a v1 v2 v3 G' ha r1 r2 r3 => by
    obtain ⟨x, hx, hx2⟩ := r2
    obtain ⟨ns, hns, hn3⟩ := r3
    exact ⟨⟨l, x, ns⟩, ⟨⟨s, hs, hx⟩, hns⟩, a, _, rfl, ha, .cons r1 (.cons hx2 (.cons hn3 .nil))⟩
def sp__law_random_conditions : Sp := PromR fun r vs G R => ∃ (v : V) (sz : List Nat) (m : Nat), vs = [.ref r, v, .int m] ∧ (rLst (sz.map isN)).p v G ∧ okSz sz ∧ m ≤ 100 ∧ R = rConds sz m
theorem sc__law_random_conditions : FnScope ["_law_rng_here", "_law_sizes", "_law_most", "_law_result", "_law_index", "_law_line", "_law_numbers", "_law_turn"] ["_law_rng_here", "_law_sizes", "_law_most"] (defScope s__law_random_conditions) := ⟨rfl, rfl, rfl, by decide +kernel, rfl, by decide +kernel, by decide +kernel⟩
/- _law_rng_here=0 _law_sizes=1 _law_most=2 _law_result=3 _law_index=4 _law_line=5 _law_numbers=6 _law_turn=7; cells _law_rng_here; level 3 -/
theorem ok__law_random_conditions (T : Tx K mg) : Dk P w K mg base (He.ga K "_law_random_conditions") 3 ["_law_rng_here", "_law_sizes", "_law_most"] sp__law_random_conditions := by
  refine dk_of (d__law_random_conditions_at T) sc__law_random_conditions (fun _ _ _ _ _ _ us hl => match us, hl with | [_, _, _], _ => rfl) (fun vs H Q E h => ?_) (fun cdv A outer s H vs Q E hr h => ⟨_, (pss_cons (ps_set (i := 3) sc__law_random_conditions.nd rfl (.inl rfl) (pe_lst pa_nil))
      (pss_cons (ps_for PassesOwn.never rfl (pi_range1 (by rfl) (f_range T) (pa_cons (pe_fn (ok__law_draw T) (hr.mono (by decide)) (g__law_draw T) (pa_cons (pv 0) (pa_cons (pe_op op_add (pv 2) pe_int) pa_nil))) pa_nil)) (pg_name (i := 4) sc__law_random_conditions.nd rfl (.inl rfl)) (pss_cons (ps_set (i := 5) sc__law_random_conditions.nd rfl (.inl rfl) (pe_fn (ok__law_draw T) (hr.mono (by decide)) (g__law_draw T) (pa_cons (pv 0) (pa_cons (pe_callB call_len_seq (by rfl) (f_len T) bt_len (pa_cons (pv 1) pa_nil)) pa_nil))))
      (pss_cons (ps_setLc (i := 6) (own := [("_law_turn", 7)]) (g := gName 7) (tt := tYes) rfl sc__law_random_conditions.nd rfl rfl (sw_true rfl rfl rfl (by kernel_rfl)) (pi_range1 (by rfl) (f_range T) (pa_cons (pe_op op_add pe_int (pe_fn (ok__law_draw T) (hr.mono (by decide)) (g__law_draw T) (pa_cons (pv 0) (pa_cons pe_int pa_nil)))) pa_nil)) (blkOk_by (by kernel_rfl)) (fun _ _ _ _ _ => (pg_name (i := 7) sc__law_random_conditions.nd rfl (.inl rfl))) (fun _ _ _ _ _ => pts_nil) (fun _ _ _ _ _ => (pe_fn (ok__law_pick T) (hr.mono (by decide)) (g__law_pick T) (pa_cons (pv 0) (pa_cons (pe_lst (pa_cons pe_int (pa_cons pe_int (pa_cons pe_int (pa_cons pe_int (pa_cons pe_int (pa_cons (pe_un un_neg pe_int) (pa_cons pe_int pa_nil)))))))) pa_nil)))))
      (pss_one (ps_expr (pe_bm PySem.F.plainAttrs_list PySem.F.slot_list_append PySem.F.type_list_append mt_append (pv 3) (pa_cons (pe_tup (pa_cons (pv 5) (pa_cons (pe_fn (ok__law_draw T) (hr.mono (by decide)) (g__law_draw T) (pa_cons (pv 0) (pa_cons (pe_ix ix_list (pv 1) (pv 5) (fun _ _ => rfl)) pa_nil))) (pa_cons (pv 6) pa_nil)))) pa_nil)))))))
      (pss_one (ps_ret (pv 3))))), ?_⟩)
  · obtain ⟨r, G, R, at_, ⟨v, sz, m, rfl, _⟩, _⟩ := h
    rfl
  · obtain ⟨r, G, R, at_, ⟨v, sz, m, rfl, hv, ok, hm, rfl⟩, q⟩ := h
    have okl := ok.1
    have okl2 := ok.2.1
    refine st_newA (F := Fm.rng r) (Gr.refl at_) fun L G1 H1 g1 g1' acc1 => ?_
    refine for_rng g1 (c := fun n => n < m + 1) (ea_cons (ev_draw (i := 0) rfl (ev_p1 (ev_var (R := isN m) (i := 2) rfl rfl)) (by omega) (by omega)) ea_nil) (fun n hn => by omega) fun n hn wi hwi G2 H2 g2 e2 g2' => ?_
    refine st_forB (K := K) g2 (hwi _ _ _) (fun i σ G' H' => ∃ x4 x5 x6 x7, σ = [some (.ref r), some v, some (.int m), some (.ref L), x4, x5, x6, x7] ∧ i ≤ n ∧ Acc (Fm.rng r) L (List.replicate i (rSuch (okLCond sz) rLCond)) H G' H') (fun G' H' g => ⟨_, _, _, _, rfl, Nat.zero_le _, (acc1.gr g2').gr g⟩) (fun i σ G' H' G1 H1 ⟨x4, x5, x6, x7, e, hi, a⟩ at2 g => ⟨x4, x5, x6, x7, e, hi, a.gr (Gr.up at2 g)⟩) ?_ ?_
    · rintro i Y y σ' G3 H3 N hN hY g3 e3 hy ⟨x4, x5, x6, x7, rfl, hi, acc⟩
      have hin : i < n := by
        have := (List.getElem?_eq_some_iff.mp hY).1
        rwa [List.length_map, List.length_range] at this
      refine st_asg (ev_draw (i := 0) rfl (ev_lenSz (i := 1) rfl ((rLst (sz.map isN)).mo _ _ _ g3.gg hv)) okl (by omega)) g3.at_ fun vl G4 H4 g4 ⟨l, hl, hvl⟩ => ?_
      cases hvl
      obtain ⟨s, hs, s1, s3⟩ := ok.get hl
      refine st_asg (R := rNumL) (Ev.imp (ev_lcR (α := Int) (q := fun _ => True) (RB := isI) (c := fun n => 1 ≤ n ∧ n ≤ 3) (j := 7) (vs := [7]) (ea_cons (ev_add1 (c := fun n => n < 3) (ev_draw (m := 3) (i := 0) rfl ev_c (by decide) (by decide)) fun n hn => by omega) ea_nil) (fun n hn => by omega) (fun _ => rfl) fun x G' e => Ev.imp (ev_pickI (K := K) (i := 0) (is := [0, 1, 1, 2, 3, -1, 7]) rfl (ev_nums (ea_cons ev_c (ea_cons ev_c (ea_cons ev_c (ea_cons ev_c (ea_cons ev_c (ea_cons ev_m1 (ea_cons ev_c ea_nil))))))) (by simp)) (by simp) (by simp)) fun v G2 _ ⟨i, hi⟩ => ⟨i, True.intro, hi⟩) fun v G' _ ⟨xs, ⟨h1, _⟩, hr⟩ => ⟨xs, by omega, hr⟩) g4.at_ fun vn G5 H5 g5 hn5 => ?_
      have g35 := (g3.trans g4).trans g5
      have acc5 := (acc.gr g4).gr g5
      refine st_appA (i := 3) rfl acc5 g35 (ev_cond rfl rfl ((rLst _).mo _ _ _ g35.gg hv) rfl hs s1 s3 rfl hn5 (j := 0)) (by rw [List.length_replicate]; omega) fun G6 H6 g6 e6 acc6 => hN _ _ _ ((g4.gg.trans g5.gg).trans e6) g6 ⟨_, _, _, _, rfl, hin, acc_rep acc6⟩
    · rintro σ' G3 H3 g3 e3 ⟨x4, x5, x6, x7, rfl, hi, acc⟩
      rw [List.length_map, List.length_range] at acc
      obtain ⟨G4, g4, r4⟩ := acc.fin g3
      obtain ⟨xs, h1, h2, hr⟩ := lst_choose r4
      exact ⟨_, rfl, q _ _ _ g4 ⟨xs, ⟨by omega, h2⟩, hr⟩⟩
def sp__law_wide_conditions : Sp := PromR fun r vs G R => ∃ (v : V) (sz : List Nat) (m M : Nat), vs = [.ref r, v, .int m] ∧ (rLst (sz.map isN)).p v G ∧ okSz sz ∧ m ≤ M ∧ M ≤ 100 ∧ R = rConds sz M
theorem sc__law_wide_conditions : FnScope ["_law_rng_here", "_law_sizes", "_law_most", "_law_result", "_law_index", "_law_line", "_law_numbers", "_law_turn"] ["_law_rng_here", "_law_sizes", "_law_most"] (defScope s__law_wide_conditions) := ⟨rfl, rfl, rfl, by decide +kernel, rfl, by decide +kernel, by decide +kernel⟩
/- _law_rng_here=0 _law_sizes=1 _law_most=2 _law_result=3 _law_index=4 _law_line=5 _law_numbers=6 _law_turn=7; cells _law_rng_here; level 3 -/
theorem ok__law_wide_conditions (T : Tx K mg) : Dk P w K mg base (He.ga K "_law_wide_conditions") 3 ["_law_rng_here", "_law_sizes", "_law_most"] sp__law_wide_conditions := by
  refine dk_of (d__law_wide_conditions_at T) sc__law_wide_conditions (fun _ _ _ _ _ _ us hl => match us, hl with | [_, _, _], _ => rfl) (fun vs H Q E h => ?_) (fun cdv A outer s H vs Q E hr h => ⟨_, (pss_cons (ps_set (i := 3) sc__law_wide_conditions.nd rfl (.inl rfl) (pe_lst pa_nil))
      (pss_cons (ps_for PassesOwn.never rfl (pi_range1 (by rfl) (f_range T) (pa_cons (pe_fn (ok__law_draw T) (hr.mono (by decide)) (g__law_draw T) (pa_cons (pv 0) (pa_cons (pe_op op_add (pv 2) pe_int) pa_nil))) pa_nil)) (pg_name (i := 4) sc__law_wide_conditions.nd rfl (.inl rfl)) (pss_cons (ps_par (i := 5) (j := 6) (by rfl) sc__law_wide_conditions.nd rfl rfl (by decide) rfl rfl (pa_cons (pe_fn (ok__law_draw T) (hr.mono (by decide)) (g__law_draw T) (pa_cons (pv 0) (pa_cons (pe_callB call_len_seq (by rfl) (f_len T) bt_len (pa_cons (pv 1) pa_nil)) pa_nil))) (pa_cons (pe_lst (pa_cons pe_int (pa_cons pe_int (pa_cons pe_int (pa_cons pe_int (pa_cons (pe_un un_neg pe_int) (pa_cons pe_int pa_nil))))))) pa_nil)) (by rfl))
      (pss_cons (ps_if (pt_cmpR op_eq (pe_fn (ok__law_draw T) (hr.mono (by decide)) (g__law_draw T) (pa_cons (pv 0) (pa_cons pe_int pa_nil))) pe_int (nomark _)) (pss_one (ps_setLc (i := 6) (own := [("_law_turn", 7)]) (g := gName 7) (tt := tYes) rfl sc__law_wide_conditions.nd rfl rfl (sw_true rfl rfl rfl (by kernel_rfl)) (pi_range1 (by rfl) (f_range T) (pa_cons (pe_op op_add pe_int (pe_fn (ok__law_draw T) (hr.mono (by decide)) (g__law_draw T) (pa_cons (pv 0) (pa_cons pe_int pa_nil)))) pa_nil)) (blkOk_by (by kernel_rfl)) (fun _ _ _ _ _ => (pg_name (i := 7) sc__law_wide_conditions.nd rfl (.inl rfl))) (fun _ _ _ _ _ => pts_nil) (fun _ _ _ _ _ => (pe_fn (ok__law_pick T) (hr.mono (by decide)) (g__law_pick T) (pa_cons (pv 0) (pa_cons (pe_lst (pa_cons pe_int (pa_cons pe_int (pa_cons pe_int (pa_cons pe_int (pa_cons pe_int (pa_cons (pe_un un_neg pe_int) pa_nil))))))) pa_nil)))))) pss_nil)
      (pss_one (ps_expr (pe_bm PySem.F.plainAttrs_list PySem.F.slot_list_append PySem.F.type_list_append mt_append (pv 3) (pa_cons (pe_tup (pa_cons (pv 5) (pa_cons (pe_fn (ok__law_draw T) (hr.mono (by decide)) (g__law_draw T) (pa_cons (pv 0) (pa_cons (pe_ix ix_list (pv 1) (pv 5) (fun _ _ => rfl)) pa_nil))) (pa_cons (pv 6) pa_nil)))) pa_nil)))))))
      (pss_one (ps_ret (pv 3))))), ?_⟩)
  · obtain ⟨r, G, R, at_, ⟨v, sz, m, M, rfl, _⟩, _⟩ := h
    rfl
  · obtain ⟨r, G, R, at_, ⟨v, sz, m, M, rfl, hv, ok, hmM, hM, rfl⟩, q⟩ := h
    have okl := ok.1
    have okl2 := ok.2.1
    refine st_newA (F := Fm.rng r) (Gr.refl at_) fun L G1 H1 g1 g1' acc1 => ?_
    refine for_rng g1 (c := fun n => n < m + 1) (ea_cons (ev_draw (i := 0) rfl (ev_p1 (ev_var (R := isN m) (i := 2) rfl rfl)) (by omega) (by omega)) ea_nil) (fun n hn => by omega) fun n hn wi hwi G2 H2 g2 e2 g2' => ?_
    refine st_forB (K := K) g2 (hwi _ _ _) (fun i σ G' H' => ∃ x4 x5 x6 x7, σ = [some (.ref r), some v, some (.int m), some (.ref L), x4, x5, x6, x7] ∧ i ≤ n ∧ Acc (Fm.rng r) L (List.replicate i (rSuch (okLCond sz) rLCond)) H G' H') (fun G' H' g => ⟨_, _, _, _, rfl, Nat.zero_le _, (acc1.gr g2').gr g⟩) (fun i σ G' H' G1 H1 ⟨x4, x5, x6, x7, e, hi, a⟩ at2 g => ⟨x4, x5, x6, x7, e, hi, a.gr (Gr.up at2 g)⟩) ?_ ?_
    · rintro i Y y σ' G3 H3 N hN hY g3 e3 hy ⟨x4, x5, x6, x7, rfl, hi, acc⟩
      have hin : i < n := by
        have := (List.getElem?_eq_some_iff.mp hY).1
        rwa [List.length_map, List.length_range] at this
      refine st_par (ea_cons (ev_draw (i := 0) rfl (ev_lenSz (i := 1) rfl ((rLst (sz.map isN)).mo _ _ _ g3.gg hv)) okl (by omega)) (ea_cons (ev_nums (is := [0, 1, 2, 3, -1, 7]) (ea_cons ev_c (ea_cons ev_c (ea_cons ev_c (ea_cons ev_c (ea_cons ev_m1 (ea_cons ev_c ea_nil)))))) (by simp)) ea_nil)) g3.at_ fun vl vn0 G4 H4 g4 ⟨l, hl, hvl⟩ hn0 => ?_
      cases hvl
      obtain ⟨s, hs, s1, s3⟩ := ok.get hl
      have hn4 : rNumL.p vn0 G4 := ⟨[0, 1, 2, 3, -1, 7], by simp, hn0⟩
      have g34 := g3.trans g4
      have acc4 := acc.gr g4
      have app : ∀ (G5 H5 : Hp) (vn : V) (x7 : Option V), Gr (Fm.rng r) G4 H4 G5 H5 → rNumL.p vn G5 → tDrop (tBM K "list" rAppend (tVar 3) (tCons (tTup (tCons (tVar 5) (tCons (tCall sp__law_draw [] E0 (tCons (tVar 0) (tCons (tOp (rIxL K) (tVar 1) (tVar 5)) tNil))) (tCons (tVar 6) tNil)))) tNil)) { nx := N, rt := Q, ct := N, bk := fun _ _ => True } [some (.ref r), some v, some (.int m), some (.ref L), some y, some (.int l), some vn, x7] H5 := fun G5 H5 vn x7 g5 hn5 =>
        st_appA (i := 3) rfl (acc4.gr g5) (g34.trans g5) (ev_cond rfl rfl ((rLst _).mo _ _ _ (g34.trans g5).gg hv) rfl hs s1 s3 rfl hn5 (j := 0)) (by rw [List.length_replicate]; omega) fun G6 H6 g6 e6 acc6 => hN _ _ _ ((g4.gg.trans g5.gg).trans e6) g6 ⟨_, _, _, _, rfl, hin, acc_rep acc6⟩
      refine st_if (et_eq0 (ev_draw (m := 3) (i := 0) rfl ev_c (by decide) (by decide))) g4.at_ (fun G5 H5 g5 _ => ?_) fun G5 H5 g5 _ => ?_
      · refine st_asg (R := rNumL) (Ev.imp (ev_lcR (α := Int) (q := fun _ => True) (RB := isI) (c := fun n => 1 ≤ n ∧ n ≤ 3) (j := 7) (vs := [7]) (ea_cons (ev_add1 (c := fun n => n < 3) (ev_draw (m := 3) (i := 0) rfl ev_c (by decide) (by decide)) fun n hn => by omega) ea_nil) (fun n hn => by omega) (fun _ => rfl) fun x G' e => Ev.imp (ev_pickI (K := K) (i := 0) (is := [0, 1, 1, 2, 3, -1]) rfl (ev_nums (ea_cons ev_c (ea_cons ev_c (ea_cons ev_c (ea_cons ev_c (ea_cons ev_c (ea_cons ev_m1 ea_nil)))))) (by simp)) (by simp) (by simp)) fun v G2 _ ⟨i, hi⟩ => ⟨i, True.intro, hi⟩) fun v G' _ ⟨xs, ⟨h1, _⟩, hr⟩ => ⟨xs, by omega, hr⟩) g5.at_ fun vn G6 H6 g6 hn6 => ?_
        exact app G6 H6 vn x7 (g5.trans g6) hn6
      · exact app G5 H5 vn0 x7 g5 (rNumL.mo _ _ _ g5.gg hn4)
    · rintro σ' G3 H3 g3 e3 ⟨x4, x5, x6, x7, rfl, hi, acc⟩
      rw [List.length_map, List.length_range] at acc
      obtain ⟨G4, g4, r4⟩ := acc.fin g3
      obtain ⟨xs, h1, h2, hr⟩ := lst_choose r4
      exact ⟨_, rfl, q _ _ _ g4 ⟨xs, ⟨by omega, h2⟩, hr⟩⟩
end
end Ls


/-! LsW22 -/
namespace Ls
open PySem PySem.Spec PyProof.Rows L2
theorem all5 {R S T U W : Rp} {vs : List V} {G : Hp} (h : All [R, S, T, U, W] vs G) : ∃ v u w x y, vs = [v, u, w, x, y] ∧ R.p v G ∧ S.p u G ∧ T.p w G ∧ U.p x G ∧ W.p y G := by
  cases h with
  | cons a b =>
    obtain ⟨u, w, x, y, rfl, h2, h3, h4, h5⟩ := all4 b
    exact ⟨_, _, _, _, _, rfl, a, h2, h3, h4, h5⟩
theorem acc_choose {F : Fm} {L : Addr} {α : Type} {q : α → Prop} {RB : α → Rp} {Rs : List Rp} {H0 G H : Hp} (a : Acc F L (Rs ++ [rSuch q RB]) H0 G H) : ∃ x, q x ∧ Acc F L (Rs ++ [RB x]) H0 G H := by
  obtain ⟨⟨us, h1, h2⟩, h3, h4, h5⟩ := a
  have go : ∀ {Rs : List Rp} {us : List V}, All (Rs ++ [rSuch q RB]) us G → ∃ x, q x ∧ All (Rs ++ [RB x]) us G := by
    intro Rs
    induction Rs with
    | nil =>
      intro us h
      cases h with
      | cons r t =>
        obtain ⟨x, hx, rx⟩ := r
        exact ⟨x, hx, .cons rx t⟩
    | cons R Rs ih =>
      intro us h
      cases h with
      | cons r t =>
        obtain ⟨x, hx, rx⟩ := ih t
        exact ⟨x, hx, .cons r rx⟩
  obtain ⟨x, hx, hr⟩ := go h2
  exact ⟨x, hx, ⟨us, h1, hr⟩, h3, h4, h5⟩
theorem Acc.fx {F : Fm} {L p : Addr} {Rs : List Rp} {H0 G H : Hp} {o : HO} (a : Acc F L Rs H0 G H) (g : G p = none) (n : L ≠ p) : Acc F L Rs H0 (upd G p o) H := by
  obtain ⟨⟨us, h1, h2⟩, h3, h4, h5⟩ := a
  exact ⟨⟨us, h1, h2.mo (Ex.new g)⟩, by rw [upd_ne n]; exact h3, h4, h5⟩
theorem ev_min2 {F : Fm} {σ : L2.St} {G : Hp} {ta tb : TE} {i j : Int} (ha : Ev F ta σ G (isI i)) (hb : Ev F tb σ G (isI j)) : Ev F (tCB (fun xs H Q => ∃ i j, xs = [.int i, .int j] ∧ Q (.int (if j < i then j else i)) H) (tCons ta (tCons tb tNil))) σ G (isI (if j < i then j else i)) :=
  ev_cbv (ea_cons ha (ea_cons hb ea_nil)) fun vs G1 H1 _ eh hs Q q => by
    obtain ⟨_, _, rfl, rfl, rfl⟩ := all2 hs
    exact ⟨i, j, rfl, q _ rfl⟩
def rMoves (sz : List Nat) (m : Nat) : Rp := rSuch (fun ms : List Mv => ms.length ≤ m ∧ ∀ mv ∈ ms, okMv sz mv) fun ms => rLst (ms.map rLMv)
section
variable {P : Program} {w : World} {K : PySem.W.Frag} {mg : Str → Option Value} {base : Heap}
def sp__law_random_moves : Sp := PromR fun r vs G R => ∃ (v : V) (sz : List Nat) (m : Nat), vs = [.ref r, v, .int m] ∧ (rLst (sz.map isN)).p v G ∧ okSz sz ∧ m ≤ 100 ∧ R = rMoves sz m
theorem sc__law_random_moves : FnScope ["_law_rng_here", "_law_sizes", "_law_most", "_law_result", "_law_index", "_law_line", "_law_other", "_law_word"] ["_law_rng_here", "_law_sizes", "_law_most"] (defScope s__law_random_moves) := ⟨rfl, rfl, rfl, by decide +kernel, rfl, by decide +kernel, by decide +kernel⟩
/- _law_rng_here=0 _law_sizes=1 _law_most=2 _law_result=3 _law_index=4 _law_line=5 _law_other=6 _law_word=7; cells none; level 3 -/
theorem ok__law_random_moves (T : Tx K mg) : Dk P w K mg base (He.ga K "_law_random_moves") 3 ["_law_rng_here", "_law_sizes", "_law_most"] sp__law_random_moves := by
  refine dk_of (d__law_random_moves_at T) sc__law_random_moves (fun _ _ _ _ _ _ us hl => match us, hl with | [_, _, _], _ => rfl) (fun vs H Q E h => ?_) (fun cdv A outer s H vs Q E hr h => ⟨_, (pss_cons (ps_set (i := 3) sc__law_random_moves.nd rfl (.inl rfl) (pe_lst pa_nil))
      (pss_cons (ps_for PassesOwn.never rfl (pi_range1 (by rfl) (f_range T) (pa_cons (pe_fn (ok__law_draw T) (hr.mono (by decide)) (g__law_draw T) (pa_cons (pv 0) (pa_cons (pe_op op_add (pv 2) pe_int) pa_nil))) pa_nil)) (pg_name (i := 4) sc__law_random_moves.nd rfl (.inl rfl)) (pss_cons (ps_par (i := 5) (j := 6) (by rfl) sc__law_random_moves.nd rfl rfl (by decide) rfl rfl (pa_cons (pe_fn (ok__law_draw T) (hr.mono (by decide)) (g__law_draw T) (pa_cons (pv 0) (pa_cons (pe_callB call_len_seq (by rfl) (f_len T) bt_len (pa_cons (pv 1) pa_nil)) pa_nil))) (pa_cons (pe_fn (ok__law_draw T) (hr.mono (by decide)) (g__law_draw T) (pa_cons (pv 0) (pa_cons (pe_callB call_len_seq (by rfl) (f_len T) bt_len (pa_cons (pv 1) pa_nil)) pa_nil))) pa_nil)) (by rfl))
      (pss_cons (ps_set (i := 7) sc__law_random_moves.nd rfl (.inl rfl) (pe_fn (ok__law_draw T) (hr.mono (by decide)) (g__law_draw T) (pa_cons (pv 0) (pa_cons (pe_ix ix_list (pv 1) (pv 5) (fun _ _ => rfl)) pa_nil))))
      (pss_one (ps_if (pt_cmpR op_eq (pe_fn (ok__law_draw T) (hr.mono (by decide)) (g__law_draw T) (pa_cons (pv 0) (pa_cons pe_int pa_nil))) pe_int (nomark _)) (pss_one (ps_expr (pe_bm PySem.F.plainAttrs_list PySem.F.slot_list_append PySem.F.type_list_append mt_append (pv 3) (pa_cons (pe_tup (pa_cons pe_str (pa_cons (pv 5) (pa_cons (pv 7) (pa_cons (pv 6) (pa_cons (pe_fn (ok__law_draw T) (hr.mono (by decide)) (g__law_draw T) (pa_cons (pv 0) (pa_cons (pe_ix ix_list (pv 1) (pv 6) (fun _ _ => rfl)) pa_nil))) pa_nil)))))) pa_nil)))) (pss_one (ps_expr (pe_bm PySem.F.plainAttrs_list PySem.F.slot_list_append PySem.F.type_list_append mt_append (pv 3) (pa_cons (pe_tup (pa_cons pe_str (pa_cons (pv 5) (pa_cons (pv 7) (pa_cons (pe_fn (ok__law_pick T) (hr.mono (by decide)) (g__law_pick T) (pa_cons (pv 0) (pa_cons (pe_lst (pa_cons pe_int (pa_cons pe_int (pa_cons pe_int (pa_cons pe_int (pa_cons (pe_un un_neg pe_int) pa_nil)))))) pa_nil))) pa_nil))))) pa_nil)))))))))
      (pss_one (ps_ret (pv 3))))), ?_⟩)
  · obtain ⟨r, G, R, at_, ⟨v, sz, m, rfl, _⟩, _⟩ := h
    rfl
  · obtain ⟨r, G, R, at_, ⟨v, sz, m, rfl, hv, ok, hm, rfl⟩, q⟩ := h
    have okl := ok.1
    have okl2 := ok.2.1
    refine st_newA (F := Fm.rng r) (Gr.refl at_) fun L G1 H1 g1 g1' acc1 => ?_
    refine for_rng g1 (c := fun n => n < m + 1) (ea_cons (ev_draw (i := 0) rfl (ev_p1 (ev_var (R := isN m) (i := 2) rfl rfl)) (by omega) (by omega)) ea_nil) (fun n hn => by omega) fun n hn wi hwi G2 H2 g2 e2 g2' => ?_
    refine st_forB (K := K) g2 (hwi _ _ _) (fun i σ G' H' => ∃ x4 x5 x6 x7, σ = [some (.ref r), some v, some (.int m), some (.ref L), x4, x5, x6, x7] ∧ i ≤ n ∧ Acc (Fm.rng r) L (List.replicate i (rSuch (okMv sz) rLMv)) H G' H') (fun G' H' g => ⟨_, _, _, _, rfl, Nat.zero_le _, (acc1.gr g2').gr g⟩) (fun i σ G' H' G1 H1 ⟨x4, x5, x6, x7, e, hi, a⟩ at2 g => ⟨x4, x5, x6, x7, e, hi, a.gr (Gr.up at2 g)⟩) ?_ ?_
    · rintro i Y y σ' G3 H3 N hN hY g3 e3 hy ⟨x4, x5, x6, x7, rfl, hi, acc⟩
      have hin : i < n := by
        have := (List.getElem?_eq_some_iff.mp hY).1
        rwa [List.length_map, List.length_range] at this
      have hv3 := (rLst (sz.map isN)).mo _ _ _ g3.gg hv
      refine st_par (ea_cons (ev_draw (i := 0) rfl (ev_lenSz (i := 1) rfl hv3) okl (by omega)) (ea_cons (ev_draw (i := 0) rfl (ev_lenSz (i := 1) rfl hv3) okl (by omega)) ea_nil)) g3.at_ fun vl vo G4 H4 g4 ⟨l, hl, hvl⟩ ⟨o, hlo, hvo⟩ => ?_
      cases hvl
      cases hvo
      obtain ⟨s, hs, s1, s3⟩ := ok.get hl
      obtain ⟨so, hso, so1, so3⟩ := ok.get hlo
      have hv4 := (rLst (sz.map isN)).mo _ _ _ g4.gg hv3
      refine st_asg (ev_draw (i := 0) rfl (ev_szAt (i := 1) (j := 5) rfl rfl hv4 rfl hs) s1 (by omega)) g4.at_ fun vw G5 H5 g5 ⟨x, hx, hvx⟩ => ?_
      cases hvx
      refine st_if (et_eq0 (ev_draw (m := 2) (i := 0) rfl ev_c (by decide) (by decide))) g5.at_ (fun G6 H6 g6 _ => ?_) fun G6 H6 g6 _ => ?_
      · have g36 := ((g3.trans g4).trans g5).trans g6
        have hv6 := (rLst (sz.map isN)).mo _ _ _ (g5.gg.trans g6.gg) hv4
        refine st_appA (i := 3) (R := rSuch (okMv sz) rLMv) rfl (((acc.gr g4).gr g5).gr g6) g36 (Ev.imp (ev_tup (ea_cons ev_c (ea_cons (ev_var (R := isN l) (i := 5) rfl rfl) (ea_cons (ev_var (R := isN x) (i := 7) rfl rfl) (ea_cons (ev_var (R := isN o) (i := 6) rfl rfl) (ea_cons (ev_draw (i := 0) rfl (ev_szAt (i := 1) (j := 6) rfl rfl hv6 rfl hso) so1 (by omega)) ea_nil))))) (by simp)) fun v G' _ ⟨a, vs, hv, ha, hs'⟩ => ?_) (by rw [List.length_replicate]; omega) fun G7 H7 g7 e7 acc7 => hN _ _ _ (((g4.gg.trans g5.gg).trans g6.gg).trans e7) g7 ⟨_, _, _, _, rfl, hin, acc_rep acc7⟩
        obtain ⟨v1, v2, v3, v4, v5, rfl, r1, r2, r3, r4, ⟨y, hy, r5⟩⟩ := all5 hs'
        exact ⟨.copy l x o y, ⟨⟨s, hs, hx⟩, ⟨so, hso, hy⟩⟩, a, _, hv, ha, .cons r1 (.cons r2 (.cons r3 (.cons r4 (.cons r5 .nil))))⟩
      · have g36 := ((g3.trans g4).trans g5).trans g6
        refine st_appA (i := 3) (R := rSuch (okMv sz) rLMv) rfl (((acc.gr g4).gr g5).gr g6) g36 (tup4_imp (ev_tup (ea_cons ev_c (ea_cons (ev_var (R := isN l) (i := 5) rfl rfl) (ea_cons (ev_var (R := isN x) (i := 7) rfl rfl) (ea_cons (ev_pickI (K := K) (i := 0) (is := [0, 1, 2, 3, -1]) rfl (ev_nums (ea_cons ev_c (ea_cons ev_c (ea_cons ev_c (ea_cons ev_c (ea_cons ev_m1 ea_nil))))) (by simp)) (by simp) (by simp)) ea_nil)))) (by simp)) fun a v1 v2 v3 v4 G' ha r1 r2 r3 ⟨k, r4⟩ => ⟨.store ⟨l, x, k⟩, ⟨s, hs, hx⟩, a, _, rfl, ha, .cons r1 (.cons r2 (.cons r3 (.cons r4 .nil)))⟩) (by rw [List.length_replicate]; omega) fun G7 H7 g7 e7 acc7 => hN _ _ _ (((g4.gg.trans g5.gg).trans g6.gg).trans e7) g7 ⟨_, _, _, _, rfl, hin, acc_rep acc7⟩
    · rintro σ' G3 H3 g3 e3 ⟨x4, x5, x6, x7, rfl, hi, acc⟩
      rw [List.length_map, List.length_range] at acc
      obtain ⟨G4, g4, r4⟩ := acc.fin g3
      obtain ⟨xs, h1, h2, hr⟩ := lst_choose r4
      exact ⟨_, rfl, q _ _ _ g4 ⟨xs, ⟨by omega, h2⟩, hr⟩⟩
def sp__law_random_steps : Sp := PromR fun r vs G R => ∃ (v : V) (sz : List Nat), vs = [.ref r, v, .int 8] ∧ (rLst (sz.map isN)).p v G ∧ okSz sz ∧ R = rSuch (okLRec sz) fun st => rLst (st.map rLStp)
theorem movesOf_app (r : List Stp) (p : Stp) : movesOf (r ++ [p]) = movesOf r + p.2.length := by
  unfold movesOf
  rw [List.map_append, List.sum_append]
  simp
theorem sc__law_random_steps : FnScope ["_law_rng_here", "_law_sizes", "_law_most_moves", "_law_result", "_law_left", "_law_index", "_law_moves"] ["_law_rng_here", "_law_sizes", "_law_most_moves"] (defScope s__law_random_steps) := ⟨rfl, rfl, rfl, by decide +kernel, rfl, by decide +kernel, by decide +kernel⟩
/- _law_rng_here=0 _law_sizes=1 _law_most_moves=2 _law_result=3 _law_left=4 _law_index=5 _law_moves=6; cells none; level 4 -/
theorem ok__law_random_steps (T : Tx K mg) : Dk P w K mg base (He.ga K "_law_random_steps") 4 ["_law_rng_here", "_law_sizes", "_law_most_moves"] sp__law_random_steps := by
  refine dk_of (d__law_random_steps_at T) sc__law_random_steps (fun _ _ _ _ _ _ us hl => match us, hl with | [_, _, _], _ => rfl) (fun vs H Q E h => ?_) (fun cdv A outer s H vs Q E hr h => ⟨_, (pss_cons (ps_par (i := 3) (j := 4) (by rfl) sc__law_random_steps.nd rfl rfl (by decide) rfl rfl (pa_cons (pe_lst pa_nil) (pa_cons (pv 2) pa_nil)) (by rfl))
      (pss_cons (ps_for PassesOwn.never rfl (pi_range1 (by rfl) (f_range T) (pa_cons (pe_fn (ok__law_draw T) (hr.mono (by decide)) (g__law_draw T) (pa_cons (pv 0) (pa_cons pe_int pa_nil))) pa_nil)) (pg_name (i := 5) sc__law_random_steps.nd rfl (.inl rfl)) (pss_cons (ps_set (i := 6) sc__law_random_steps.nd rfl (.inl rfl) (pe_fn (ok__law_random_moves T) (hr.mono (by decide)) (g__law_random_moves T) (pa_cons (pv 0) (pa_cons (pv 1) (pa_cons (pe_callB (call_min2 rfl) (by rfl) (f_min T) bt_min (pa_cons (pv 4) (pa_cons pe_int pa_nil))) pa_nil)))))
      (pss_cons (ps_set (i := 4) sc__law_random_steps.nd rfl (.inl rfl) (pe_op op_sub (pv 4) (pe_callB call_len_seq (by rfl) (f_len T) bt_len (pa_cons (pv 6) pa_nil))))
      (pss_one (ps_expr (pe_bm PySem.F.plainAttrs_list PySem.F.slot_list_append PySem.F.type_list_append mt_append (pv 3) (pa_cons (pe_tup (pa_cons (pe_fn (ok__law_wide_conditions T) (hr.mono (by decide)) (g__law_wide_conditions T) (pa_cons (pv 0) (pa_cons (pv 1) (pa_cons (pe_fn (ok__law_pick T) (hr.mono (by decide)) (g__law_pick T) (pa_cons (pv 0) (pa_cons (pe_lst (pa_cons pe_int (pa_cons pe_int (pa_cons pe_int pa_nil)))) pa_nil))) pa_nil)))) (pa_cons (pv 6) pa_nil))) pa_nil)))))))
      (pss_one (ps_ret (pv 3))))), ?_⟩)
  · obtain ⟨r, G, R, at_, ⟨v, sz, rfl, _⟩, _⟩ := h
    rfl
  · obtain ⟨r, G, R, at_, ⟨v, sz, rfl, hv, ok, rfl⟩, q⟩ := h
    have okl := ok.1
    have okl2 := ok.2.1
    refine ⟨by show 0 ≤ sizeLine; omega, fun L hL => ⟨.int 8, rfl, .ref L, .int 8, rfl, ?_⟩⟩
    have g1 : Gr (Fm.rng r) G H G (upd H L (.lst [])) := Gr.newH at_ hL
    have acc1 : Acc (Fm.rng r) L [] H G (upd H L (.lst [])) := ⟨⟨[], upd_same, .nil⟩, at_.none hL, hL, fun s => at_.sh L s hL⟩
    refine for_rng g1 (c := fun n => n < 5) (ea_cons (ev_draw (m := 5) (i := 0) rfl ev_c (by omega) (by omega)) ea_nil) (fun n hn => by omega) fun n hn wi hwi G2 H2 g2 e2 g2' => ?_
    refine st_forB (K := K) g2 (hwi _ _ _) (fun i σ G' H' => ∃ (x5 x6 : Option V) (st : List Stp) (left : Nat), σ = [some (.ref r), some v, some (.int 8), some (.ref L), some (.int left), x5, x6] ∧ i ≤ n ∧ st.length = i ∧ (∀ p ∈ st, okLStp sz p) ∧ movesOf st + left = 8 ∧ Acc (Fm.rng r) L (st.map rLStp) H G' H') (fun G' H' g => ⟨_, _, [], 8, rfl, Nat.zero_le _, rfl, (fun p hp => nomatch hp), rfl, (acc1.gr g2').gr g⟩) (fun i σ G' H' G1 H1 ⟨x5, x6, st, left, e, hi, h1, h2, h3, a⟩ at2 g => ⟨x5, x6, st, left, e, hi, h1, h2, h3, a.gr (Gr.up at2 g)⟩) ?_ ?_
    · rintro i Y y σ' G3 H3 N hN hY g3 e3 hy ⟨x5, x6, st, left, rfl, hi, hst, hok, hmv, acc⟩
      have hin : i < n := by
        have := (List.getElem?_eq_some_iff.mp hY).1
        rwa [List.length_map, List.length_range] at this
      have hv3 := (rLst (sz.map isN)).mo _ _ _ g3.gg hv
      have hmin : Ev (Fm.rng r) (tCB (fun xs H Q => ∃ i j, xs = [.int i, .int j] ∧ Q (.int (if j < i then j else i)) H) (tCons (tVar 4) (tCons (tC (.int 3)) tNil))) [some (.ref r), some v, some (.int 8), some (.ref L), some (.int left), some y, x6] G3 (isN (min left 3)) := ev_to (ev_min2 (ev_var (R := isN left) (i := 4) rfl rfl) ev_cI) (by
        show isV (.int (if (3 : Int) < (left : Int) then 3 else (left : Int))) = isV (.int ((min left 3 : Nat) : Int))
        by_cases z : 3 < left
        · rw [if_pos (by omega), Nat.min_eq_right (by omega)]
          rfl
        · rw [if_neg (by omega), Nat.min_eq_left (by omega)])
      refine st_asg (ev_callR (R := rMoves sz (min left 3)) (ea_cons (ev_var (R := isV (.ref r)) (i := 0) rfl rfl) (ea_cons (ev_var (i := 1) rfl hv3) (ea_cons hmin ea_nil))) fun vs G4 e rs => ?_) g3.at_ fun vm G4 H4 g4 ⟨ms, ⟨hm1, hm2⟩, hms⟩ => ?_
      · obtain ⟨_, _, _, rfl, rfl, r2, rfl⟩ := all3 rs
        exact ⟨_, sz, min left 3, rfl, r2, ok, by omega, rfl⟩
      have hml : ms.length ≤ left := by omega
      refine st_asg (ev_I0 (g := fun i j => .int (i - j)) (j := (ms.length : Nat)) (ev_var (R := isN left) (i := 4) rfl rfl) (ev_to (S := isN ms.length) (ev_lenL (ev_var (i := 6) rfl hms)) (by rw [List.length_map]))) g4.at_ fun vl G5 H5 g5 r5 => ?_
      cases r5
      have g35 := (g3.trans g4).trans g5
      have hms5 := (rLst (ms.map rLMv)).mo _ _ _ g5.gg hms
      have hv5 := (rLst (sz.map isN)).mo _ _ _ (g4.gg.trans g5.gg) hv3
      refine st_appA (i := 3) (R := rSuch (fun p : Stp => p.2 = ms ∧ okLStp sz p) rLStp) rfl ((acc.gr g4).gr g5) g35 (Ev.imp (ev_tup (ea_cons (ev_callR (R := rConds sz 6) (ea_cons (ev_var (R := isV (.ref r)) (i := 0) rfl rfl) (ea_cons (ev_var (i := 1) rfl hv5) (ea_cons (ev_pick (K := K) (i := 0) (Rs := [isI 2, isI 2, isI 6]) rfl (ev_lst (ea_cons ev_c (ea_cons ev_c (ea_cons ev_c ea_nil))) (by simp)) (by simp) (by simp)) ea_nil))) fun vs G6 e rs => ?_) (ea_cons (ev_var (i := 6) rfl hms5) ea_nil)) (by simp)) fun v G' _ ⟨a, vs, hv, ha, hs'⟩ => ?_) (by rw [List.length_map]; omega) fun G7 H7 g7 e7 acc7 => ?_
      · obtain ⟨_, _, _, rfl, rfl, r2, ⟨S, hS, r3⟩⟩ := all3 rs
        simp only [List.mem_cons, List.not_mem_nil, or_false] at hS
        rcases hS with rfl | rfl | rfl
        · cases r3
          exact ⟨_, sz, 2, 6, rfl, r2, ok, by omega, by omega, rfl⟩
        · cases r3
          exact ⟨_, sz, 2, 6, rfl, r2, ok, by omega, by omega, rfl⟩
        · cases r3
          exact ⟨_, sz, 6, 6, rfl, r2, ok, by omega, by omega, rfl⟩
      · obtain ⟨v1, v2, rfl, ⟨cs, ⟨c1, c2⟩, r1⟩, r2⟩ := all2 hs'
        exact ⟨(cs, ms), ⟨rfl, c1, c2, hm2⟩, a, _, hv, ha, .cons r1 (.cons r2 .nil)⟩
      · obtain ⟨p, ⟨hp1, hp2⟩, acc8⟩ := acc_choose acc7
        refine hN _ _ _ ((g4.gg.trans g5.gg).trans e7) g7 ⟨some y, some vm, st ++ [p], left - ms.length, ?_, hin, by rw [List.length_append, hst]; rfl, fun z hz => ?_, ?_, by rw [List.map_append]; exact acc8⟩
        · show [some (V.ref r), some v, some (.int 8), some (.ref L), some (.int ((left : Int) - (ms.length : Int))), some y, some vm] = _
          rw [Int.ofNat_sub hml]
        · rcases List.mem_append.mp hz with z1 | z1
          · exact hok z z1
          · rw [List.mem_singleton.mp z1]
            exact hp2
        · rw [movesOf_app, hp1]
          omega
    · rintro σ' G3 H3 g3 e3 ⟨x5, x6, st, left, rfl, hi, hst, hok, hmv, acc⟩
      rw [List.length_map, List.length_range] at hst
      obtain ⟨G4, g4, r4⟩ := acc.fin g3
      exact ⟨_, rfl, q _ _ _ g4 ⟨st, ⟨by omega, hok, by omega⟩, r4⟩⟩
end
end Ls


/-! LsW23 -/
namespace Ls
open PySem PySem.Spec PyProof.Rows L2
theorem et_str {F : Fm} {te : TE} {σ : L2.St} {G : Hp} {x y : Str} {b : Bool} (h : Ev F te σ G (isV (.str x))) (e : decide (V.str x = V.str y) = b) : EvT F (tTest (tOp rEq te (tC (.str y)))) σ G (· = b) := (et_test (ev_eq h ev_c rfl)).to e
section
variable {F : Fm} {σ : L2.St} {G H G0 H0 : Hp} {R : Rp} {Rs Rs' : List Rp} {te : TE} {K : PySem.W.Frag} {D : Ends}
theorem st_newA2 {i : Nat} (b : Gr F G0 H0 G H) (k : ∀ L G' H', Gr F G0 H0 G' H' → Gr F G H G' H' → Acc F L [] H0 G' H' → H L = none → D.nx (σ.set i (some (.ref L))) H') : tAsg (tLst tNil) (gName i) D σ H :=
  st_new (Rs := []) ea_nil (by simp) b.at_ fun L us G' H' g nL gL nS eL hus => by
    cases hus
    exact k L G' H' (b.trans g) g ⟨⟨[], eL, .nil⟩, gL, b.none nL, nS⟩ nL
theorem st_appA2 {L L2 : Addr} {i : Nat} (hi : σ[i]? = some (some (.ref L))) (a : Acc F L Rs H0 G H) (a2 : Acc F L2 Rs' H0 G H) (n : L2 ≠ L) (b : Gr F G0 H0 G H) (h : Ev F te σ G R) (hz : Rs.length ≤ 1000000) (k : ∀ G' H', Gr F G0 H0 G' H' → Ex G G' → Acc F L (Rs ++ [R]) H0 G' H' → Acc F L2 Rs' H0 G' H' → D.nx σ H') : tDrop (tBM K "list" rAppend (tVar i) (tCons te tNil)) D σ H := by
  obtain ⟨us, h1, h2⟩ := a.at_
  refine st_appR hi h1 (h G H (Ex.refl _) b.at_ _ fun v G2 H2 g2 rv => ?_)
  have a' := a.gr g2
  have a2' := a2.gr g2
  have e2 := g2.hh L _ a.nS h1
  obtain ⟨us2, k1, k2⟩ := a2'.at_
  refine app_end e2 (by rw [← h2.len]; exact hz) (k G2 _ ((b.trans g2).wr a.n0 a'.g a.nS) g2.gg ⟨⟨us ++ [v], upd_same, (h2.mo g2.gg).snoc rv⟩, a'.g, a.n0, a.nS⟩ ⟨⟨us2, (upd_ne n).trans k1, k2⟩, a2'.g, a2'.n0, a2'.nS⟩)
theorem Acc.ne {L L2 : Addr} (a : Acc F L Rs H0 G H) (n : H L2 = none) : L ≠ L2 := fun z => by
  obtain ⟨us, h1, _⟩ := a.at_
  rw [z, n] at h1
  cases h1
end
section
variable {P : Program} {w : World} {K : PySem.W.Frag} {mg : Str → Option Value} {base : Heap}
def sp__law_command (K : PySem.W.Frag) : Sp := Prom fun vs G R => ∃ (v : V) (c : Cmd), vs = [v] ∧ (rLCmd c).p v G ∧ R = rCmd K c
theorem sc__law_command : FnScope ["_law_command_here"] ["_law_command_here"] (defScope s__law_command) := ⟨rfl, rfl, rfl, by decide +kernel, rfl, by decide +kernel, by decide +kernel⟩
/- _law_command_here=0; cells none; level 3 -/
theorem ok__law_command (T : Tx K mg) : Dk P w K mg base (He.ga K "_law_command") 3 ["_law_command_here"] (sp__law_command K) := by
  refine dk_of (d__law_command_at T) sc__law_command (fun _ _ _ _ _ _ us hl => match us, hl with | [_], _ => rfl) (fun vs H Q E h => ?_) (fun cdv A outer s H vs Q E hr h => ⟨_, (pss_cons (ps_if (pt_cmpR op_eq (pe_ix ix_tup (pv 0) pe_int (fun _ _ => rfl)) pe_str (nomark _)) (pss_one (ps_ret (pe_mk (mk_Store T) (ok_Store_init T) (hr.mono (by decide)) (g_Store T) (pa_cons (pe_ix ix_tup (pv 0) pe_int (fun _ _ => rfl)) (pa_cons (pe_ix ix_tup (pv 0) pe_int (fun _ _ => rfl)) (pa_cons (pe_ix ix_tup (pv 0) pe_int (fun _ _ => rfl)) pa_nil)))))) pss_nil)
      (pss_one (ps_ret (pe_ifExp (pt_cmpR op_eq (pe_ix ix_tup (pv 0) pe_int (fun _ _ => rfl)) pe_str (nomark _)) (pe_mk (mk_Flush T) (ok_Flush_init T) (hr.mono (by decide)) (g_Flush T) (pa_cons (pe_ix ix_tup (pv 0) pe_int (fun _ _ => rfl)) pa_nil)) (pe_mk0 T hr))))), ?_⟩)
  · obtain ⟨G, R, gh, ⟨v, c, rfl, _⟩, _⟩ := h
    rfl
  · obtain ⟨G, R, gh, ⟨v, c, rfl, hv, rfl⟩, q⟩ := h
    cases c with
    | store s =>
      have hx : ∀ {G' : Hp} {i : Nat} {R : Rp}, Ex G G' → [isV (.str "store"), isN s.l, isN s.w, isI s.n][i]? = some R → Ev Fm.no (tOp (rIxT K) (tVar 0) (tC (.int i))) [some v] G' R := fun e hi => ev_ixT (ev_var rfl ((rLCmd (.store s)).mo _ _ _ e hv)) ev_c hi
      refine st_if (B := (· = true)) (et_str (hx (i := 0) (Ex.refl _) rfl) (by decide)) (At.no gh) (fun G1 H1 g1 _ => ?_) fun G1 H1 g1 z => nomatch z
      refine st_ret (ev_make (ea_cons (hx (i := 1) g1.gg rfl) (ea_cons (hx (i := 2) g1.gg rfl) (ea_cons (hx (i := 3) g1.gg rfl) ea_nil))) fun vs G2 e rs => ?_) g1.at_ fun v2 G2 H2 g2 rv => q _ _ _ (g1.trans g2) rv
      obtain ⟨_, _, _, rfl, rfl, rfl, rfl⟩ := all3 rs
      exact ⟨s.l, s.w, s.n, rfl, rfl⟩
    | flush l =>
      have hx : ∀ {G' : Hp} {i : Nat} {R : Rp}, Ex G G' → [isV (.str "flush"), isN l][i]? = some R → Ev Fm.no (tOp (rIxT K) (tVar 0) (tC (.int i))) [some v] G' R := fun e hi => ev_ixT (ev_var rfl ((rLCmd (.flush l)).mo _ _ _ e hv)) ev_c hi
      refine st_if (B := (· = false)) (et_str (hx (i := 0) (Ex.refl _) rfl) (by decide)) (At.no gh) (fun G1 H1 g1 z => nomatch z) fun G1 H1 g1 _ => ?_
      have hm : Ev Fm.no (tMake (He.ga K "Flush") (sp_Flush_init K) [] E0 (tCons (tOp (rIxT K) (tVar 0) (tC (.int (1 : Nat)))) tNil)) [some v] G1 (rCmd K (.flush l)) := ev_make (ea_cons (hx (i := 1) g1.gg rfl) ea_nil) fun vs G2 e rs => by
        obtain ⟨_, rfl, rfl⟩ := all1 rs
        exact ⟨l, rfl, rfl⟩
      exact st_ret (ev_if (B := (· = true)) (et_str (hx (i := 0) g1.gg rfl) (by decide)) (fun _ => hm) fun z => nomatch z) g1.at_ fun v2 G2 H2 g2 rv => q _ _ _ (g1.trans g2) rv
    | fence =>
      have hx : ∀ {G' : Hp} {i : Nat} {R : Rp}, Ex G G' → [isV (.str "fence")][i]? = some R → Ev Fm.no (tOp (rIxT K) (tVar 0) (tC (.int i))) [some v] G' R := fun e hi => ev_ixT (ev_var rfl ((rLCmd .fence).mo _ _ _ e hv)) ev_c hi
      refine st_if (B := (· = false)) (et_str (hx (i := 0) (Ex.refl _) rfl) (by decide)) (At.no gh) (fun G1 H1 g1 z => nomatch z) fun G1 H1 g1 _ => ?_
      exact st_ret (ev_if (B := (· = false)) (et_str (hx (i := 0) g1.gg rfl) (by decide)) (fun z => nomatch z) fun _ => ev_make0) g1.at_ fun v2 G2 H2 g2 rv => q _ _ _ (g1.trans g2) rv
theorem ev_memL {F : Fm} {σ : L2.St} {G : Hp} {te : TE} {sz : List Nat} (h : Ev F te σ G (rLst (sz.map isN))) (ok : okSz sz) : Ev F (tMake (He.ga K "Memory") (sp_Memory_init K) [] E0 (tCons te tNil)) σ G (rMem K sz) :=
  ev_make (ea_cons h ea_nil) fun vs G1 e rs => by
    obtain ⟨_, rfl, r⟩ := all1 rs
    exact ⟨_, sz, rfl, .inr r, ok.mem, rfl⟩
def sp__law_program (K : PySem.W.Frag) : Sp := Prom fun vs G R => ∃ (v u : V) (sz : List Nat) (cs : List Cmd), vs = [v, u] ∧ (rLst (sz.map isN)).p v G ∧ okSz sz ∧ (rLst (cs.map rLCmd)).p u G ∧ cs.length ≤ 200 ∧ (∀ c ∈ cs, okCmd sz c) ∧ R = rProg K sz cs
theorem sc__law_program : FnScope ["_law_sizes", "_law_commands", "_law_command_here"] ["_law_sizes", "_law_commands"] (defScope s__law_program) := ⟨rfl, rfl, rfl, by decide +kernel, rfl, by decide +kernel, by decide +kernel⟩
/- _law_sizes=0 _law_commands=1 _law_command_here=2; cells none; level 7 -/
theorem ok__law_program (T : Tx K mg) : Dk P w K mg base (He.ga K "_law_program") 7 ["_law_sizes", "_law_commands"] (sp__law_program K) := by
  refine dk_of (d__law_program_at T) sc__law_program (fun _ _ _ _ _ _ us hl => match us, hl with | [_, _], _ => rfl) (fun vs H Q E h => ?_) (fun cdv A outer s H vs Q E hr h => ⟨_, (pss_one (ps_ret (pe_mk (mk_Program T) (ok_Program_init T) (hr.mono (by decide)) (g_Program T) (pa_cons (pe_mk (mk_Memory T) (ok_Memory_init T) (hr.mono (by decide)) (g_Memory T) (pa_cons (pv 0) pa_nil)) (pa_cons (pe_lc (own := [("_law_command_here", 2)]) (g := gName 2) (tt := tYes) rfl sc__law_program.nd (pi_list (pv 1)) (blkOk_by (by kernel_rfl)) (fun _ _ _ _ _ => (pg_name (i := 2) sc__law_program.nd rfl (.inl rfl))) (fun _ _ _ _ _ => pts_nil) (fun _ _ _ _ _ => (pe_fn (ok__law_command T) (hr.mono (by decide)) (g__law_command T) (pa_cons (pv 2) pa_nil)))) pa_nil))))), ?_⟩)
  · obtain ⟨G, R, gh, ⟨v, u, sz, cs, rfl, _⟩, _⟩ := h
    rfl
  · obtain ⟨G, R, gh, ⟨v, u, sz, cs, rfl, hv, ok, hu, hl, okc, rfl⟩, q⟩ := h
    refine st_ret (ev_make (ea_cons (ev_memL (K := K) (ev_var (i := 0) rfl hv) ok) (ea_cons (ev_lcM (j := 2) (vs := [2]) cs rLCmd (rCmd K) (ei_list (ev_var (i := 1) rfl hu)) (by omega) (fun _ => rfl) fun c hc x G1 e r => ev_call (ea_cons (ev_var (i := 2) rfl r) ea_nil) fun vs G2 e2 rs => ?_) ea_nil)) fun vs G2 e rs => ?_) (At.no gh) q
    · obtain ⟨_, rfl, r1⟩ := all1 rs
      exact ⟨_, c, rfl, r1, rfl⟩
    · obtain ⟨_, _, rfl, r1, r2⟩ := all2 rs
      exact ⟨_, _, sz, cs, rfl, r1, .inr r2, ⟨ok.mem, hl, okc⟩, rfl⟩
def sp__law_is (K : PySem.W.Frag) : Sp := Prom fun vs G R => ∃ (v : V) (cs : List Cond), vs = [v] ∧ (rLst (cs.map rLCond)).p v G ∧ cs.length ≤ 1000 ∧ (∀ c ∈ cs, c.ns.length < 60) ∧ R = rLst (cs.map (rCond K))
theorem sc__law_is : FnScope ["_law_conditions", "_law_line", "_law_word", "_law_numbers"] ["_law_conditions"] (defScope s__law_is) := ⟨rfl, rfl, rfl, by decide +kernel, rfl, by decide +kernel, by decide +kernel⟩
/- _law_conditions=0 _law_line=1 _law_word=2 _law_numbers=3; cells none; level 3 -/
theorem ok__law_is (T : Tx K mg) : Dk P w K mg base (He.ga K "_law_is") 3 ["_law_conditions"] (sp__law_is K) := by
  refine dk_of (d__law_is_at T) sc__law_is (fun _ _ _ _ _ _ us hl => match us, hl with | [_], _ => rfl) (fun vs H Q E h => ?_) (fun cdv A outer s H vs Q E hr h => ⟨_, (pss_one (ps_ret (pe_lc (own := [("_law_line", 1), ("_law_word", 2), ("_law_numbers", 3)]) (g := gTup K 3 (gCons (gName 1) (gCons (gName 2) (gCons (gName 3) gNil)))) (tt := tYes) rfl sc__law_is.nd (pi_list (pv 0)) (blkOk_by (by kernel_rfl)) (fun _ _ _ _ _ => (pg_tup rfl (pgs_cons (pg_name (i := 1) sc__law_is.nd rfl (.inl rfl)) (pgs_cons (pg_name (i := 2) sc__law_is.nd rfl (.inl rfl)) (pgs_cons (pg_name (i := 3) sc__law_is.nd rfl (.inl rfl)) pgs_nil))))) (fun _ _ _ _ _ => pts_nil) (fun _ _ _ _ _ => (pe_mk (mk_Is T) (ok_Is_init T) (hr.mono (by decide)) (g_Is T) (pa_cons (pv 1) (pa_cons (pv 2) (pa_cons (pv 3) pa_nil)))))))), ?_⟩)
  · obtain ⟨G, R, gh, ⟨v, cs, rfl, _⟩, _⟩ := h
    rfl
  · obtain ⟨G, R, gh, ⟨v, cs, rfl, hv, hl, hn, rfl⟩, q⟩ := h
    refine st_ret (ev_lc3 (K := K) (F := Fm.no) (j := 1) (l := 2) (m := 3) (vs := [1, 2, 3]) (σ := [some v, none, none, none]) cs (fun c => isN c.l) (fun c => isN c.w) (fun c => rLst (c.ns.map isI)) (rCond K) (ei_list (ev_var (i := 0) rfl hv)) (by omega) (fun _ _ _ => rfl) fun c hc x y z G1 e rx ry rz => ev_make (ea_cons (ev_var (R := isN c.l) (i := 1) rfl rx) (ea_cons (ev_var (R := isN c.w) (i := 2) rfl ry) (ea_cons (ev_var (i := 3) rfl rz) ea_nil))) fun vs G2 e2 rs => ?_) (At.no gh) q
    obtain ⟨_, _, _, rfl, rfl, rfl, r3⟩ := all3 rs
    exact ⟨c.l, c.w, _, c.ns, rfl, r3, hn c hc, rfl⟩
def sp__law_recovery (K : PySem.W.Frag) : Sp := Prom fun vs G R => ∃ (v u : V) (sz : List Nat) (r : List Stp), vs = [v, u] ∧ (rLst (sz.map isN)).p v G ∧ okSz sz ∧ (rLst (r.map rLStp)).p u G ∧ okLRec sz r ∧ R = rRec K sz r
theorem mov_le {r : List Stp} {p : Stp} (h : p ∈ r) : p.2.length ≤ movesOf r := by
  induction r with
  | nil => cases h
  | cons a r ih =>
    unfold movesOf at ih ⊢
    rw [List.map_cons, List.sum_cons]
    rcases List.mem_cons.mp h with z | z
    · rw [z]
      omega
    · have := ih z
      omega
theorem okLRec.rec {sz : List Nat} {r : List Stp} (h : okLRec sz r) (ok : okSz sz) : okRec sz r := ⟨ok.mem, by have := h.1; omega, fun p hp => ⟨fun c hc => ((h.2.1 p hp).2.1 c hc).1, (h.2.1 p hp).2.2, by have := (h.2.1 p hp).1; omega, by have := mov_le hp; have := h.2.2; omega⟩⟩
theorem sc__law_recovery : FnScope ["_law_sizes", "_law_steps", "_law_made_here", "_law_conditions", "_law_moves", "_law_some", "_law_move"] ["_law_sizes", "_law_steps"] (defScope s__law_recovery) := ⟨rfl, rfl, rfl, by decide +kernel, rfl, by decide +kernel, by decide +kernel⟩
/- _law_sizes=0 _law_steps=1 _law_made_here=2 _law_conditions=3 _law_moves=4 _law_some=5 _law_move=6; cells none; level 6 -/
theorem ok__law_recovery (T : Tx K mg) : Dk P w K mg base (He.ga K "_law_recovery") 6 ["_law_sizes", "_law_steps"] (sp__law_recovery K) := by
  refine dk_of (d__law_recovery_at T) sc__law_recovery (fun _ _ _ _ _ _ us hl => match us, hl with | [_, _], _ => rfl) (fun vs H Q E h => ?_) (fun cdv A outer s H vs Q E hr h => ⟨_, (pss_cons (ps_set (i := 2) sc__law_recovery.nd rfl (.inl rfl) (pe_lst pa_nil))
      (pss_cons (ps_for PassesOwn.never rfl (pi_list (pv 1)) (pg_tup rfl (pgs_cons (pg_name (i := 3) sc__law_recovery.nd rfl (.inl rfl)) (pgs_cons (pg_name (i := 4) sc__law_recovery.nd rfl (.inl rfl)) pgs_nil))) (pss_cons (ps_set (i := 5) sc__law_recovery.nd rfl (.inl rfl) (pe_lst pa_nil))
      (pss_cons (ps_for PassesOwn.never rfl (pi_list (pv 4)) (pg_name (i := 6) sc__law_recovery.nd rfl (.inl rfl)) (pss_one (ps_expr (pe_bm PySem.F.plainAttrs_list PySem.F.slot_list_append PySem.F.type_list_append mt_append (pv 5) (pa_cons (pe_ifExp (pt_cmpR op_eq (pe_ix ix_tup (pv 6) pe_int (fun _ _ => rfl)) pe_str (nomark _)) (pe_mk (mk_Copy T) (ok_Copy_init T) (hr.mono (by decide)) (g_Copy T) (pa_cons (pe_ix ix_tup (pv 6) pe_int (fun _ _ => rfl)) (pa_cons (pe_ix ix_tup (pv 6) pe_int (fun _ _ => rfl)) (pa_cons (pe_ix ix_tup (pv 6) pe_int (fun _ _ => rfl)) (pa_cons (pe_ix ix_tup (pv 6) pe_int (fun _ _ => rfl)) pa_nil))))) (pe_fn (ok__law_command T) (hr.mono (by decide)) (g__law_command T) (pa_cons (pv 6) pa_nil))) pa_nil)))))
      (pss_one (ps_expr (pe_bm PySem.F.plainAttrs_list PySem.F.slot_list_append PySem.F.type_list_append mt_append (pv 2) (pa_cons (pe_mk (mk_Step T) (ok_Step_init T) (hr.mono (by decide)) (g_Step T) (pa_cons (pe_fn (ok__law_is T) (hr.mono (by decide)) (g__law_is T) (pa_cons (pv 3) pa_nil)) (pa_cons (pv 5) pa_nil))) pa_nil)))))))
      (pss_one (ps_ret (pe_mk (mk_Recovery T) (ok_Recovery_init T) (hr.mono (by decide)) (g_Recovery T) (pa_cons (pe_mk (mk_Memory T) (ok_Memory_init T) (hr.mono (by decide)) (g_Memory T) (pa_cons (pv 0) pa_nil)) (pa_cons (pv 2) pa_nil))))))), ?_⟩)
  · obtain ⟨G, R, gh, ⟨v, u, sz, r, rfl, _⟩, _⟩ := h
    rfl
  · obtain ⟨G, R, gh, ⟨v, u, sz, r, rfl, hv, ok, hu, okr, rfl⟩, q⟩ := h
    have orr := okr.rec ok
    refine st_newA (F := Fm.no) (Gr.refl (At.no gh)) fun L G1 H1 g1 g1' acc1 => ?_
    refine st_forB (K := K) g1 (ei_list (ev_var (i := 1) (R := rLst (r.map rLStp)) rfl ((rLst _).mo _ _ _ g1.gg hu))) (fun i σ G' H' => ∃ x3 x4 x5 x6, σ = [some v, some u, some (.ref L), x3, x4, x5, x6] ∧ Acc Fm.no L ((r.take i).map (rStp K)) H G' H') (fun G' H' g => ⟨_, _, _, _, rfl, acc1.gr g⟩) (fun i σ G' H' G1 H1 ⟨x3, x4, x5, x6, e, a⟩ at2 g => ⟨x3, x4, x5, x6, e, a.gr g⟩) ?_ ?_
    · rintro i Y y σ' G3 H3 N hN hY g3 e3 hy ⟨x3, x4, x5, x6, rfl, acc⟩
      obtain ⟨p, hi, hp, rfl⟩ := get_map hY
      obtain ⟨ol1, ol2, ol3⟩ := okr.2.1 p hp
      have hmv := mov_le hp
      have hm8 := okr.2.2
      have hpl : p.2.length ≤ 8 := by omega
      refine g_two hy g3.gh fun vc vm hc hm => ?_
      refine st_newA2 (F := Fm.no) g3 fun L2 G4 H4 g4 g4' acc4 nL2 => ?_
      have hm4 := (rLst (p.2.map rLMv)).mo _ _ _ g4'.gg hm
      have accO := acc.gr g4'
      have nLL : L ≠ L2 := acc.ne nL2
      refine st_forB (K := K) g4 (ei_list (ev_var (i := 4) (R := rLst (p.2.map rLMv)) rfl hm4)) (fun j σ G' H' => ∃ x6, σ = [some v, some u, some (.ref L), some vc, some vm, some (.ref L2), x6] ∧ Acc Fm.no L2 ((p.2.take j).map (rMv K)) H G' H' ∧ Acc Fm.no L ((r.take i).map (rStp K)) H G' H') (fun G' H' g => ⟨_, rfl, acc4.gr g, accO.gr g⟩) (fun i σ G' H' G1 H1 ⟨x6, e, a, a2⟩ at2 g => ⟨x6, e, a.gr g, a2.gr g⟩) ?_ ?_
      · rintro j Z z σ' G5 H5 M hM hZ g5 e5 hz ⟨y6, rfl, acc5, accO5⟩
        obtain ⟨mv, hj, hmv, rfl⟩ := get_map hZ
        have ej : p.2.take (j + 1) = p.2.take j ++ [mv] := by
          rw [List.take_add_one, hj]
          rfl
        have hjl := (List.getElem?_eq_some_iff.mp hj).1
        have hev : Ev Fm.no (tIf (tTest (tOp rEq (tOp (rIxT K) (tVar 6) (tC (.int (0 : Nat)))) (tC (.str "copy")))) (tMake (He.ga K "Copy") (sp_Copy_init K) [] E0 (tCons (tOp (rIxT K) (tVar 6) (tC (.int (1 : Nat)))) (tCons (tOp (rIxT K) (tVar 6) (tC (.int (2 : Nat)))) (tCons (tOp (rIxT K) (tVar 6) (tC (.int (3 : Nat)))) (tCons (tOp (rIxT K) (tVar 6) (tC (.int (4 : Nat)))) tNil))))) (tCall (sp__law_command K) [] E0 (tCons (tVar 6) tNil))) [some v, some u, some (.ref L), some vc, some vm, some (.ref L2), some z] G5 (rMv K mv) := by
          cases mv with
          | store s =>
            refine ev_if (B := (· = false)) (et_str (x := "store") (ev_ixT (ev_var (i := 6) (R := rLCmd (.store s)) rfl hz) ev_c rfl) (by decide)) (fun z => nomatch z) fun _ => ev_call (R := rCmd K (.store s)) (ea_cons (ev_var (i := 6) (R := rLCmd (.store s)) rfl hz) ea_nil) fun vs G2 e rs => ?_
            obtain ⟨_, rfl, r1⟩ := all1 rs
            exact ⟨_, .store s, rfl, r1, rfl⟩
          | copy l x fl fw =>
            have hx : ∀ {i : Nat} {R : Rp}, [isV (.str "copy"), isN l, isN x, isN fl, isN fw][i]? = some R → Ev Fm.no (tOp (rIxT K) (tVar 6) (tC (.int i))) [some v, some u, some (.ref L), some vc, some vm, some (.ref L2), some z] G5 R := fun hi => ev_ixT (ev_var (i := 6) rfl hz) ev_c hi
            refine ev_if (B := (· = true)) (et_str (hx (i := 0) rfl) (by decide)) (fun _ => ev_make (ea_cons (hx (i := 1) rfl) (ea_cons (hx (i := 2) rfl) (ea_cons (hx (i := 3) rfl) (ea_cons (hx (i := 4) rfl) ea_nil)))) fun vs G2 e rs => ?_) fun z => nomatch z
            obtain ⟨_, _, _, _, rfl, rfl, rfl, rfl, rfl⟩ := all4 rs
            exact ⟨l, x, fl, fw, rfl, rfl⟩
        refine st_appA2 (i := 5) rfl acc5 accO5 nLL g5 hev (by rw [List.length_map, List.length_take]; omega) fun G6 H6 g6 e6 a6 aO6 => hM _ _ _ e6 g6 ⟨_, rfl, ?_, aO6⟩
        rw [ej, List.map_append]
        exact a6
      · rintro σ5 G5 H5 g5 e5 ⟨y6, rfl, acc5, accO5⟩
        rw [List.length_map, List.take_length] at acc5
        obtain ⟨us, h1, h2⟩ := acc5.at_
        have g6 := g5.fix acc5.n0 acc5.g acc5.nS h1
        have acc6 := accO5.fx (o := .lst us) acc5.g nLL
        have rsome : (rLst (p.2.map (rMv K))).p (.ref L2) (upd G5 L2 (.lst us)) := ⟨L2, us, rfl, upd_same, h2.mo (Ex.new acc5.g)⟩
        have ex6 : Ex G5 (upd G5 L2 (.lst us)) := Ex.new acc5.g
        refine st_appA (i := 2) (R := rStp K p) rfl acc6 g6 (ev_make (ea_cons (ev_call (R := rLst (p.1.map (rCond K))) (ea_cons (ev_var (i := 3) rfl ((rLst (p.1.map rLCond)).mo _ _ _ ((g4'.gg.trans e5).trans ex6) hc)) ea_nil) fun vs G7 e rs => ?_) (ea_cons (ev_var (i := 5) rfl rsome) ea_nil)) fun vs G7 e rs => ?_) (by rw [List.length_map, List.length_take]; have := okr.1; omega) fun G7 H7 g7 e7 acc7 => hN _ _ _ (((g4'.gg.trans e5).trans ex6).trans e7) g7 ⟨_, _, _, _, rfl, ?_⟩
        · obtain ⟨_, rfl, r1⟩ := all1 rs
          exact ⟨_, p.1, rfl, r1, by omega, fun c hc => (ol2 c hc).2, rfl⟩
        · obtain ⟨_, _, rfl, r1, r2⟩ := all2 rs
          exact ⟨_, _, p.1, p.2, rfl, .inr r1, .inr r2, rfl⟩
        · rw [List.take_add_one, hi, List.map_append]
          exact acc7
    · rintro σ' G3 H3 g3 e3 ⟨x3, x4, x5, x6, rfl, acc⟩
      rw [List.length_map, List.take_length] at acc
      obtain ⟨G4, g4, r4⟩ := acc.fin g3
      refine st_ret (ev_make (ea_cons (ev_memL (K := K) (ev_var (i := 0) rfl ((rLst _).mo _ _ _ g4.gg hv)) ok) (ea_cons (ev_var (i := 2) rfl r4) ea_nil)) fun vs G5 e rs => ?_) g4.at_ fun v5 G5 H5 g5 rv => q _ _ _ (g4.trans g5) rv
      obtain ⟨_, _, rfl, r1, r2⟩ := all2 rs
      exact ⟨_, _, sz, r, rfl, r1, .inr r2, orr, okr.2.2, rfl⟩
end
end Ls


/-! LsW24 -/
namespace Ls
open PySem PySem.Spec PyProof.Rows L2
/-- words, of lists or of tuples -/
def rWx (x : Words) : Rp := rSeq (x.map fun l : List Int => rSeq (l.map isI))
theorem wx_words {x : Words} {v : V} {G : Hp} (h : (rWords x).p v G) : (rWx x).p v G := by
  obtain ⟨a, vs, hv, ha, hs⟩ := h
  exact .inl ⟨a, vs, hv, ha, all_map hs fun l v r => .inl r⟩
theorem wx_now {x : Words} {v : V} {G : Hp} (h : (rNow x).p v G) : (rWx x).p v G := by
  obtain ⟨a, vs, hv, ha, hs⟩ := h
  exact .inr ⟨a, vs, hv, ha, all_map hs fun l v r => .inr r⟩
def eCond (c : Cond) : PyData := .tuple [.int (c.l : Nat), .int (c.w : Nat), .list (c.ns.map .int)]
theorem dat_cond {K : PySem.W.Frag} (c : Cond) : Dat K (rLCond c) (eCond c) := dat_tup (.cons dat_nat (.cons dat_nat (.cons (dat_lst (dat_map (fun _ => dat_int) _)) .nil)))
theorem sh_cond (c : Cond) : Sh 2 (eCond c) := sh_tup fun d hd => by
  simp only [List.mem_cons, List.not_mem_nil, or_false] at hd
  rcases hd with rfl | rfl | rfl
  · exact sh_int
  · exact sh_int
  · exact sh_map (n := 0) (fun _ => sh_int) _
theorem eqv_nil (ds : List PyData) : PyData.eqv (.list ds) (.list []) = decide (ds = []) := by
  cases ds with
  | nil => simp [PyData.eqv, PyData.eqvAll]
  | cons d ds => simp [PyData.eqv, PyData.eqvAll]
def lwStep (i : Img) (s : Words × List Nat) (t : Sto) : Words × List Nat :=
  if (s.2.set t.l (s.2.getD t.l 0 + 1)).getD t.l 0 ≤ i.getD t.l 0 then (putW s.1 t, s.2.set t.l (s.2.getD t.l 0 + 1)) else (s.1, s.2.set t.l (s.2.getD t.l 0 + 1))
def lawWords (n : Nat) (ss : List Sto) (i : Img) (x : Words) : Words := (ss.foldl (lwStep i) (x, zeros n)).1
theorem lwStep_ok {sz : List Nat} {i : Img} {s : Words × List Nat} {t : Sto} (h1 : shp sz s.1) (h2 : s.2.length = sz.length) : shp sz (lwStep i s t).1 ∧ (lwStep i s t).2.length = sz.length := by
  unfold lwStep
  split
  · exact ⟨putW_shp h1 t, by rw [List.length_set]; exact h2⟩
  · exact ⟨h1, by rw [List.length_set]; exact h2⟩
theorem st_parQ {ta tb : TE} {i j : Nat} {D : Ends} {σ : L2.St} {H : Hp} (h : ta σ H fun x H1 => tb σ H1 fun y H2 => ∃ v w, [x, y] = [v, w] ∧ D.nx ((σ.set i (some v)).set j (some w)) H2) : tPar i j (tCons ta (tCons tb tNil)) D σ H := h
section
variable {F : Fm} {σ : L2.St} {G : Hp} {ta tb : TE} {K : PySem.W.Frag}
theorem ev_notInL {i : Int} {ns : List Int} (ha : Ev F ta σ G (isI i)) (hb : Ev F tb σ G (rLst (ns.map isI))) : Ev F (tOp (rIn K true) ta tb) σ G (isB (!decide (i ∈ ns))) :=
  ev_opv ha hb fun x y G1 H1 _ eh hx ⟨p, vs, hy, hp, hs⟩ Q q => by
    obtain ⟨_, rfl⟩ := all_ints hs G1
    refine ⟨p, _, hy, .inl (sq_of (eh _ _ hp)), by rw [(hx : x = .int i)]; rfl, flat_ints ns, q _ ?_⟩
    show (V.bl (!inV x _)) = _
    rw [(hx : x = .int i), inV_int]
end
section
variable {P : Program} {w : World} {K : PySem.W.Frag} {mg : Str → Option Value} {base : Heap}
def sp__law_meets (K : PySem.W.Frag) : Sp := Prom fun vs G R => ∃ (v u : V) (sz : List Nat) (x : Words) (cs : List Cond), vs = [v, u] ∧ (rWx x).p v G ∧ shp sz x ∧ (rLst (cs.map rLCond)).p u G ∧ (∀ c ∈ cs, okCond sz c) ∧ cs.length ≤ 1000 ∧ R = isB (cs.all fun c => c.metW x)
theorem sc__law_meets : FnScope ["_law_words_here", "_law_conditions", "_law_one"] ["_law_words_here", "_law_conditions"] (defScope s__law_meets) := ⟨rfl, rfl, rfl, by decide +kernel, rfl, by decide +kernel, by decide +kernel⟩
/- _law_words_here=0 _law_conditions=1 _law_one=2; cells _law_words_here; level 1 -/
theorem ok__law_meets (T : Tx K mg) : Dk P w K mg base (He.ga K "_law_meets") 1 ["_law_words_here", "_law_conditions"] (sp__law_meets K) := by
  refine dk_of (d__law_meets_at T) sc__law_meets (fun _ _ _ _ _ _ us hl => match us, hl with | [_, _], _ => rfl) (fun vs H Q E h => ?_) (fun cdv A outer s H vs Q E hr h => ⟨_, (pss_one (ps_ret (pe_cmpR (op_eqD hr.units) (pe_lc (own := [("_law_one", 2)]) (g := gName 2) rfl sc__law_meets.nd (pi_list (pv 1)) (blkOk_by (by kernel_rfl)) (fun _ _ _ _ _ => (pg_name (i := 2) sc__law_meets.nd rfl (.inl rfl))) (fun _ _ _ _ _ => (pts_one (pt_cmpR (k_op_notIn_seq (K := K) rfl) (pe_ix (k_ix_seq (K := K) rfl) (pe_ix (k_ix_seq (K := K) rfl) (pv 0) (pe_ix (k_ix_tup (K := K) rfl) (pv 2) pe_int (fun _ _ => rfl)) (fun _ _ => rfl)) (pe_ix (k_ix_tup (K := K) rfl) (pv 2) pe_int (fun _ _ => rfl)) (fun _ _ => rfl)) (pe_ix (k_ix_tup (K := K) rfl) (pv 2) pe_int (fun _ _ => rfl)) (by rfl)))) (fun _ _ _ _ _ => (pv 2))) (pe_lst pa_nil) (nomark _)))), ?_⟩)
  · obtain ⟨G, R, gh, ⟨v, u, sz, x, cs, rfl, _⟩, _⟩ := h
    rfl
  · obtain ⟨G, R, gh, ⟨v, u, sz, x, cs, rfl, hv, hx, hu, ok, hl, rfl⟩, q⟩ := h
    refine st_ret (ev_to (ev_eqD (K := K) (d := .list ((cs.filter fun c => !c.metW x).map eCond)) (e := .list []) (ev_lcF (F := Fm.no) (j := 2) (vs := [2]) (σ := [some v, some u, none]) cs rLCond rLCond (fun c => !c.metW x) (ei_list (ev_var (i := 1) rfl hu)) (by omega) (fun _ => rfl) (fun c hc y G1 e r => ?_) fun c hc y G1 e r _ => ev_var (i := 2) rfl r) (ev_lst ea_nil (by simp)) (dat_lst (dat_map dat_cond _)) (dat_lst .nil) (sh_map sh_cond _) (sh_lst (n := 2) fun d hd => nomatch hd)) ?_) (At.no gh) q
    · obtain ⟨line, h1, h2, h3⟩ := at2_get hx (ok c hc)
      have hc3 : ∀ {i : Nat} {R : Rp}, [isN c.l, isN c.w, rLst (c.ns.map isI)][i]? = some R → Ev Fm.no (tOp (rIxT K) (tVar 2) (tC (.int i))) ((wipe [some v, some u, none] [2]).set 2 (some y)) G1 R := fun hi => ev_ixT (ev_var (i := 2) rfl r) ev_c hi
      refine (et_test (ev_notInL (K := K) (ev_ixS (Rs := line.map isI) (R := isI (at2 x c.l c.w)) (ev_ixS (Rs := x.map fun l : List Int => rSeq (l.map isI)) (R := rSeq (line.map isI)) (ev_var (i := 0) rfl ((rWx x).mo _ _ _ e hv)) (hc3 (i := 0) rfl) (by rw [List.getElem?_map, h1]; rfl)) (hc3 (i := 1) rfl) (by rw [List.getElem?_map, h3]; rfl)) (hc3 (i := 2) rfl))).to ?_
      unfold Cond.metW Cond.met at2
      rfl
    · rw [eqv_nil]
      congr 1
      rw [Bool.eq_iff_iff, decide_eq_true_iff, List.map_eq_nil_iff, List.filter_eq_nil_iff, List.all_eq_true]
      exact ⟨fun h c hc => by simpa using h c hc, fun h c hc => by simpa using h c hc⟩
def sp__law_words (K : PySem.W.Frag) : Sp := Prom fun vs G R => ∃ (v1 v2 v3 v4 : V) (sz : List Nat) (ss : List Sto) (im : Img) (x : Words), vs = [v1, v2, v3, v4] ∧ (rLst (sz.map isN)).p v1 G ∧ okSz sz ∧ (rLst (ss.map fun s => rLCmd (.store s))).p v2 G ∧ ss.length ≤ 1000 ∧ (∀ s ∈ ss, okSto sz s) ∧ (rImg im).p v3 G ∧ im.length = sz.length ∧ (rWords x).p v4 G ∧ shp sz x ∧ R = rWords (lawWords sz.length ss im x)
theorem sc__law_words : FnScope ["_law_sizes", "_law_commands", "_law_image", "_law_begun", "_law_words_here", "_law_seen", "_law_command_here", "_law_line", "_law_written_line"] ["_law_sizes", "_law_commands", "_law_image", "_law_begun"] (defScope s__law_words) := ⟨rfl, rfl, rfl, by decide +kernel, rfl, by decide +kernel, by decide +kernel⟩
/- _law_sizes=0 _law_commands=1 _law_image=2 _law_begun=3 _law_words_here=4 _law_seen=5 _law_command_here=6 _law_line=7 _law_written_line=8; cells none; level 1 -/
theorem ok__law_words (T : Tx K mg) : Dk P w K mg base (He.ga K "_law_words") 1 ["_law_sizes", "_law_commands", "_law_image", "_law_begun"] (sp__law_words K) := by
  refine dk_of (d__law_words_at T) sc__law_words (fun _ _ _ _ _ _ us hl => match us, hl with | [_, _, _, _], _ => rfl) (fun vs H Q E h => ?_) (fun cdv A outer s H vs Q E hr h => ⟨_, (pss_cons (ps_par (i := 4) (j := 5) (by rfl) sc__law_words.nd rfl rfl (by decide) rfl rfl (pa_cons (pe_lc (own := [("_law_line", 7)]) (g := gName 7) (tt := tYes) rfl sc__law_words.nd (pi_tup (pv 3)) (blkOk_by (by kernel_rfl)) (fun _ _ _ _ _ => (pg_name (i := 7) sc__law_words.nd rfl (.inl rfl))) (fun _ _ _ _ _ => pts_nil) (fun _ _ _ _ _ => (pe_callTy (k_call_list_of (K := K) rfl) (by rfl) (f_list T) bt_list (pa_cons (pv 7) pa_nil)))) (pa_cons (pe_op op_rep (pe_lst (pa_cons pe_int pa_nil)) (pe_callB call_len_seq (by rfl) (f_len T) bt_len (pa_cons (pv 0) pa_nil))) pa_nil)) (by rfl))
      (pss_cons (ps_for PassesOwn.never rfl (pi_list (pv 1)) (pg_name (i := 6) sc__law_words.nd rfl (.inl rfl)) (pss_one (ps_if (pt_cmpR op_eq (pe_ix ix_tup (pv 6) pe_int (fun _ _ => rfl)) pe_str (nomark _)) (pss_cons (ps_set (i := 7) sc__law_words.nd rfl (.inl rfl) (pe_ix ix_tup (pv 6) pe_int (fun _ _ => rfl)))
      (pss_cons (ps_asg (pe_op op_add (pe_ix ix_list (pv 5) (pv 7) (fun _ _ => rfl)) pe_int) (pg_sub (pv 5) (pv 7) set_list))
      (pss_one (ps_if (pt_cmpR op_le (pe_ix ix_list (pv 5) (pv 7) (fun _ _ => rfl)) (pe_ix ix_tup (pv 2) (pv 7) (fun _ _ => rfl)) (nomark _)) (pss_cons (ps_set (i := 8) sc__law_words.nd rfl (.inl rfl) (pe_ix ix_list (pv 4) (pv 7) (fun _ _ => rfl)))
      (pss_one (ps_asg (pe_ix ix_tup (pv 6) pe_int (fun _ _ => rfl)) (pg_sub (pv 8) (pe_ix ix_tup (pv 6) pe_int (fun _ _ => rfl)) set_list)))) pss_nil)))) pss_nil)))
      (pss_one (ps_ret (pe_callTy call_tuple_of (by rfl) (f_tuple T) bt_tuple (pa_cons (pe_lc (own := [("_law_line", 7)]) (g := gName 7) (tt := tYes) rfl sc__law_words.nd (pi_list (pv 4)) (blkOk_by (by kernel_rfl)) (fun _ _ _ _ _ => (pg_name (i := 7) sc__law_words.nd rfl (.inl rfl))) (fun _ _ _ _ _ => pts_nil) (fun _ _ _ _ _ => (pe_callTy (k_call_tuple_of (K := K) rfl) (by rfl) (f_tuple T) bt_tuple (pa_cons (pv 7) pa_nil)))) pa_nil)))))), ?_⟩)
  · obtain ⟨G, R, gh, ⟨v1, v2, v3, v4, sz, ss, im, x, rfl, _⟩, _⟩ := h
    rfl
  · obtain ⟨G, R, gh, ⟨v1, v2, v3, v4, sz, ss, im, x, rfl, h1, ok, h2, hl, okss, h3, hil, h4, hx, rfl⟩, q⟩ := h
    have okl2 := ok.2.1
    have hxl : x.length = sz.length := by rw [← hx, List.length_map]
    have hI0 : EvI Fm.no (iTup K (tVar 3)) (start ["_law_sizes", "_law_commands", "_law_image", "_law_begun", "_law_words_here", "_law_seen", "_law_command_here", "_law_line", "_law_written_line"] [v1, v2, v3, v4]) G (x.map fun l => rTup (l.map isI)) := ei_tup (ev_var rfl h4)
    refine st_parQ (lc_lists (j := 7) (vs := [7]) hI0 (by omega) (fun _ => rfl) (fun _ => rfl) (At.no gh) fun p as H1 g1 na hn => ?_)
    refine rep_new (k := sz.length) g1.at_ (ev_lenSz (i := 0) rfl h1) (by omega) fun S H2 g2 nS1 gS _ eS => ?_
    refine ⟨.ref p, .ref S, rfl, ?_⟩
    have g02 := g1.trans g2
    have nS : H S = none := g1.none nS1
    have hSP : ¬ NP p as S := fun z => by
      obtain ⟨o, e⟩ := na.there S z
      rw [nS1] at e
      cases e
    have eS0 : H2 S = some (cV (zeros sz.length)) := by
      rw [eS]
      unfold zeros
      show _ = some (HO.lst ((List.replicate sz.length 0).map _))
      rw [List.map_replicate]
      rfl
    have now0 : NowL p as x H G H1 := ⟨na, fun b hb => (hn b hb).1, fun b hb => (hn b hb).2⟩
    refine st_forB (K := K) g02 (ei_list (ev_var (i := 1) (R := rLst (ss.map fun s => rLCmd (.store s))) rfl h2)) (fun i σ G' H' => ∃ x6 x7 x8, σ = [some v1, some v2, some v3, some v4, some (.ref p), some (.ref S), x6, x7, x8] ∧ NowL p as ((ss.take i).foldl (lwStep im) (x, zeros sz.length)).1 H G' H' ∧ H' S = some (cV ((ss.take i).foldl (lwStep im) (x, zeros sz.length)).2) ∧ G' S = none ∧ shp sz ((ss.take i).foldl (lwStep im) (x, zeros sz.length)).1 ∧ ((ss.take i).foldl (lwStep im) (x, zeros sz.length)).2.length = sz.length)
      (fun G' H' g => ⟨_, _, _, rfl, (now0.mo g2).mo g, g.ex _ _ eS0, g.fr S (by rw [eS0]; exact Option.some_ne_none _) gS, hx, List.length_replicate⟩) (fun i σ G' H' G1 H1 ⟨x6, x7, x8, e, n, s1, s2, s3⟩ _ g => ⟨x6, x7, x8, e, n.mo g, g.ex _ _ s1, g.fr S (by rw [s1]; exact Option.some_ne_none _) s2, s3⟩) ?_ ?_
    · rintro i Y y σ' G3 H3 N hN hY g3 e3 hy ⟨x6, x7, x8, rfl, now, eS3, gS3, hs1, hs2⟩
      obtain ⟨t, hi, ht, rfl⟩ := get_map hY
      have es := fold_take hi (f := lwStep im) (a := ((x, zeros sz.length) : Words × List Nat))
      generalize (ss.take i).foldl (lwStep im) (x, zeros sz.length) = s at now eS3 hs1 hs2 es
      have okt := okss t ht
      obtain ⟨line, k1, k2, _⟩ := at2_get hs1 okt
      have htl : t.l < sz.length := by
        have := (List.getElem?_eq_some_iff.mp k1).1
        have h5 : s.1.length = sz.length := by rw [← hs1, List.length_map]
        omega
      have hcm : ∀ {F : Fm} {σ : L2.St} {G' : Hp} {i : Nat} {R : Rp}, Ex G3 G' → σ[6]? = some (some y) → [isV (.str "store"), isN t.l, isN t.w, isI t.n][i]? = some R → Ev F (tOp (rIxT K) (tVar 6) (tC (.int i))) σ G' R := fun e h6 hi => ev_ixT (ev_var h6 ((rLCmd (.store t)).mo _ _ _ e hy)) ev_c hi
      refine st_if (B := (· = true)) (et_str (x := "store") (hcm (F := Fm.no) (i := 0) (Ex.refl _) rfl rfl) (by decide)) g3.at_ (fun G4 H4 g4 _ => ?_) fun G4 H4 g4 z => nomatch z
      refine st_asg (hcm (F := Fm.no) (i := 1) g4.gg rfl rfl) g4.at_ fun v7 G5 H5 g5 r7 => ?_
      cases r7
      have g45 := g4.trans g5
      have now5 := now.mo g45
      have eS5 := g45.ex _ _ eS3
      have gS5 := g45.fr S (by rw [eS3]; exact Option.some_ne_none _) gS3
      have hold : ∀ {G' H' : Hp}, Ex G' H' → (∀ b, NP p as b → G' b = none) → (∀ b, NP p as b → H' b ≠ none) → G' S = none → H' S ≠ none → At (Fm.hold (fun b => NP p as b ∨ b = S) H') G' H' := fun e a1 a2 a3 a4 => at_hold e (fun b z => z.elim (a1 b) fun z => by rw [z]; exact a3) fun b z => z.elim (a2 b) fun z => by rw [z]; exact a4
      have at5 := hold g5.gh now5.ng now5.loc.h gS5 (by rw [eS5]; exact Option.some_ne_none _)
      refine st_asgG (F := Fm.hold (fun b => NP p as b ∨ b = S) H5) (ev_I0 (g := fun i j => .int (i + j)) (ev_ixF (m := S) (ev_var (i := 5) rfl rfl) (ev_var (R := isN t.l) (i := 7) rfl rfl) (fun H' ii => (ii S (.inr rfl)).trans eS5) (getD_of (by omega))) ev_cI) at5 fun v8 G6 H6 g6 r8 => ?_
      cases r8
      refine g_setL (m := S) (v := .int ((s.2.getD t.l 0 + 1 : Nat) : Int)) g6.at_ (ev_var (i := 5) rfl rfl) (ev_var (R := isN t.l) (i := 7) rfl rfl) (fun H' ii => (ii S (.inr rfl)).trans eS5) (by rw [List.length_map]; omega) fun G7 H7 g7 => ?_
      have g57 := (g6.trans g7).unhold
      have now7 := now5.mo g57
      have gS7 := g57.fr S (by rw [eS5]; exact Option.some_ne_none _) gS5
      have g37 := (g3.trans g45).trans g57
      rw [cV_set]
      have g38 := g37.wrNo (o := cV (s.2.set t.l (s.2.getD t.l 0 + 1))) nS gS7
      have na8 : NowAt p as s.1 (upd H7 S (cV (s.2.set t.l (s.2.getD t.l 0 + 1)))) := now7.at_.same fun b hb => upd_ne fun z => hSP (by rw [← z]; exact hb)
      have now8 : NowL p as s.1 H G7 (upd H7 S (cV (s.2.set t.l (s.2.getD t.l 0 + 1)))) := ⟨na8, now7.n0, now7.ng⟩
      have eS8 : upd H7 S (cV (s.2.set t.l (s.2.getD t.l 0 + 1))) S = some (cV (s.2.set t.l (s.2.getD t.l 0 + 1))) := upd_same
      have at8 := hold g38.gh now8.ng now8.loc.h gS7 (by rw [eS8]; exact Option.some_ne_none _)
      have him : im[t.l]? = some (im.getD t.l 0) := by
        have hlt : t.l < im.length := by omega
        rw [List.getD_eq_getElem?_getD, List.getElem?_eq_getElem hlt]
        rfl
      have e37 : Ex G3 G7 := g45.gg.trans g57.gg
      generalize upd H7 S (cV (s.2.set t.l (s.2.getD t.l 0 + 1))) = H8 at now8 eS8 at8 g38 na8
      refine st_if (B := (· = decide ((s.2.set t.l (s.2.getD t.l 0 + 1)).getD t.l 0 ≤ im.getD t.l 0))) ((et_test (ev_T0 (p := fun i j => decide (i ≤ j)) (ev_ixF (F := Fm.hold (fun b => NP p as b ∨ b = S) H8) (m := S) (ev_var (i := 5) rfl rfl) (ev_var (R := isN t.l) (i := 7) rfl rfl) (fun H' ii => (ii S (.inr rfl)).trans eS8) (getD_of (by rw [List.length_set]; omega))) (ev_ixT (R := isN (im.getD t.l 0)) (ev_var (i := 2) rfl ((rImg im).mo _ _ _ g38.gg h3)) (ev_var (R := isN t.l) (i := 7) rfl rfl) (by rw [List.getElem?_map, him]; rfl)))).to (decide_eq_decide.mpr (by omega))) at8 (fun G9 H9 g9 e9 => ?_) fun G9 H9 g9 e9 => ?_
      · have hle := of_decide_eq_true e9.symm
        have gu9 := g9.unhold
        have now9 := now8.mo gu9
        have eS9 := gu9.ex _ _ eS8
        have gS9 := gu9.fr S (by rw [eS8]; exact Option.some_ne_none _) gS7
        obtain ⟨al, hal, eal⟩ := pget1 now9.at_.hl k1
        have mal : NP p as al := .inr (List.mem_of_getElem? hal)
        have at9 := hold g9.gh now9.ng now9.loc.h gS9 (by rw [eS9]; exact Option.some_ne_none _)
        refine st_asg (F := Fm.hold (fun b => NP p as b ∨ b = S) H9) (ev_ixF (m := p) (v := .ref al) (ev_var (i := 4) rfl rfl) (ev_var (R := isN t.l) (i := 7) rfl rfl) (fun H' ii => (ii p (.inl (.inl rfl))).trans now9.at_.hp) (by rw [List.getElem?_map, hal]; rfl)) at9 fun v10 G10 H10 g10 r10 => ?_
        cases r10
        have eAl : ∀ H', (Fm.hold (fun b => NP p as b ∨ b = S) H9).I H' → H' al = some (.lst (line.map V.int)) := fun H' ii => (ii al (.inl mal)).trans eal
        have e310 : Ex G3 G10 := (e37.trans g9.gg).trans g10.gg
        refine st_asgG (F := Fm.hold (fun b => NP p as b ∨ b = S) H9) (hcm (i := 3) e310 rfl rfl) g10.at_ fun v11 G11 H11 g11 r11 => ?_
        cases r11
        refine g_setL (m := al) g11.at_ (ev_var (i := 8) rfl rfl) (hcm (i := 2) (e310.trans g11.gg) rfl rfl) eAl (by rw [List.length_map]; exact k2) fun G12 H12 g12 => ?_
        have g912 := ((g10.trans g11).trans g12).unhold
        have now12 := now9.mo g912
        have Sal : S ≠ al := fun z => hSP (by rw [z]; exact mal)
        refine hN _ G12 _ ((e310.trans g11.gg).trans g12.gg) (((g38.trans gu9).trans g912).wrNo (now12.n0 al mal) (now12.ng al mal)) ⟨_, _, _, rfl, ?_⟩
        have el : lwStep im s t = (putW s.1 t, s.2.set t.l (s.2.getD t.l 0 + 1)) := by
          unfold lwStep
          rw [if_pos hle]
        rw [es, el]
        exact ⟨⟨now12.at_.put (l := t.l) (w := t.w) (n := t.n) hal k1, now12.n0, now12.ng⟩, (upd_ne Sal).trans (g912.ex _ _ eS9), g912.fr S (by rw [eS9]; exact Option.some_ne_none _) gS9, putW_shp hs1 t, by rw [List.length_set]; exact hs2⟩
      · have hle := of_decide_eq_false e9.symm
        have gu9 := g9.unhold
        refine hN _ G9 H9 (e37.trans g9.gg) (g38.trans gu9) ⟨_, _, _, rfl, ?_⟩
        have el : lwStep im s t = (s.1, s.2.set t.l (s.2.getD t.l 0 + 1)) := by
          unfold lwStep
          rw [if_neg hle]
        rw [es, el]
        exact ⟨now8.mo gu9, gu9.ex _ _ eS8, gu9.fr S (by rw [eS8]; exact Option.some_ne_none _) gS7, hs1, by rw [List.length_set]; exact hs2⟩
    · rintro σ' G3 H3 g3 e3 ⟨x6, x7, x8, rfl, now, eS3, gS3, hs1, hs2⟩
      rw [List.length_map, List.take_length] at now hs1
      have g4 := gr_fixP g3 now.loc now.n0
      have hll : (ss.foldl (lwStep im) (x, zeros sz.length)).1.length = sz.length := by
        have h := congrArg List.length hs1
        rw [List.length_map] at h
        exact h
      exact st_ret (ev_tupleL (ev_lcM (j := 7) (vs := [7]) (ss.foldl (lwStep im) (x, zeros sz.length)).1 (fun l => rLst (l.map isI)) (fun l => rTup (l.map isI)) (ei_list (ev_var (i := 4) rfl (now.at_.rep (G := G3)))) (by omega) (fun _ => rfl) fun l _ y G1 e ry => ev_tupleL (ev_var (i := 7) rfl ry))) g4.at_ fun v6 G6 H6 g6 rv => q _ _ _ (g4.trans g6) rv
end
end Ls


/-! LsW25 -/
namespace Ls
open PySem PySem.Spec PyProof.Rows L2
structure RcvL (p L : Addr) (as : List Addr) (s : List Sto × Words) (us : List V) (H0 G H : Hp) : Prop where
  now : NowL p as s.2 H0 G H
  eL : H L = some (.lst us)
  gL : G L = none
  all : All (s.1.map fun s => rLCmd (.store s)) us G
theorem RcvL.mo {p L : Addr} {as : List Addr} {s : List Sto × Words} {us : List V} {H0 G H G1 H1 : Hp} (h : RcvL p L as s us H0 G H) (g : Gr Fm.no G H G1 H1) : RcvL p L as s us H0 G1 H1 :=
  ⟨h.now.mo g, g.ex _ _ h.eL, g.fr L (by rw [h.eL]; exact Option.some_ne_none _) h.gL, h.all.mo g.gg⟩
section
variable {P : Program} {w : World} {K : PySem.W.Frag} {mg : Str → Option Value} {base : Heap}
def sp__law_done (K : PySem.W.Frag) : Sp := Prom fun vs G R => ∃ (v u : V) (sz : List Nat) (r : List Stp) (x : Words), vs = [v, u] ∧ (rWords x).p v G ∧ shp sz x ∧ okSz sz ∧ (rLst (r.map rLStp)).p u G ∧ okLRec sz r ∧ R = rTup [rLst ((recovered r x).1.map fun s => rLCmd (.store s)), rWords (recovered r x).2]
theorem sc__law_done : FnScope ["_law_words_here", "_law_steps", "_law_now", "_law_done_here", "_law_conditions", "_law_moves", "_law_move", "_law_number", "_law_changed", "_law_line"] ["_law_words_here", "_law_steps"] (defScope s__law_done) := ⟨rfl, rfl, rfl, by decide +kernel, rfl, by decide +kernel, by decide +kernel⟩
/- _law_words_here=0 _law_steps=1 _law_now=2 _law_done_here=3 _law_conditions=4 _law_moves=5 _law_move=6 _law_number=7 _law_changed=8 _law_line=9; cells none; level 2 -/
theorem ok__law_done (T : Tx K mg) : Dk P w K mg base (He.ga K "_law_done") 2 ["_law_words_here", "_law_steps"] (sp__law_done K) := by
  refine dk_of (d__law_done_at T) sc__law_done (fun _ _ _ _ _ _ us hl => match us, hl with | [_, _], _ => rfl) (fun vs H Q E h => ?_) (fun cdv A outer s H vs Q E hr h => ⟨_, (pss_cons (ps_par (i := 2) (j := 3) (by rfl) sc__law_done.nd rfl rfl (by decide) rfl rfl (pa_cons (pe_lc (own := [("_law_line", 9)]) (g := gName 9) (tt := tYes) rfl sc__law_done.nd (pi_tup (pv 0)) (blkOk_by (by kernel_rfl)) (fun _ _ _ _ _ => (pg_name (i := 9) sc__law_done.nd rfl (.inl rfl))) (fun _ _ _ _ _ => pts_nil) (fun _ _ _ _ _ => (pe_callTy (k_call_list_of (K := K) rfl) (by rfl) (f_list T) bt_list (pa_cons (pv 9) pa_nil)))) (pa_cons (pe_lst pa_nil) pa_nil)) (by rfl))
      (pss_cons (ps_for PassesOwn.never rfl (pi_list (pv 1)) (pg_tup rfl (pgs_cons (pg_name (i := 4) sc__law_done.nd rfl (.inl rfl)) (pgs_cons (pg_name (i := 5) sc__law_done.nd rfl (.inl rfl)) pgs_nil))) (pss_one (ps_if (pt_val (pe_fn (ok__law_meets T) (hr.mono (by decide)) (g__law_meets T) (pa_cons (pv 2) (pa_cons (pv 4) pa_nil)))) (pss_one (ps_for PassesOwn.never rfl (pi_list (pv 5)) (pg_name (i := 6) sc__law_done.nd rfl (.inl rfl)) (pss_cons (ps_set (i := 7) sc__law_done.nd rfl (.inl rfl) (pe_ifExp (pt_cmpR op_eq (pe_ix ix_tup (pv 6) pe_int (fun _ _ => rfl)) pe_str (nomark _)) (pe_ix ix_list (pe_ix ix_list (pv 2) (pe_ix ix_tup (pv 6) pe_int (fun _ _ => rfl)) (fun _ _ => rfl)) (pe_ix ix_tup (pv 6) pe_int (fun _ _ => rfl)) (fun _ _ => rfl)) (pe_ix ix_tup (pv 6) pe_int (fun _ _ => rfl))))
      (pss_cons (ps_set (i := 8) sc__law_done.nd rfl (.inl rfl) (pe_ix ix_list (pv 2) (pe_ix ix_tup (pv 6) pe_int (fun _ _ => rfl)) (fun _ _ => rfl)))
      (pss_cons (ps_asg (pv 7) (pg_sub (pv 8) (pe_ix ix_tup (pv 6) pe_int (fun _ _ => rfl)) set_list))
      (pss_one (ps_expr (pe_bm PySem.F.plainAttrs_list PySem.F.slot_list_append PySem.F.type_list_append mt_append (pv 3) (pa_cons (pe_tup (pa_cons pe_str (pa_cons (pe_ix ix_tup (pv 6) pe_int (fun _ _ => rfl)) (pa_cons (pe_ix ix_tup (pv 6) pe_int (fun _ _ => rfl)) (pa_cons (pv 7) pa_nil))))) pa_nil))))))))) pss_nil)))
      (pss_one (ps_ret (pe_tup (pa_cons (pv 3) (pa_cons (pe_callTy call_tuple_of (by rfl) (f_tuple T) bt_tuple (pa_cons (pe_lc (own := [("_law_line", 9)]) (g := gName 9) (tt := tYes) rfl sc__law_done.nd (pi_list (pv 2)) (blkOk_by (by kernel_rfl)) (fun _ _ _ _ _ => (pg_name (i := 9) sc__law_done.nd rfl (.inl rfl))) (fun _ _ _ _ _ => pts_nil) (fun _ _ _ _ _ => (pe_callTy (k_call_tuple_of (K := K) rfl) (by rfl) (f_tuple T) bt_tuple (pa_cons (pv 9) pa_nil)))) pa_nil)) pa_nil))))))), ?_⟩)
  · obtain ⟨G, R, gh, ⟨v, u, sz, r, x, rfl, _⟩, _⟩ := h
    rfl
  · obtain ⟨G, R, gh, ⟨v, u, sz, r, x, rfl, hv, hx, oksz, hu, okl, rfl⟩, q⟩ := h
    have okr := okl.rec oksz
    obtain ⟨okm, orl, ost⟩ := okr
    have okl2 := oksz.2.1
    have hxl : x.length = sz.length := by rw [← hx, List.length_map]
    have hI0 : EvI Fm.no (iTup K (tVar 0)) (start ["_law_words_here", "_law_steps", "_law_now", "_law_done_here", "_law_conditions", "_law_moves", "_law_move", "_law_number", "_law_changed", "_law_line"] [v, u]) G (x.map fun l => rTup (l.map isI)) := ei_tup (ev_var rfl hv)
    refine st_parQ (lc_lists (j := 9) (vs := [9]) hI0 (by omega) (fun _ => rfl) (fun _ => rfl) (At.no gh) fun p as H1 g1 na hn => ⟨by show 0 ≤ sizeLine; omega, fun L nL1 => ⟨.ref p, .ref L, rfl, ?_⟩⟩)
    have nL : H L = none := g1.none nL1
    have g02 : Gr Fm.no G H G (upd H1 L (.lst [])) := g1.trans (Gr.newH g1.at_ nL1)
    have hLP : ¬ NP p as L := fun z => by
      obtain ⟨o, e⟩ := na.there L z
      rw [nL1] at e
      cases e
    have gL : G L = none := g1.at_.none nL1
    have now0 : NowL p as x H G H1 := ⟨na, fun b hb => (hn b hb).1, fun b hb => (hn b hb).2⟩
    have rc0 : RcvL p L as ([], x) [] H G (upd H1 L (.lst [])) := ⟨now0.mo (Gr.newH g1.at_ nL1), upd_same, gL, .nil⟩
    refine st_forB (K := K) g02 (ei_list (ev_var (i := 1) (R := rLst (r.map rLStp)) rfl hu)) (fun i σ G' H' => ∃ x4 x5 x6 x7 x8 x9 us, σ = [some v, some u, some (.ref p), some (.ref L), x4, x5, x6, x7, x8, x9] ∧ RcvL p L as ((r.take i).foldl stStep ([], x)) us H G' H') (fun G' H' g => ⟨_, _, _, _, _, _, [], rfl, rc0.mo g⟩)
      (fun i σ G' H' G1 H1 ⟨x4, x5, x6, x7, x8, x9, us, e, rc⟩ _ g => ⟨x4, x5, x6, x7, x8, x9, us, e, rc.mo g⟩) ?_ ?_
    · rintro i Y y σ' G3 H3 N hN hY g3 e3 hy ⟨x4, x5, x6, x7, x8, x9, us, rfl, rc⟩
      obtain ⟨st, hi, hst, rfl⟩ := get_map hY
      obtain ⟨okc, okmv, ocl, oml⟩ := ost st hst
      obtain ⟨ol1, _, _⟩ := okl.2.1 st hst
      have es := fold_take hi (f := stStep) (a := (([], x) : List Sto × Words))
      have hlt := (List.getElem?_eq_some_iff.mp hi).1
      have so := stOk_at hx ost i (Nat.le_of_lt hlt)
      generalize (r.take i).foldl stStep ([], x) = s at rc es so
      refine g_two hy g3.gh fun vc vm hc hm => ?_
      have hev : EvT Fm.no (tB (tCall (sp__law_meets K) [] E0 (tCons (tVar 2) (tCons (tVar 4) tNil)))) [some v, some u, some (.ref p), some (.ref L), some vc, some vm, x6, x7, x8, x9] (put (NP p as) H3 G3) (· = st.1.all fun c => c.metW s.2) := by
        refine et_B (ev_call (ea_cons (ev_var (R := rWx s.2) (i := 2) rfl (wx_now (rc.now.at_.rep (G := G3)))) (ea_cons (ev_var (i := 4) rfl ((rLst (st.1.map rLCond)).mo _ _ _ rc.now.loc.ex hc)) ea_nil)) fun vs G1 e rs => ?_)
        obtain ⟨_, _, rfl, r1, r2⟩ := all2 rs
        exact ⟨_, _, sz, s.2, st.1, rfl, r1, so.shp, r2, okc, by omega, rfl⟩
      refine EvT.peek rc.now.loc g3.at_ hev fun b G4 H4 g4 _ e4 => ?_
      have rc4 := rc.mo g4
      have g34 := g3.trans g4
      cases b with
      | false =>
        refine hN _ _ H4 g4.gg g34 ⟨_, _, _, _, _, _, us, rfl, ?_⟩
        rw [es]
        unfold stStep
        rw [if_neg (by rw [← e4]; decide)]
        exact rc4
      | true =>
        have es2 : stStep s st = st.2.foldl mvStep s := by
          unfold stStep
          rw [if_pos e4.symm]
        rw [es2] at es
        have hm4 := (rLst (st.2.map rLMv)).mo _ _ _ g4.gg hm
        refine st_forB (K := K) g34 (ei_list (ev_var (i := 5) (R := rLst (st.2.map rLMv)) rfl hm4)) (fun j σ G' H' => ∃ x6 x7 x8 x9 us, σ = [some v, some u, some (.ref p), some (.ref L), some vc, some vm, x6, x7, x8, x9] ∧ RcvL p L as ((st.2.take j).foldl mvStep s) us H G' H') (fun G' H' g => ⟨_, _, _, _, us, rfl, rc4.mo g⟩)
          (fun i σ G' H' G1 H1 ⟨x6, x7, x8, x9, us, e, rc⟩ _ g => ⟨x6, x7, x8, x9, us, e, rc.mo g⟩) ?_ ?_
        · rintro j Z z σ' G5 H5 M hM hZ g5 e5 hz ⟨y6, y7, y8, y9, us5, rfl, rc5⟩
          obtain ⟨mv, hj, hmv, rfl⟩ := get_map hZ
          have esj := fold_take hj (f := mvStep) (a := s)
          have hjl := (List.getElem?_eq_some_iff.mp hj).1
          have so5 : StOk sz (60 * i + (st.2.take j).length) ((st.2.take j).foldl mvStep s) := StOk.moves _ so fun m hm => okmv m (List.mem_of_mem_take hm)
          rw [List.length_take] at so5
          generalize (st.2.take j).foldl mvStep s = t at rc5 esj so5
          -- the parts of the move
          have hpart : ∃ a vs, z = .ref a ∧ G5 a = some (.tup vs) ∧ vs[1]? = some (.int ((writtenOf mv t.2).l : Nat)) ∧ vs[2]? = some (.int ((writtenOf mv t.2).w : Nat)) := by
            cases mv with
            | store s0 =>
              obtain ⟨a, vs, hz1, ha, hs⟩ := hz
              obtain ⟨w1, w2, w3, w4, rfl, e1, e2, e3, e4⟩ := all4 hs
              cases e2
              cases e3
              exact ⟨a, _, hz1, ha, rfl, rfl⟩
            | copy l x0 fl fw =>
              obtain ⟨a, vs, hz1, ha, hs⟩ := hz
              obtain ⟨w1, w2, w3, w4, w5, rfl, e1, e2, e3, e4, e5⟩ := all5 hs
              cases e2
              cases e3
              exact ⟨a, _, hz1, ha, rfl, rfl⟩
          obtain ⟨za, zvs, rfl, hza, hz1, hz2⟩ := hpart
          have hcm : ∀ {F : Fm} {σ : L2.St} {G' : Hp} {k : Nat} {x0 : V}, Ex G5 G' → σ[6]? = some (some (.ref za)) → zvs[k]? = some x0 → Ev F (tOp (rIxT K) (tVar 6) (tC (.int k))) σ G' (isV x0) := fun {F σ G' k x0} e h6 hk G1 H1 e1 a Q q => ⟨.ref za, h6, za, zvs, k, x0, rfl, rfl, st_of (a.gh _ _ (e1 _ _ (e _ _ hza))), atI_nat hk, q _ G1 H1 (Gr.refl a) rfl⟩
          have hev2 : Ev Fm.no (tIf (tTest (tOp rEq (tOp (rIxT K) (tVar 6) (tC (.int (0 : Nat)))) (tC (.str "copy")))) (tOp (rIxL K) (tOp (rIxL K) (tVar 2) (tOp (rIxT K) (tVar 6) (tC (.int (3 : Nat))))) (tOp (rIxT K) (tVar 6) (tC (.int (4 : Nat))))) (tOp (rIxT K) (tVar 6) (tC (.int (3 : Nat))))) [some v, some u, some (.ref p), some (.ref L), some vc, some vm, some (.ref za), y7, y8, y9] (put (NP p as) H5 G5) (isI (writtenOf mv t.2).n) := by
            have hzp := (rLMv mv).mo _ _ _ rc5.now.loc.ex hz
            cases mv with
            | store s0 =>
              exact ev_if (B := (· = false)) (et_str (x := "store") (ev_ixT (ev_var (i := 6) (R := rLCmd (.store s0)) rfl hzp) ev_c rfl) (by decide)) (fun z => nomatch z) fun _ => ev_ixT (R := isI s0.n) (ev_var (i := 6) (R := rLCmd (.store s0)) rfl hzp) ev_c rfl
            | copy l x0 fl fw =>
              have hx : ∀ {i : Nat} {R : Rp}, [isV (.str "copy"), isN l, isN x0, isN fl, isN fw][i]? = some R → Ev Fm.no (tOp (rIxT K) (tVar 6) (tC (.int i))) [some v, some u, some (.ref p), some (.ref L), some vc, some vm, some (.ref za), y7, y8, y9] (put (NP p as) H5 G5) R := fun hi => ev_ixT (ev_var (i := 6) rfl hzp) ev_c hi
              obtain ⟨line, h1, h2, h3⟩ := at2_get so5.shp (okmv _ hmv).2
              exact ev_if (B := (· = true)) (et_str (hx (i := 0) rfl) (by decide)) (fun _ => ev_ixL (R := isI (at2 t.2 fl fw)) (Rs := line.map isI) (ev_ixL (R := rLst (line.map isI)) (Rs := t.2.map fun l : List Int => rLst (l.map isI)) (ev_var (i := 2) rfl (rc5.now.at_.rep (G := G5))) (hx (i := 3) rfl) (by rw [List.getElem?_map, h1]; rfl)) (hx (i := 4) rfl) (by rw [List.getElem?_map, h3]; rfl)) fun z => nomatch z
          refine st_asgQ (Ev.peek rc5.now.loc g5.at_ hev2 fun vn G6 H6 g6 _ r6 e6 => ?_)
          cases r6
          have rc6 := rc5.mo g6
          have okw := writtenOf_ok (x := t.2) (okmv mv hmv)
          have em : mvStep t mv = (t.1 ++ [writtenOf mv t.2], putW t.2 (writtenOf mv t.2)) := rfl
          generalize writtenOf mv t.2 = w at hz1 hz2 okw em rc6
          obtain ⟨line, h1, h2, _⟩ := at2_get so5.shp okw
          obtain ⟨al, hal, eal⟩ := pget1 rc6.now.at_.hl h1
          have mal : NP p as al := .inr (List.mem_of_getElem? hal)
          have at6 : At (Fm.hold (NP p as) H6) (cut (NP p as) G6) H6 := at_hold g6.gh rc6.now.ng rc6.now.loc.h
          have eAl : ∀ H', (Fm.hold (NP p as) H6).I H' → H' al = some (.lst (line.map V.int)) := fun H' ii => (ii al mal).trans eal
          refine st_asg (F := Fm.hold (NP p as) H6) (ev_ixF (m := p) (v := .ref al) (ev_var (i := 2) rfl rfl) (hcm (k := 1) g6.gg rfl hz1) (fun H' ii => (ii p (.inl rfl)).trans rc6.now.at_.hp) (by rw [List.getElem?_map, hal]; rfl)) at6 fun v7 G7 H7 g7 r7 => ?_
          cases r7
          refine st_asgG (F := Fm.hold (NP p as) H6) (ev_var (R := isI w.n) (i := 7) rfl rfl) g7.at_ fun v8 G8 H8 g8 r8 => ?_
          cases r8
          refine g_setL (m := al) g8.at_ (ev_var (i := 8) rfl rfl) (hcm (k := 2) ((g6.gg.trans g7.gg).trans g8.gg) rfl hz2) eAl (by rw [List.length_map]; exact h2) fun G9 H9 g9 => ?_
          have g69 := ((g7.trans g8).trans g9).unhold
          have rc9 := rc6.mo g69
          have g09 := (g5.trans g6).trans g69
          have Lal : L ≠ al := fun z => hLP (by rw [z]; exact mal)
          have g10 := g09.wrNo (o := .lst ((line.map V.int).set w.w (.int w.n))) (rc9.now.n0 al mal) (rc9.now.ng al mal)
          have na9 := rc9.now.at_.put (l := w.l) (w := w.w) (n := w.n) hal h1
          have eL9 : upd H9 al (.lst ((line.map V.int).set w.w (.int w.n))) L = some (.lst us5) := (upd_ne Lal).trans rc9.eL
          have hsz : us5.length ≤ 1000000 := by
            rw [← rc5.all.len, List.length_map]
            have := so5.len
            omega
          have e59 : Ex G5 G9 := g6.gg.trans g69.gg
          refine st_appR (i := 3) (p := L) rfl eL9 (ev_tup (F := Fm.no) (ea_cons ev_c (ea_cons (hcm (k := 1) e59 rfl hz1) (ea_cons (hcm (k := 2) e59 rfl hz2) (ea_cons (ev_var (R := isI w.n) (i := 7) rfl rfl) ea_nil)))) (by simp) G9 _ (Ex.refl _) g10.at_ _ fun vt G11 H11 g11 rt => ?_)
          have now10 : NowL p as (putW t.2 w) H G9 (upd H9 al (.lst ((line.map V.int).set w.w (.int w.n)))) := ⟨na9, rc9.now.n0, rc9.now.ng⟩
          have now11 := now10.mo g11
          have eL11 := g11.ex _ _ eL9
          have gL11 := g11.fr L (by rw [eL9]; exact Option.some_ne_none _) rc9.gL
          refine app_end eL11 hsz (hM _ G11 _ (e59.trans g11.gg) ((g10.trans g11).wrNo nL gL11) ⟨_, _, _, _, us5 ++ [vt], rfl, ⟨⟨?_, now11.n0, now11.ng⟩, upd_same, gL11, ?_⟩⟩)
          · rw [esj, em]
            exact now11.at_.same fun b hb => upd_ne fun z => hLP (by rw [← z]; exact hb)
          · rw [esj, em]
            show All ((t.1 ++ [w]).map fun s => rLCmd (.store s)) _ _
            rw [List.map_append]
            exact (rc9.all.mo g11.gg).snoc rt
        · rintro σ5 G5 H5 g5 e5 ⟨y6, y7, y8, y9, us5, rfl, rc5⟩
          rw [List.length_map, List.take_length, ← es] at rc5
          exact hN _ _ H5 (g4.gg.trans e5) g5 ⟨_, _, _, _, _, _, us5, rfl, rc5⟩
    · rintro σ' G3 H3 g3 e3 ⟨x4, x5, x6, x7, x8, x9, us, rfl, rc⟩
      rw [List.length_map, List.take_length] at rc
      have g4 := g3.fixNo nL rc.gL rc.eL
      have lc4 : Loc Fm.no (NP p as) (upd G3 L (.lst us)) H3 := ⟨fun b hb => by
        rw [upd_ne fun z => hLP (by rw [← z]; exact hb)]
        exact rc.now.ng b hb, rc.now.loc.h, fun _ _ z => z⟩
      have g5 := gr_fixP g4 lc4 rc.now.n0
      have so := recovered_ok hx ⟨okm, orl, ost⟩
      have hl2 : (recovered r x).2.length ≤ 1000000 := by
        have h := congrArg List.length so.shp
        rw [List.length_map] at h
        omega
      refine st_ret (ev_tup (ea_cons (ev_var (R := rLst ((recovered r x).1.map fun s => rLCmd (.store s))) (i := 3) rfl ⟨L, us, rfl, by rw [put_out hLP, upd_same], rc.all.mo ((Ex.new rc.gL).trans lc4.ex)⟩) (ea_cons (ev_tupleL (ev_lcM (j := 9) (vs := [9]) (recovered r x).2 (fun l => rLst (l.map isI)) (fun l => rTup (l.map isI)) (ei_list (ev_var (i := 2) rfl (rc.now.at_.rep (G := upd G3 L (.lst us))))) hl2 (fun _ => rfl) fun l _ y G1 e ry => ev_tupleL (ev_var (i := 9) rfl ry))) ea_nil)) (by simp)) g5.at_ fun v6 G6 H6 g6 rv => q _ _ _ (g5.trans g6) rv
def everyOf (sz : List Nat) (cs : List Cmd) : List Words := (List.range (countB (boxesOf sz.length cs))).map fun k => contentsOf sz cs ((imageB (boxesOf sz.length cs) k).getD [])
def sp__law_all_words (K : PySem.W.Frag) : Sp := Prom fun vs G R => ∃ (v : V) (sz : List Nat) (cs : List Cmd), vs = [v] ∧ (rProg K sz cs).p v G ∧ okProg sz cs ∧ okCs sz cs ∧ countB (boxesOf sz.length cs) ≤ 1000000 ∧ R = rGood (everyOf sz cs)
theorem sc__law_all_words : FnScope ["_law_program_here", "_law_place"] ["_law_program_here"] (defScope s__law_all_words) := ⟨rfl, rfl, rfl, by decide +kernel, rfl, by decide +kernel, by decide +kernel⟩
/- _law_program_here=0 _law_place=1; cells _law_program_here; level 7 -/
theorem ok__law_all_words (T : Tx K mg) : Dk P w K mg base (He.ga K "_law_all_words") 7 ["_law_program_here"] (sp__law_all_words K) := by
  refine dk_of (d__law_all_words_at T) sc__law_all_words (fun _ _ _ _ _ _ us hl => match us, hl with | [_], _ => rfl) (fun vs H Q E h => ?_) (fun cdv A outer s H vs Q E hr h => ⟨_, (pss_one (ps_ret (pe_lc (own := [("_law_place", 1)]) (g := gName 1) (tt := tYes) rfl sc__law_all_words.nd (pi_range1 (by rfl) (f_range T) (pa_cons (pe_fn (ok_count T) (hr.mono (by decide)) (g_count T) (pa_cons (pv 0) pa_nil)) pa_nil)) (blkOk_by (by kernel_rfl)) (fun _ _ _ _ _ => (pg_name (i := 1) sc__law_all_words.nd rfl (.inl rfl))) (fun _ _ _ _ _ => pts_nil) (fun _ _ _ _ _ => (pe_fn (ok_contents T) (hr.mono (by decide)) (g_contents T) (pa_cons (pv 0) (pa_cons (pe_fn (ok_image_at T) (hr.mono (by decide)) (g_image_at T) (pa_cons (pv 0) (pa_cons (pv 1) pa_nil))) pa_nil))))))), ?_⟩)
  · obtain ⟨G, R, gh, ⟨v, sz, cs, rfl, _⟩, _⟩ := h
    rfl
  · obtain ⟨G, R, gh, ⟨v, sz, cs, rfl, hv, okp, ⟨okb, okc⟩, hcnt, rfl⟩, q⟩ := h
    refine st_ret (ev_to (ev_lcM (j := 1) (vs := [1]) (σ := [some v, none]) (F := Fm.no) (List.range (countB (boxesOf sz.length cs))) isN (fun k => rWords (contentsOf sz cs ((imageB (boxesOf sz.length cs) k).getD []))) (ei_rng1 (ea_cons (ev_call (R := isN (countB (boxesOf sz.length cs))) (ea_cons (ev_var (i := 0) rfl hv) ea_nil) fun vs G1 e rs => ?_) ea_nil) hcnt) (by rw [List.length_range]; exact hcnt) (fun _ => rfl) fun k hk y G1 e ry => ?_) ?_) (At.no gh) q
    · obtain ⟨_, rfl, r1⟩ := all1 rs
      exact ⟨_, sz, cs, rfl, r1, okp, okb, rfl⟩
    · obtain ⟨im, him, hma, hoi, _, _⟩ := okc k (List.mem_range.mp hk)
      have hv1 := (rProg K sz cs).mo _ _ _ e hv
      rw [him]
      refine ev_call (ea_cons (ev_var (i := 0) rfl hv1) (ea_cons (ev_call (R := rImg im) (ea_cons (ev_var (i := 0) rfl hv1) (ea_cons (ev_var (R := isN k) (i := 1) rfl ry) ea_nil)) fun vs G2 e rs => ?_) ea_nil)) fun vs G2 e rs => ?_
      · obtain ⟨_, _, rfl, r1, rfl⟩ := all2 rs
        exact ⟨_, k, sz, cs, im, rfl, r1, okp, okb, him, rfl⟩
      · obtain ⟨_, _, rfl, r1, r2⟩ := all2 rs
        exact ⟨_, _, sz, cs, im, rfl, r1, okp, r2, hma, hoi, rfl⟩
    · unfold rGood everyOf
      rw [List.map_map]
      rfl
end
end Ls


/-! LsMath1 -/
set_option maxHeartbeats 2000000
/-! plain math: the places of a box -/
namespace Ls
open PySem PySem.Spec PyProof.Rows L2
abbrev PS := List (Nat × Nat)
def szP : PS → Nat
  | [] => 1
  | p :: r => wid p * szP r
def decP : PS → Nat → List Nat
  | [], _ => []
  | p :: r, k => (p.1 + (k / szP r) % wid p) :: decP r k
def encP : PS → List Nat → Nat
  | p :: r, x :: xs => (x - p.1) * szP r + encP r xs
  | _, _ => 0
def InP : PS → List Nat → Prop
  | [], [] => True
  | p :: r, x :: xs => p.1 ≤ x ∧ x ≤ p.2 ∧ InP r xs
  | _, _ => False
def okP (ps : PS) : Prop := ∀ p ∈ ps, p.1 ≤ p.2
theorem wid_pos (p : Nat × Nat) : 0 < wid p := Nat.succ_pos _
theorem szP_pos : ∀ ps : PS, 0 < szP ps
  | [] => Nat.one_pos
  | p :: r => Nat.mul_pos (wid_pos p) (szP_pos r)
theorem fold_sz : ∀ (ps : PS) (f : Nat), ps.foldl (fun f p => f * wid p) f = f * szP ps
  | [], f => (Nat.mul_one f).symm
  | p :: r, f => by
    rw [List.foldl_cons, fold_sz r]
    show f * wid p * szP r = f * (wid p * szP r)
    rw [Nat.mul_assoc]
theorem bxSize_eq (b : Bx) : bxSize b = szP (b.1.zip b.2) := by
  unfold bxSize
  rw [fold_sz, Nat.one_mul]
theorem fold_at : ∀ (ps : PS) (k : Nat), ps.reverse.foldl atStep ([], k) = ((decP ps k).reverse, k / szP ps)
  | [], k => by
    show ([], k) = ([], k / 1)
    rw [Nat.div_one]
  | p :: r, k => by
    rw [List.reverse_cons, List.foldl_append, fold_at r k]
    show ((decP r k).reverse ++ [p.1 + k / szP r % wid p], k / szP r / wid p) = _
    show _ = (((p.1 + (k / szP r) % wid p) :: decP r k).reverse, k / (wid p * szP r))
    rw [List.reverse_cons, Nat.div_div_eq_div_mul, Nat.mul_comm]
theorem bxAt_eq (b : Bx) (k : Nat) : bxAt b k = decP (b.1.zip b.2) k := by
  unfold bxAt
  rw [fold_at, List.reverse_reverse]
theorem decP_in : ∀ {ps : PS}, okP ps → ∀ k, InP ps (decP ps k)
  | [], _, _ => True.intro
  | p :: r, h, k => by
    have hp := h p List.mem_cons_self
    have h2 : (k / szP r) % wid p < wid p := Nat.mod_lt _ (wid_pos p)
    unfold wid at h2
    refine ⟨Nat.le_add_right _ _, ?_, decP_in (fun q hq => h q (List.mem_cons_of_mem _ hq)) k⟩
    unfold wid
    omega
theorem encP_dec : ∀ (ps : PS) (k : Nat), encP ps (decP ps k) = k % szP ps
  | [], k => by
    show 0 = k % 1
    rw [Nat.mod_one]
  | p :: r, k => by
    show (p.1 + (k / szP r) % wid p - p.1) * szP r + encP r (decP r k) = k % (wid p * szP r)
    rw [encP_dec r k, Nat.add_sub_cancel_left, Nat.mul_comm (wid p), Nat.mod_mul, Nat.mul_comm]
    omega
theorem encP_lt : ∀ {ps : PS} {xs : List Nat}, InP ps xs → encP ps xs < szP ps
  | [], [], _ => Nat.one_pos
  | p :: r, x :: xs, h => by
    obtain ⟨h1, h2, h3⟩ := h
    have ih := encP_lt h3
    show (x - p.1) * szP r + encP r xs < wid p * szP r
    have : (x - p.1 + 1) * szP r ≤ wid p * szP r := Nat.mul_le_mul_right _ (by unfold wid; omega)
    rw [Nat.add_mul, Nat.one_mul] at this
    omega
  | [], _ :: _, h => h.elim
  | _ :: _, [], h => h.elim
theorem decP_add : ∀ (ps : PS) (m k : Nat), decP ps (m * szP ps + k) = decP ps k
  | [], _, _ => rfl
  | p :: r, m, k => by
    show (p.1 + ((m * (wid p * szP r) + k) / szP r) % wid p) :: decP r (m * (wid p * szP r) + k) = (p.1 + (k / szP r) % wid p) :: decP r k
    have e1 : m * (wid p * szP r) = (m * wid p) * szP r := (Nat.mul_assoc ..).symm
    rw [e1, decP_add r, Nat.add_comm (m * wid p * szP r) k, Nat.add_mul_div_right _ _ (szP_pos r), Nat.add_mul_mod_self_right]
theorem decP_enc : ∀ {ps : PS} {xs : List Nat}, InP ps xs → decP ps (encP ps xs) = xs
  | [], [], _ => rfl
  | p :: r, x :: xs, h => by
    obtain ⟨h1, h2, h3⟩ := h
    have hl := encP_lt h3
    show (p.1 + (((x - p.1) * szP r + encP r xs) / szP r) % wid p) :: decP r ((x - p.1) * szP r + encP r xs) = x :: xs
    have e1 : ((x - p.1) * szP r + encP r xs) / szP r = x - p.1 := by
      rw [Nat.add_comm, Nat.add_mul_div_right _ _ (szP_pos r), Nat.div_eq_of_lt hl, Nat.zero_add]
    have e2 : (x - p.1) % wid p = x - p.1 := Nat.mod_eq_of_lt (by unfold wid; omega)
    rw [e1, e2, decP_add, decP_enc h3]
    congr 1
    omega
  | [], _ :: _, h => h.elim
  | _ :: _, [], h => h.elim
theorem InP.len : ∀ {ps : PS} {xs : List Nat}, InP ps xs → xs.length = ps.length
  | [], [], _ => rfl
  | p :: r, x :: xs, h => by rw [List.length_cons, List.length_cons, InP.len h.2.2]
  | [], _ :: _, h => h.elim
  | _ :: _, [], h => h.elim
theorem InP.get : ∀ {ps : PS} {xs : List Nat} {l : Nat} {p : Nat × Nat}, InP ps xs → ps[l]? = some p → ∃ x, xs[l]? = some x ∧ p.1 ≤ x ∧ x ≤ p.2
  | [], _, l, p, _, e => by simp at e
  | q :: r, x :: xs, 0, p, h, e => by
    have e' : q = p := by simpa using e
    rw [← e']
    exact ⟨x, rfl, h.1, h.2.1⟩
  | q :: r, x :: xs, l + 1, p, h, e => by
    obtain ⟨y, h1, h2⟩ := InP.get (l := l) (p := p) h.2.2 (by simpa using e)
    exact ⟨y, by simpa using h1, h2⟩
  | _ :: _, [], _, _, h, _ => h.elim
theorem InP.of : ∀ {ps : PS} {xs : List Nat}, xs.length = ps.length → (∀ (l : Nat) (p : Nat × Nat) (x : Nat), ps[l]? = some p → xs[l]? = some x → p.1 ≤ x ∧ x ≤ p.2) → InP ps xs
  | [], [], _, _ => True.intro
  | p :: r, x :: xs, h, k => by
    obtain ⟨h1, h2⟩ := k 0 p x rfl rfl
    exact ⟨h1, h2, InP.of (by simpa using h) fun l q y hq hy => k (l + 1) q y (by simpa using hq) (by simpa using hy)⟩
  | [], _ :: _, h, _ => by simp at h
  | _ :: _, [], h, _ => by simp at h
/-! the order of images is the order of their places -/
theorem dataLt_imgs : ∀ {ps : PS} {xs ys : List Nat}, InP ps xs → InP ps ys → PyProof.Rows.lexLt itemOrd (PySem.W.keyToksAll (xs.map fun n : Nat => PyData.int n)) (PySem.W.keyToksAll (ys.map fun n : Nat => PyData.int n)) = decide (encP ps xs < encP ps ys)
  | [], [], [], _, _ => by
    simp [encP, lex_irrefl]
  | p :: r, x :: xs, y :: ys, hx, hy => by
    obtain ⟨h1, h2, h3⟩ := hx
    obtain ⟨k1, k2, k3⟩ := hy
    have ih := dataLt_imgs h3 k3
    have l1 := encP_lt h3
    have l2 := encP_lt k3
    have al : PySem.W.alike (.int (x : Int)) (.int (y : Int)) = true := by simp [PySem.W.alike]
    rw [List.map_cons, List.map_cons]
    by_cases e : x = y
    · subst e
      rw [PySem.W.dataLt_all_yes al (by simp [PyData.eqv]), ih]
      exact decide_eq_decide.mpr (by show _ ↔ (x - p.1) * szP r + encP r xs < (x - p.1) * szP r + encP r ys; omega)
    · rw [PySem.W.dataLt_all_no al (by simp [PyData.eqv]; omega), PySem.W.dataLt_int]
      refine decide_eq_decide.mpr ?_
      show (x : Int) < y ↔ (x - p.1) * szP r + encP r xs < (y - p.1) * szP r + encP r ys
      by_cases q : x < y
      · have : (x - p.1 + 1) * szP r ≤ (y - p.1) * szP r := Nat.mul_le_mul_right _ (by omega)
        rw [Nat.add_mul, Nat.one_mul] at this
        omega
      · have : (y - p.1 + 1) * szP r ≤ (x - p.1) * szP r := Nat.mul_le_mul_right _ (by omega)
        rw [Nat.add_mul, Nat.one_mul] at this
        omega
  | [], _ :: _, _, h, _ => h.elim
  | [], [], _ :: _, _, h => h.elim
  | _ :: _, [], _, h, _ => h.elim
  | _ :: _, _ :: _, [], _, h => h.elim
theorem dataLt_img {ps : PS} {xs ys : List Nat} (hx : InP ps xs) (hy : InP ps ys) : PySem.W.dataLt (eImg xs) (eImg ys) = decide (encP ps xs < encP ps ys) := by
  unfold eImg
  rw [PySem.W.dataLt_tuple]
  exact dataLt_imgs hx hy
theorem encP_mono : ∀ {ps : PS} {xs ys : List Nat}, InP ps xs → InP ps ys → (∀ l x y : Nat, xs[l]? = some x → ys[l]? = some y → x ≤ y) → encP ps xs ≤ encP ps ys
  | [], _, _, _, _, _ => Nat.zero_le _
  | p :: r, x :: xs, y :: ys, hx, hy, h => by
    have ih := encP_mono hx.2.2 hy.2.2 fun l a b ha hb => h (l + 1) a b (by simpa using ha) (by simpa using hb)
    have h0 := h 0 x y rfl rfl
    have : (x - p.1) * szP r ≤ (y - p.1) * szP r := Nat.mul_le_mul_right _ (by omega)
    show (x - p.1) * szP r + encP r xs ≤ (y - p.1) * szP r + encP r ys
    omega
  | _ :: _, [], _, h, _, _ => h.elim
  | _ :: _, _ :: _, [], _, h, _ => h.elim
/-! a box's own functions -/
theorem bxPlace_go : ∀ (los is his : List Nat) (f : Nat), InP (los.zip his) is → los.length = his.length → (los.zip (is.zip his)).foldl ofStep f = f * szP (los.zip his) + encP (los.zip his) is
  | [], [], [], f, _, _ => by
    show f = f * 1 + 0
    omega
  | lo :: los, x :: is, hi :: his, f, h, hl => by
    obtain ⟨h1, h2, h3⟩ := h
    have ih := bxPlace_go los is his (ofStep f (lo, x, hi)) h3 (by simpa using hl)
    show (los.zip (is.zip his)).foldl ofStep (ofStep f (lo, x, hi)) = f * (wid (lo, hi) * szP (los.zip his)) + ((x - lo) * szP (los.zip his) + encP (los.zip his) is)
    rw [ih]
    have e : ofStep f (lo, x, hi) = f * wid (lo, hi) + (x - lo) := by
      unfold ofStep
      show f * wid (lo, hi) + x - lo = _
      have h1' : lo ≤ x := h1
      omega
    rw [e, Nat.add_mul, Nat.mul_assoc]
    omega
  | [], _, _ :: _, _, _, hl => by simp at hl
  | _ :: _, _, [], _, _, hl => by simp at hl
  | [], _ :: _, [], _, h, _ => h.elim
  | _ :: _, [], _ :: _, _, h, _ => h.elim
theorem bxPlace_eq {b : Bx} {i : Img} (h : InP (b.1.zip b.2) i) (hl : b.1.length = b.2.length) : bxPlace b i = encP (b.1.zip b.2) i := by
  unfold bxPlace
  rw [bxPlace_go b.1 i b.2 0 h hl]
  omega
theorem bxHas_iff {b : Bx} {i : Img} (hl : b.1.length = b.2.length) : bxHas b i = true ↔ InP (b.1.zip b.2) i := by
  have hz : (b.1.zip b.2).length = b.1.length := by rw [List.length_zip, hl, Nat.min_self]
  constructor
  · intro h
    unfold bxHas at h
    rw [Bool.and_eq_true, decide_eq_true_iff, List.all_eq_true] at h
    obtain ⟨h1, h2⟩ := h
    refine InP.of (by rw [hz]; exact h1) fun l p x hp hx => ?_
    obtain ⟨q1, q2⟩ := List.getElem?_zip_eq_some.mp hp
    exact of_decide_eq_true (h2 (p.1, x, p.2) (List.mem_of_getElem? (i := l) (List.getElem?_zip_eq_some.mpr ⟨q1, List.getElem?_zip_eq_some.mpr ⟨hx, q2⟩⟩)))
  · intro h
    unfold bxHas
    rw [Bool.and_eq_true, decide_eq_true_iff, List.all_eq_true]
    refine ⟨by rw [← hz]; exact h.len, fun p hp => ?_⟩
    obtain ⟨l, hl'⟩ := List.mem_iff_getElem?.mp hp
    obtain ⟨q1, q23⟩ := List.getElem?_zip_eq_some.mp hl'
    obtain ⟨q2, q3⟩ := List.getElem?_zip_eq_some.mp q23
    obtain ⟨x, hx, h1, h2⟩ := h.get (List.getElem?_zip_eq_some.mpr ⟨q1, q3⟩ : (b.1.zip b.2)[l]? = some (p.1, p.2.2))
    rw [q2] at hx
    cases hx
    exact decide_eq_true ⟨h1, h2⟩
end Ls

/-! LsMath2 -/
/-! plain math: the boxes of a program -/
namespace Ls
open PySem PySem.Spec PyProof.Rows L2
theorem getD_set {xs : List Nat} {l k v : Nat} : (xs.set l v).getD k 0 = if l = k ∧ k < xs.length then v else xs.getD k 0 := by
  rw [List.getD_eq_getElem?_getD, List.getElem?_set]
  by_cases h : l = k
  · subst h
    by_cases q : l < xs.length
    · rw [if_pos rfl, if_pos q, if_pos ⟨rfl, q⟩]
      rfl
    · rw [if_pos rfl, if_neg q, if_neg fun z => q z.2, List.getD_eq_getElem?_getD, List.getElem?_eq_none (by omega)]
  · rw [if_neg h, if_neg fun z => h z.1, List.getD_eq_getElem?_getD]
theorem getD_zeros (n l : Nat) : (zeros n).getD l 0 = 0 := by
  unfold zeros
  rw [List.getD_eq_getElem?_getD, List.getElem?_replicate]
  split <;> rfl
structure BInv (n k : Nat) (s : Cnt × List Bx) : Prop where
  cn : CntN n s.1
  sf : ∀ l, s.1.sure.getD l 0 ≤ s.1.flushed.getD l 0
  fm : ∀ l, s.1.flushed.getD l 0 ≤ s.1.made.getD l 0
  mx : ∀ l, s.1.made.getD l 0 ≤ k
  bx : ∀ b ∈ s.2, b.1.length = n ∧ b.2.length = n ∧ (∀ l, b.1.getD l 0 ≤ b.2.getD l 0) ∧ ∀ l, b.2.getD l 0 ≤ s.1.made.getD l 0
  pw : s.2.Pairwise fun a b => ∃ l, l < n ∧ a.2.getD l 0 < b.1.getD l 0
theorem BInv.init (n : Nat) : BInv n 0 (Cnt.init n, [(zeros n, zeros n)]) where
  cn := CntN.init n
  sf := fun l => Nat.le_refl _
  fm := fun l => Nat.le_refl _
  mx := fun l => by rw [show (Cnt.init n).made.getD l 0 = 0 from getD_zeros n l]; exact Nat.le_refl 0
  bx := fun b hb => by
    rw [List.mem_singleton.mp hb]
    exact ⟨List.length_replicate, List.length_replicate, fun _ => Nat.le_refl _, fun _ => Nat.le_refl _⟩
  pw := List.pairwise_singleton _ _
theorem BInv.step {n k : Nat} {s : Cnt × List Bx} (h : BInv n k s) {c : Cmd} (hc : ∀ t, c = .store t → t.l < n) : BInv n (k + 1) (boxStep s c) := by
  obtain ⟨⟨m1, m2, m3⟩, sf, fm, mk, bx, pw⟩ := h
  have cn2 := CntN.step ⟨m1, m2, m3⟩ c
  cases c with
  | store t =>
    have hl := hc t rfl
    have em : ∀ l, (s.1.step (.store t)).made.getD l 0 = if t.l = l ∧ l < n then s.1.made.getD t.l 0 + 1 else s.1.made.getD l 0 := fun l => by
      rw [← m1]
      exact getD_set
    have mono : ∀ l, s.1.made.getD l 0 ≤ (s.1.step (.store t)).made.getD l 0 := fun l => by
      rw [em]
      split
      · rename_i z
        rw [z.1]
        omega
      · exact Nat.le_refl _
    have sm : ∀ l, s.1.sure.getD l 0 ≤ s.1.made.getD l 0 := fun l => Nat.le_trans (sf l) (fm l)
    refine ⟨cn2, sf, fun l => Nat.le_trans (fm l) (mono l), fun l => ?_, fun b hb => ?_, ?_⟩
    · show (s.1.step (.store t)).made.getD l 0 ≤ k + 1
      rw [em]
      have := mk l
      have := mk t.l
      split <;> omega
    · rcases List.mem_append.mp hb with z | z
      · obtain ⟨b1, b2, b3, b4⟩ := bx b z
        exact ⟨b1, b2, b3, fun l => Nat.le_trans (b4 l) (mono l)⟩
      · rw [List.mem_singleton.mp z]
        refine ⟨by show (s.1.sure.set _ _).length = n; rw [List.length_set]; exact m3, cn2.1, fun l => ?_, fun l => Nat.le_refl _⟩
        show (s.1.sure.set t.l ((s.1.step (.store t)).made.getD t.l 0)).getD l 0 ≤ (s.1.step (.store t)).made.getD l 0
        rw [getD_set]
        split
        · rename_i z
          rw [z.1]
          exact Nat.le_refl _
        · exact Nat.le_trans (sm l) (mono l)
    · refine List.pairwise_append.mpr ⟨pw, List.pairwise_singleton _ _, fun a ha b hb => ?_⟩
      rw [List.mem_singleton.mp hb]
      refine ⟨t.l, hl, ?_⟩
      have h1 := (bx a ha).2.2.2 t.l
      show a.2.getD t.l 0 < (s.1.sure.set t.l ((s.1.step (.store t)).made.getD t.l 0)).getD t.l 0
      rw [getD_set, if_pos ⟨rfl, by rw [m3]; exact hl⟩, em, if_pos ⟨rfl, hl⟩]
      omega
  | flush l0 =>
    refine ⟨cn2, fun l => ?_, fun l => ?_, fun l => Nat.le_succ_of_le (mk l), bx, pw⟩
    · show s.1.sure.getD l 0 ≤ (s.1.flushed.set l0 (s.1.made.getD l0 0)).getD l 0
      rw [getD_set]
      split
      · rename_i z
        rw [z.1]
        exact Nat.le_trans (sf l) (fm l)
      · exact sf l
    · show (s.1.flushed.set l0 (s.1.made.getD l0 0)).getD l 0 ≤ s.1.made.getD l 0
      rw [getD_set]
      split
      · rename_i z
        rw [z.1]
        exact Nat.le_refl _
      · exact fm l
  | fence => exact ⟨cn2, fun l => Nat.le_refl _, fm, fun l => Nat.le_succ_of_le (mk l), bx, pw⟩
theorem bInv (n : Nat) (cs : List Cmd) (h : ∀ c ∈ cs, ∀ t, c = .store t → t.l < n) : BInv n cs.length (cs.foldl boxStep (Cnt.init n, [(zeros n, zeros n)])) := by
  have go : ∀ (cs : List Cmd) (k : Nat) (s : Cnt × List Bx), (∀ c ∈ cs, ∀ t, c = .store t → t.l < n) → BInv n k s → BInv n (k + cs.length) (cs.foldl boxStep s) := by
    intro cs
    induction cs with
    | nil => exact fun k s _ b => b
    | cons c cs ih =>
      intro k s h b
      have := ih (k + 1) _ (fun x hx => h x (List.mem_cons_of_mem _ hx)) (b.step (h c List.mem_cons_self))
      rw [List.length_cons, show k + (cs.length + 1) = k + 1 + cs.length by omega]
      exact this
  have := go cs 0 _ h (BInv.init n)
  rwa [Nat.zero_add] at this
theorem fold_cnt (cs : List Cmd) : ∀ s : Cnt × List Bx, (cs.foldl boxStep s).1 = cs.foldl Cnt.step s.1 := by
  induction cs with
  | nil => exact fun s => rfl
  | cons c cs ih => exact fun s => ih _
/-- what is known of a program's boxes -/
structure BxOk (n : Nat) (cs : List Cmd) (b : Bx) : Prop where
  l1 : b.1.length = n
  l2 : b.2.length = n
  le : ∀ l, b.1.getD l 0 ≤ b.2.getD l 0
  md : ∀ l, b.2.getD l 0 ≤ (madeOf n cs).getD l 0
theorem okLine {sz : List Nat} {cs : List Cmd} (h : ∀ c ∈ cs, okCmd sz c) : ∀ c ∈ cs, ∀ t, c = .store t → t.l < sz.length := fun c hc t e => by
  have := h c hc
  rw [e] at this
  obtain ⟨s, h1, h2⟩ := this
  exact (List.getElem?_eq_some_iff.mp h1).1
theorem boxes_ok {sz : List Nat} {cs : List Cmd} (h : ∀ c ∈ cs, okCmd sz c) : (∀ b ∈ boxesOf sz.length cs, BxOk sz.length cs b) ∧ (boxesOf sz.length cs).Pairwise (fun a b => ∃ l, l < sz.length ∧ a.2.getD l 0 < b.1.getD l 0) ∧ ∀ l, (madeOf sz.length cs).getD l 0 ≤ cs.length := by
  have bi := bInv sz.length cs (okLine h)
  have e : (cs.foldl boxStep (Cnt.init sz.length, [(zeros sz.length, zeros sz.length)])).1.made = madeOf sz.length cs := by
    rw [fold_cnt]
    rfl
  refine ⟨fun b hb => ?_, bi.pw, fun l => by rw [← e]; exact bi.mx l⟩
  obtain ⟨b1, b2, b3, b4⟩ := bi.bx b hb
  exact ⟨b1, b2, b3, fun l => by rw [← e]; exact b4 l⟩
theorem getD_get {xs : List Nat} {l x : Nat} (h : xs[l]? = some x) : xs.getD l 0 = x := by
  rw [List.getD_eq_getElem?_getD, h]
  rfl
theorem BxOk.okP {n : Nat} {cs : List Cmd} {b : Bx} (h : BxOk n cs b) : okP (b.1.zip b.2) := fun p hp => by
  obtain ⟨l, hl⟩ := List.mem_iff_getElem?.mp hp
  obtain ⟨q1, q2⟩ := List.getElem?_zip_eq_some.mp hl
  have := h.le l
  rw [getD_get q1, getD_get q2] at this
  exact this
theorem BxOk.okBx {sz : List Nat} {cs : List Cmd} {b : Bx} (h : BxOk sz.length cs b) (hn : sz.length ≤ 6) (hc : cs.length ≤ 1000) (hm : ∀ l, (madeOf sz.length cs).getD l 0 ≤ cs.length) : okBx b := by
  refine ⟨by rw [h.l1, h.l2], by rw [h.l1]; exact hn, fun p hp => ?_⟩
  refine ⟨h.okP p hp, ?_⟩
  obtain ⟨l, hl⟩ := List.mem_iff_getElem?.mp hp
  obtain ⟨q1, q2⟩ := List.getElem?_zip_eq_some.mp hl
  have h1 := h.md l
  have h2 := hm l
  rw [getD_get q2] at h1
  omega
theorem okBs_of {sz : List Nat} {cs : List Cmd} (h : ∀ c ∈ cs, okCmd sz c) (hn : sz.length ≤ 6) (hc : cs.length ≤ 1000) : okBs (boxesOf sz.length cs) := fun b hb => ((boxes_ok h).1 b hb).okBx hn hc (boxes_ok h).2.2
/-! places of images -/
theorem countB_eq : ∀ bs : List Bx, countB bs = (imgsOf bs).length
  | [] => rfl
  | b :: bs => by
    have ih := countB_eq bs
    unfold countB imgsOf at ih ⊢
    rw [List.map_cons, List.sum_cons, ih, List.flatMap_cons, List.length_append, List.length_map, List.length_range]
theorem imageB_eq : ∀ (bs : List Bx) (k : Nat), imageB bs k = (imgsOf bs)[k]?
  | [], k => by simp [imageB, imgsOf]
  | b :: bs, k => by
    have ih := imageB_eq bs (k - bxSize b)
    unfold imgsOf at ih ⊢
    rw [List.flatMap_cons, List.getElem?_append, List.length_map, List.length_range]
    show (if k < bxSize b then some (bxAt b k) else imageB bs (k - bxSize b)) = _
    by_cases q : k < bxSize b
    · rw [if_pos q, if_pos q, List.getElem?_map, List.getElem?_range q]
      rfl
    · rw [if_neg q, if_neg q, ih]
theorem mem_imgs {bs : List Bx} {i : Img} (h : i ∈ imgsOf bs) : ∃ b ∈ bs, ∃ k, k < bxSize b ∧ i = bxAt b k := by
  unfold imgsOf at h
  obtain ⟨b, hb, hi⟩ := List.mem_flatMap.mp h
  obtain ⟨k, hk, e⟩ := List.mem_map.mp hi
  exact ⟨b, hb, k, List.mem_range.mp hk, e.symm⟩
theorem BxOk.inP {n : Nat} {cs : List Cmd} {b : Bx} (h : BxOk n cs b) (k : Nat) : InP (b.1.zip b.2) (bxAt b k) := by
  rw [bxAt_eq]
  exact decP_in h.okP k
theorem BxOk.zipLen {n : Nat} {cs : List Cmd} {b : Bx} (h : BxOk n cs b) : (b.1.zip b.2).length = n := by rw [List.length_zip, h.l1, h.l2, Nat.min_self]
theorem BxOk.img {n : Nat} {cs : List Cmd} {b : Bx} (h : BxOk n cs b) {i : Img} (hi : InP (b.1.zip b.2) i) : i.length = n ∧ ∀ l, l < n → b.1.getD l 0 ≤ i.getD l 0 ∧ i.getD l 0 ≤ b.2.getD l 0 := by
  refine ⟨by rw [hi.len, h.zipLen], fun l hl => ?_⟩
  have q1 : l < b.1.length := by rw [h.l1]; exact hl
  have q2 : l < b.2.length := by rw [h.l2]; exact hl
  have h1 : b.1[l]? = some b.1[l] := List.getElem?_eq_getElem q1
  have h2 : b.2[l]? = some b.2[l] := List.getElem?_eq_getElem q2
  obtain ⟨x, hx, k1, k2⟩ := hi.get (List.getElem?_zip_eq_some.mpr ⟨h1, h2⟩ : (b.1.zip b.2)[l]? = some (b.1[l], b.2[l]))
  rw [getD_get h1, getD_get h2, getD_get (xs := i) hx]
  exact ⟨k1, k2⟩
theorem placeB_eq {n : Nat} {cs : List Cmd} : ∀ (bs : List Bx) (before k : Nat) (i : Img), (∀ b ∈ bs, BxOk n cs b) → bs.Pairwise (fun a b => ∃ l, l < n ∧ a.2.getD l 0 < b.1.getD l 0) → (imgsOf bs)[k]? = some i → placeB bs before i = some (before + k)
  | [], _, _, _, _, _, h => by simp [imgsOf] at h
  | b :: bs, before, k, i, ok, pw, h => by
    have okb := ok b List.mem_cons_self
    have hl : b.1.length = b.2.length := by rw [okb.l1, okb.l2]
    have h' := h
    rw [← imageB_eq] at h'
    show (if bxHas b i = true then some (before + bxPlace b i) else placeB bs (before + bxSize b) i) = _
    unfold imageB at h'
    by_cases q : k < bxSize b
    · rw [if_pos q] at h'
      cases h'
      have inp := okb.inP k
      rw [if_pos ((bxHas_iff hl).mpr inp), bxPlace_eq inp hl, bxAt_eq, encP_dec, Nat.mod_eq_of_lt (by rw [← bxSize_eq]; exact q)]
    · rw [if_neg q, imageB_eq] at h'
      have pw' := List.pairwise_cons.mp pw
      obtain ⟨b2, hb2, k2, _, e2⟩ := mem_imgs (List.mem_of_getElem? h')
      obtain ⟨l, hln, hlt⟩ := pw'.1 b2 hb2
      have okb2 := ok b2 (List.mem_cons_of_mem _ hb2)
      have h2 := (okb2.img (okb2.inP k2)).2 l hln
      rw [← e2] at h2
      have no : ¬ bxHas b i = true := fun z => by
        have h1 := (okb.img ((bxHas_iff hl).mp z)).2 l hln
        omega
      rw [if_neg no, placeB_eq bs (before + bxSize b) (k - bxSize b) i (fun x hx => ok x (List.mem_cons_of_mem _ hx)) pw'.2 h']
      congr 1
      omega
/-! states -/
def cntL (ss : List Sto) (l : Nat) : Nat := (ss.filter fun s => decide (s.l = l)).length
theorem lineStates_len (ss : List Sto) (l : Nat) (x : List Int) : (lineStates ss l x).length = 1 + cntL ss l := by
  have go : ∀ (ss : List Sto) (st : List (List Int)), (ss.foldl (lineStep l) st).length = st.length + cntL ss l := by
    intro ss
    induction ss with
    | nil => exact fun st => rfl
    | cons s ss ih =>
      intro st
      rw [List.foldl_cons, ih]
      unfold lineStep cntL
      rw [List.filter_cons]
      by_cases q : s.l = l
      · rw [if_pos q, if_pos (decide_eq_true q), List.length_append]
        simp only [List.length_cons, List.length_nil]
        omega
      · rw [if_neg q, if_neg (by simpa using q)]
  exact go ss [x]
theorem made_cnt {n : Nat} {cs : List Cmd} (h : ∀ c ∈ cs, ∀ t, c = .store t → t.l < n) (l : Nat) : (madeOf n cs).getD l 0 = cntL (storesOf cs) l := by
  have go : ∀ (cs : List Cmd) (c : Cnt), CntN n c → (∀ c ∈ cs, ∀ t, c = .store t → t.l < n) → (cs.foldl Cnt.step c).made.getD l 0 = c.made.getD l 0 + cntL (storesOf cs) l := by
    intro cs
    induction cs with
    | nil => exact fun c _ _ => rfl
    | cons x cs ih =>
      intro c cn h
      rw [List.foldl_cons, ih _ (cn.step x) fun y hy => h y (List.mem_cons_of_mem _ hy)]
      cases x with
      | store t =>
        have hl := h _ List.mem_cons_self t rfl
        show (c.made.set t.l (c.made.getD t.l 0 + 1)).getD l 0 + _ = c.made.getD l 0 + cntL (t :: storesOf cs) l
        rw [getD_set, cn.1]
        unfold cntL
        rw [List.filter_cons]
        by_cases q : t.l = l
        · subst q
          rw [if_pos ⟨rfl, hl⟩, if_pos (decide_eq_true rfl), List.length_cons]
          omega
        · rw [if_neg fun z => q z.1, if_neg (by simpa using q)]
      | flush l0 => rfl
      | fence => rfl
  have := go cs (Cnt.init n) (CntN.init n) h
  rw [show (Cnt.init n).made.getD l 0 = 0 from getD_zeros n l, Nat.zero_add] at this
  exact this
theorem storesOf_storeCs (ss : List Sto) : storesOf (storeCs ss) = ss := by
  unfold storesOf storeCs
  rw [List.filterMap_map]
  induction ss with
  | nil => rfl
  | cons s ss ih => rw [List.filterMap_cons]; exact congrArg _ ih
/-- an image below what was made has its states -/
theorem okI_of {sz : List Nat} {cs : List Cmd} {x : Words} {i : Img} (h : ∀ c ∈ cs, okCmd sz c) (hx : x.length = sz.length) (hl : i.length = sz.length) (hm : ∀ l, l < sz.length → i.getD l 0 ≤ (madeOf sz.length cs).getD l 0) : okI (statesOf (storesOf cs) x) i := fun k n hk => by
  have hlt : k < sz.length := by
    rw [← hl]
    exact (List.getElem?_eq_some_iff.mp hk).1
  have hxlt : k < x.length := by rw [hx]; exact hlt
  have hxk : x[k]? = some x[k] := List.getElem?_eq_getElem hxlt
  refine ⟨_, statesOf_get hxk, ?_⟩
  rw [lineStates_len, ← made_cnt (okLine h)]
  have := hm k hlt
  rw [getD_get (xs := i) hk] at this
  omega
theorem shp_words {sz : List Nat} {ss : List Sto} {x : Words} {i : Img} (hx : shp sz x) (hl : i.length = sz.length) (oi : okI (statesOf ss x) i) : shp sz (wordsOf (statesOf ss x) i) := by
  unfold shp wordsOf
  apply List.ext_getElem?
  intro k
  rw [List.getElem?_map, List.getElem?_map, List.getElem?_zipIdx]
  by_cases q : k < sz.length
  · have hik : i[k]? = some (i[k]'(by rw [hl]; exact q)) := List.getElem?_eq_getElem (by rw [hl]; exact q)
    have hxl : x.length = sz.length := by
      have h := congrArg List.length hx
      rwa [List.length_map] at h
    have hxk : x[k]? = some (x[k]'(by rw [hxl]; exact q)) := List.getElem?_eq_getElem (by rw [hxl]; exact q)
    obtain ⟨st, h1, h2⟩ := oi k _ hik
    rw [hik]
    show some (((statesOf ss x).getD (0 + k) []).getD _ []).length = _
    rw [Nat.zero_add, List.getD_eq_getElem?_getD (l := statesOf ss x), h1]
    rw [statesOf_get hxk] at h1
    cases h1
    show some ((lineStates ss k _).getD _ []).length = _
    rw [List.getD_eq_getElem?_getD, List.getElem?_eq_getElem h2]
    have h3 := (lineStates_ok ss k (x[k]'(by rw [hxl]; exact q))).2.1 _ (List.getElem_mem h2)
    show some (List.length _) = _
    rw [Option.getD_some, h3]
    have h4 := congrArg (fun z : List Nat => z[k]?) hx
    have h5 : (x.map List.length)[k]? = sz[k]? := h4
    rw [List.getElem?_map, hxk] at h5
    exact h5
  · rw [List.getElem?_eq_none (by omega), List.getElem?_eq_none (by omega)]
    rfl
theorem shp_blank {sz : List Nat} : shp sz (blank sz) := by
  unfold shp blank
  rw [List.map_map]
  have : (List.length ∘ fun s => List.replicate s (0 : Int)) = id := by
    funext s
    exact List.length_replicate
  rw [this, List.map_id]
theorem img_facts {sz : List Nat} {cs : List Cmd} (h : ∀ c ∈ cs, okCmd sz c) {i : Img} (hi : i ∈ imgsOf (boxesOf sz.length cs)) : i.length = sz.length ∧ ∀ l, l < sz.length → i.getD l 0 ≤ (madeOf sz.length cs).getD l 0 := by
  obtain ⟨b, hb, k, hk, rfl⟩ := mem_imgs hi
  have ok := (boxes_ok h).1 b hb
  obtain ⟨h1, h2⟩ := ok.img (ok.inP k)
  exact ⟨h1, fun l hl => Nat.le_trans (h2 l hl).2 (ok.md l)⟩
theorem inMade_of {sz : List Nat} {cs : List Cmd} {i : Img} (hl : i.length = sz.length) (hm : ∀ l, l < sz.length → i.getD l 0 ≤ (madeOf sz.length cs).getD l 0) : inMade sz.length cs i := by
  have hml : (madeOf sz.length cs).length = sz.length := (cntN_at (n := sz.length) cs).1
  refine ⟨by rw [hl, hml], fun p hp => ?_⟩
  obtain ⟨l, hl'⟩ := List.mem_iff_getElem?.mp hp
  obtain ⟨q1, q2⟩ := List.getElem?_zip_eq_some.mp hl'
  have := hm l (by rw [← hl]; exact (List.getElem?_eq_some_iff.mp q1).1)
  rw [getD_get (xs := i) q1, getD_get q2] at this
  exact this
theorem okCs_of {sz : List Nat} {cs : List Cmd} (ok : okProg sz cs) : okCs sz cs := by
  obtain ⟨om, ol, oc⟩ := ok
  refine ⟨okBs_of oc om.2.1 (by omega), fun k hk => ?_⟩
  rw [countB_eq] at hk
  have e : (imgsOf (boxesOf sz.length cs))[k]? = some _ := List.getElem?_eq_getElem hk
  have hm := List.getElem_mem hk
  obtain ⟨h1, h2⟩ := img_facts oc hm
  have hb : (blank sz).length = sz.length := blank_len sz
  have oi := okI_of oc hb h1 h2
  refine ⟨_, by rw [imageB_eq]; exact e, inMade_of h1 h2, oi, by have := om.2.1; omega, shp_words shp_blank h1 oi⟩
end Ls

/-! LsMath3 -/
/-! plain math: the law's own words; recoveries -/
namespace Ls
open PySem PySem.Spec PyProof.Rows L2
theorem lineStates_snoc (pre : List Sto) (t : Sto) (l : Nat) (x : List Int) : lineStates (pre ++ [t]) l x = lineStep l (lineStates pre l x) t := by
  unfold lineStates
  rw [List.foldl_append]
  rfl
theorem cntL_snoc (pre : List Sto) (t : Sto) (l : Nat) : cntL (pre ++ [t]) l = cntL pre l + if t.l = l then 1 else 0 := by
  unfold cntL
  rw [List.filter_append, List.length_append, List.filter_cons]
  by_cases q : t.l = l
  · rw [if_pos (decide_eq_true q), if_pos q]
    rfl
  · rw [if_neg (by simpa using q), if_neg q]
    rfl
structure LwI (sz : List Nat) (i : Img) (x : Words) (pre : List Sto) (s : Words × List Nat) : Prop where
  shp : shp sz s.1
  len : s.2.length = sz.length
  cnt : ∀ l, l < sz.length → s.2.getD l 0 = cntL pre l
  wd : ∀ (l : Nat) (xl : List Int), x[l]? = some xl → s.1[l]? = some ((lineStates pre l xl).getD (min (i.getD l 0) (cntL pre l)) [])
theorem putW_get {x : Words} {t : Sto} {l : Nat} : (putW x t)[l]? = if t.l = l then (if l < x.length then some ((x.getD l []).set t.w t.n) else none) else x[l]? := by
  unfold putW
  rw [List.getElem?_set]
  by_cases q : t.l = l
  · subst q
    rfl
  · rw [if_neg q, if_neg q]
theorem LwI.step {sz : List Nat} {i : Img} {x : Words} {pre : List Sto} {s : Words × List Nat} (h : LwI sz i x pre s) {t : Sto} (ht : okSto sz t) (hx : Ls.shp sz x) : LwI sz i x (pre ++ [t]) (lwStep i s t) := by
  have hl : t.l < sz.length := by
    obtain ⟨n, h1, _⟩ := ht
    exact (List.getElem?_eq_some_iff.mp h1).1
  obtain ⟨k1, k2⟩ := lwStep_ok (i := i) (t := t) h.shp h.len
  have e2 : (lwStep i s t).2 = s.2.set t.l (s.2.getD t.l 0 + 1) := by
    unfold lwStep
    split <;> rfl
  have xlen : x.length = sz.length := by
    have h := congrArg List.length hx
    rwa [List.length_map] at h
  have slen : s.1.length = sz.length := by
    have h := congrArg List.length h.shp
    rwa [List.length_map] at h
  refine ⟨k1, k2, fun l hlt => ?_, fun l xl hxl => ?_⟩
  · rw [e2, getD_set, cntL_snoc, h.len]
    by_cases q : t.l = l
    · subst q
      rw [if_pos ⟨rfl, hl⟩, if_pos rfl, h.cnt _ hl]
    · rw [if_neg fun z => q z.1, if_neg q, h.cnt l hlt]
      rfl
  · have hlt : l < sz.length := by
      rw [← xlen]
      exact (List.getElem?_eq_some_iff.mp hxl).1
    have hw := h.wd l xl hxl
    have hlen := lineStates_len pre l xl
    rw [lineStates_snoc, cntL_snoc]
    unfold lwStep
    by_cases q : t.l = l
    · subst q
      have hc : (s.2.set t.l (s.2.getD t.l 0 + 1)).getD t.l 0 = cntL pre t.l + 1 := by
        rw [getD_set, if_pos ⟨rfl, by rw [h.len]; exact hl⟩, h.cnt _ hl]
      rw [hc, if_pos rfl]
      unfold lineStep
      rw [if_pos rfl]
      have hne : lineStates pre t.l xl ≠ [] := (lineStates_ok pre t.l xl).1
      by_cases z : cntL pre t.l + 1 ≤ i.getD t.l 0
      · rw [if_pos z]
        show (putW s.1 t)[t.l]? = _
        rw [putW_get, if_pos rfl, if_pos (by rw [slen]; exact hl), List.getD_eq_getElem?_getD (l := s.1), hw, Nat.min_eq_right (by omega), Nat.min_eq_right (by omega)]
        congr 1
        rw [List.getD_eq_getElem?_getD (l := lineStates pre t.l xl ++ _), List.getElem?_append_right (by omega), hlen, show cntL pre t.l + 1 - (1 + cntL pre t.l) = 0 by omega, List.getLastD_eq_getLast?, glast hne]
        show List.set ((lineStates pre t.l xl).getD (cntL pre t.l) []) t.w t.n = _
        rw [List.getD_eq_getElem?_getD, List.getElem?_eq_getElem (by omega)]
        show List.set (lineStates pre t.l xl)[cntL pre t.l] t.w t.n = List.set ((lineStates pre t.l xl).getLast hne) t.w t.n
        rw [List.getLast_eq_getElem]
        congr 2
        omega
      · rw [if_neg z]
        show s.1[t.l]? = _
        rw [hw, Nat.min_eq_left (by omega), Nat.min_eq_left (by omega), List.getD_eq_getElem?_getD (l := lineStates pre t.l xl), List.getD_eq_getElem?_getD (l := lineStates pre t.l xl ++ _), List.getElem?_append_left (by omega)]
    · rw [if_neg q]
      unfold lineStep
      rw [if_neg q, Nat.add_zero]
      split
      · show (putW s.1 t)[l]? = _
        rw [putW_get, if_neg q, hw]
        rfl
      · exact hw
theorem lawWords_eq {sz : List Nat} {ss : List Sto} {i : Img} {x : Words} (hx : shp sz x) (hl : i.length = sz.length) (ok : ∀ t ∈ ss, okSto sz t) (hi : ∀ l, l < sz.length → i.getD l 0 ≤ cntL ss l) : lawWords sz.length ss i x = wordsOf (statesOf ss x) i := by
  have xlen : x.length = sz.length := by
    have h := congrArg List.length hx
    rwa [List.length_map] at h
  have go : ∀ (ss pre : List Sto) (s : Words × List Nat), (∀ t ∈ ss, okSto sz t) → LwI sz i x pre s → LwI sz i x (pre ++ ss) (ss.foldl (lwStep i) s) := by
    intro ss
    induction ss with
    | nil =>
      intro pre s _ h
      rw [List.append_nil]
      exact h
    | cons t ss ih =>
      intro pre s ok h
      have := ih (pre ++ [t]) _ (fun y hy => ok y (List.mem_cons_of_mem _ hy)) (h.step (ok t List.mem_cons_self) hx)
      rw [List.append_assoc] at this
      exact this
  have h0 : LwI sz i x [] (x, zeros sz.length) := ⟨hx, List.length_replicate, fun l _ => by rw [show (x, zeros sz.length).2.getD l 0 = 0 from getD_zeros _ l]; rfl, fun l xl hxl => by
    show x[l]? = some (([xl] : List (List Int)).getD (min (i.getD l 0) 0) [])
    rw [Nat.min_zero, hxl]
    rfl⟩
  have h1 := go ss [] _ ok h0
  rw [List.nil_append] at h1
  have hfl : (ss.foldl (lwStep i) (x, zeros sz.length)).1.length = sz.length := by
    have h := congrArg List.length h1.shp
    rwa [List.length_map] at h
  unfold lawWords
  apply List.ext_getElem?
  intro l
  by_cases q : l < sz.length
  · have ql : l < x.length := by rw [xlen]; exact q
    have qi : l < i.length := by rw [hl]; exact q
    have hxl : x[l]? = some x[l] := List.getElem?_eq_getElem ql
    have hil : (i : List Nat)[l]? = some i[l] := List.getElem?_eq_getElem qi
    have hgd : i.getD l 0 = i[l] := getD_get (xs := i) hil
    rw [h1.wd l _ hxl]
    unfold wordsOf
    rw [List.getElem?_map, List.getElem?_zipIdx, hil]
    show _ = some (((statesOf ss x).getD (0 + l) []).getD i[l] [])
    rw [Nat.zero_add, List.getD_eq_getElem?_getD (l := statesOf ss x), statesOf_get hxl, hgd, Nat.min_eq_left (by rw [← hgd]; exact hi l q)]
    rfl
  · rw [List.getElem?_eq_none (by omega)]
    unfold wordsOf
    rw [List.getElem?_eq_none (by rw [List.length_map, List.length_zipIdx]; omega)]
/-! recoveries -/
theorem rec_len (r : List Stp) (x : Words) : (recovered r x).1.length ≤ movesOf r := by
  have mvs : ∀ (ms : List Mv) (s : List Sto × Words), (ms.foldl mvStep s).1.length = s.1.length + ms.length := by
    intro ms
    induction ms with
    | nil => exact fun s => rfl
    | cons m ms ih =>
      intro s
      rw [List.foldl_cons, ih]
      show (s.1 ++ [_]).length + ms.length = _
      rw [List.length_append, List.length_cons]
      simp only [List.length_cons, List.length_nil]
      omega
  have go : ∀ (r : List Stp) (s : List Sto × Words), (r.foldl stStep s).1.length ≤ s.1.length + movesOf r := by
    intro r
    induction r with
    | nil => exact fun s => Nat.le_refl _
    | cons p r ih =>
      intro s
      rw [List.foldl_cons]
      have h1 := ih (stStep s p)
      have h2 : (stStep s p).1.length ≤ s.1.length + p.2.length := by
        unfold stStep
        split
        · rw [mvs]
          exact Nat.le_refl _
        · omega
      unfold movesOf at h1 ⊢
      rw [List.map_cons, List.sum_cons]
      omega
  have := go r ([], x)
  simpa [recovered] using this
theorem szP_le {m : Nat} : ∀ ps : PS, (∀ p ∈ ps, wid p ≤ m) → szP ps ≤ m ^ ps.length
  | [], _ => Nat.le_refl _
  | p :: r, h => by
    have ih := szP_le r fun q hq => h q (List.mem_cons_of_mem _ hq)
    show wid p * szP r ≤ m ^ (r.length + 1)
    rw [Nat.pow_succ, Nat.mul_comm]
    exact Nat.mul_le_mul ih (h p List.mem_cons_self)
theorem okRecImgs_of {sz : List Nat} {r : List Stp} {x : Words} (ok : okSz sz) (okr : okLRec sz r) (hx : shp sz x) : okRecImgs sz r x := by
  have so := recovered_ok hx (okr.rec ok)
  have hlen := rec_len r x
  have hm8 := okr.2.2
  have oc := okCmd_stores so.ok
  have hcl : (storeCs (recovered r x).1).length ≤ 8 := by
    unfold storeCs
    rw [List.length_map]
    omega
  obtain ⟨bo, pw, hm⟩ := boxes_ok oc
  have xlen : x.length = sz.length := by
    have h := congrArg List.length hx
    rwa [List.length_map] at h
  intro b hb
  have okb := bo b hb
  have obx := okb.okBx (by have := ok.2.1; omega) (by omega) hm
  refine ⟨obx, ?_, fun k hk => ?_⟩
  · rw [bxSize_eq]
    have h1 : szP (b.1.zip b.2) ≤ 9 ^ (b.1.zip b.2).length := szP_le _ fun p hp => by
      obtain ⟨l, hl⟩ := List.mem_iff_getElem?.mp hp
      obtain ⟨q1, q2⟩ := List.getElem?_zip_eq_some.mp hl
      have h2 := okb.md l
      rw [getD_get q2] at h2
      have h3 := hm l
      unfold wid
      omega
    have h2 : (b.1.zip b.2).length ≤ 3 := by rw [okb.zipLen]; exact ok.2.1
    have h3 : 9 ^ (b.1.zip b.2).length ≤ 9 ^ 3 := Nat.pow_le_pow_right (by decide) h2
    have h4 : (9 : Nat) ^ 3 = 729 := by decide
    omega
  · have inp := okb.inP k
    obtain ⟨h1, h2⟩ := okb.img inp
    have h3 : ∀ l, l < sz.length → (bxAt b k).getD l 0 ≤ (madeOf sz.length (storeCs (recovered r x).1)).getD l 0 := fun l hl => Nat.le_trans (h2 l hl).2 (okb.md l)
    have oi := okI_of oc xlen h1 h3
    rw [storesOf_storeCs] at oi
    exact ⟨oi, shp_words hx h1 oi, by have := ok.2.1; omega⟩
/-! what a cut can leave -/
def cutsOf (n : Nat) (r : List Stp) (x : Words) : List (Img × Words) := (imgsOf (boxesOf n (storeCs (recovered r x).1))).map fun i => (i, settleOf r (wordsOf (statesOf (recovered r x).1 x) i))
def badOf (n : Nat) (r : List Stp) (good : List Words) (x : Words) : List (Option Img × Words) :=
  if settleOf r x ∈ good then ((cutsOf n r x).filter fun p => !decide (p.2 ∈ good)).map fun p => (some p.1, p.2) else [(none, settleOf r x)]
theorem findSome_look (r : List Stp) (good : List Words) (st : List (List (List Int))) : ∀ is : List Img, is.findSome? (lookF r good st) = ((((is.map fun i => (i, settleOf r (wordsOf st i))).filter fun p => !decide (p.2 ∈ good)).map fun p => (some p.1, p.2)) : List (Option Img × Words)).head?
  | [] => rfl
  | i :: is => by
    have ih := findSome_look r good st is
    rw [List.findSome?_cons, List.map_cons, List.filter_cons]
    by_cases q : settleOf r (wordsOf st i) ∈ good
    · have e : lookF r good st i = none := by
        unfold lookF
        rw [if_pos (by exact q)]
      rw [e, if_neg (by simpa using q)]
      exact ih
    · have e : lookF r good st i = some (some i, settleOf r (wordsOf st i)) := by
        unfold lookF
        rw [if_neg (by exact q)]
        rfl
      rw [e, if_pos (by simpa using q)]
      rfl
theorem lookedFor_bad (n : Nat) (r : List Stp) (good : List Words) (x : Words) : lookedFor n r good x = (badOf n r good x).head? := by
  rw [lookedFor_eq]
  unfold badOf
  by_cases q : settleOf r x ∈ good
  · rw [if_pos q, if_pos (by exact q), findSome_look]
    rfl
  · rw [if_neg q, if_neg (by exact q)]
    rfl
end Ls

/-! LsMath4 -/
/-! plain math: broken, idle recoveries -/
namespace Ls
open PySem PySem.Spec PyProof.Rows L2
theorem okSt_of {sz : List Nat} {cs : List Cmd} (h : ∀ c ∈ cs, okCmd sz c) {b : Bx} (hb : b ∈ boxesOf sz.length cs) {c : Cond} (hc : okCond sz c) : okSt (statesOf (storesOf cs) (blank sz)) b c := fun k lo hi h1 h2 => by
  have ok := (boxes_ok h).1 b hb
  have hk : k < sz.length := by
    rw [← ok.l1]
    exact (List.getElem?_eq_some_iff.mp h1).1
  have hszk : sz[k]? = some sz[k] := List.getElem?_eq_getElem hk
  have hx : (blank sz)[k]? = some (List.replicate sz[k] 0) := by
    unfold blank
    rw [List.getElem?_map, hszk]
    rfl
  refine ⟨_, statesOf_get hx, ?_, fun e l hl => ?_⟩
  · rw [lineStates_len, ← made_cnt (okLine h)]
    have := ok.md k
    rw [getD_get h2] at this
    omega
  · obtain ⟨s, k1, k2⟩ := hc
    rw [e, hszk] at k1
    cases k1
    rw [(lineStates_ok _ _ _).2.1 l hl, List.length_replicate]
    exact k2
theorem fit_none {lo n : Nat} {p : Nat → Bool} (h : ((List.range n).map (lo + ·)).find? p = none) : ∀ m, lo ≤ m → m < lo + n → p m = false := fun m h1 h2 => by
  have := List.find?_eq_none.mp h m (List.mem_map.mpr ⟨m - lo, List.mem_range.mpr (by omega), by omega⟩)
  simpa using this
theorem fit_some {lo n m : Nat} {p : Nat → Bool} (h : ((List.range n).map (lo + ·)).find? p = some m) : p m = true ∧ lo ≤ m ∧ m < lo + n ∧ ∀ k, lo ≤ k → k < m → p k = false := by
  obtain ⟨h1, i, hi, h2, h3⟩ := List.find?_eq_some_iff_getElem.mp h
  rw [List.length_map, List.length_range] at hi
  have e : lo + i = m := by simpa using h2
  refine ⟨h1, by omega, by omega, fun k k1 k2 => ?_⟩
  have := h3 (k - lo) (by omega)
  have e2 : lo + (k - lo) = k := by omega
  simpa [e2] using this
def violC (sts : List (List (List Int))) (c : Cond) (i : Img) : Bool := !c.met ((sts.getD c.l []).getD (i.getD c.l 0) [])
structure BxSt (n : Nat) (sts : List (List (List Int))) (b : Bx) : Prop where
  l1 : b.1.length = n
  l2 : b.2.length = n
  le : ∀ l, b.1.getD l 0 ≤ b.2.getD l 0
theorem BxSt.zl {n : Nat} {sts : List (List (List Int))} {b : Bx} (h : BxSt n sts b) : (b.1.zip b.2).length = n := by rw [List.length_zip, h.l1, h.l2, Nat.min_self]
theorem BxSt.okP {n : Nat} {sts : List (List (List Int))} {b : Bx} (h : BxSt n sts b) : okP (b.1.zip b.2) := fun p hp => by
  obtain ⟨l, hl⟩ := List.mem_iff_getElem?.mp hp
  obtain ⟨q1, q2⟩ := List.getElem?_zip_eq_some.mp hl
  have := h.le l
  rw [getD_get q1, getD_get q2] at this
  exact this
theorem BxSt.zget {n : Nat} {sts : List (List (List Int))} {b : Bx} (h : BxSt n sts b) {k : Nat} (hk : k < n) : (b.1.zip b.2)[k]? = some (b.1.getD k 0, b.2.getD k 0) := by
  have q1 : k < b.1.length := by rw [h.l1]; exact hk
  have q2 : k < b.2.length := by rw [h.l2]; exact hk
  have h1 : b.1[k]? = some b.1[k] := List.getElem?_eq_getElem q1
  have h2 : b.2[k]? = some b.2[k] := List.getElem?_eq_getElem q2
  rw [getD_get h1, getD_get h2]
  exact List.getElem?_zip_eq_some.mpr ⟨h1, h2⟩
theorem BxSt.inGet {n : Nat} {sts : List (List (List Int))} {b : Bx} (h : BxSt n sts b) {i : Img} (hi : InP (b.1.zip b.2) i) {k : Nat} (hk : k < n) : b.1.getD k 0 ≤ i.getD k 0 ∧ i.getD k 0 ≤ b.2.getD k 0 := by
  obtain ⟨x, hx, h1, h2⟩ := hi.get (h.zget hk)
  rw [getD_get (xs := i) hx]
  exact ⟨h1, h2⟩
theorem osAt_get {b : Bx} {sts : List (List (List Int))} {c : Cond} {k : Nat} (hk : k < b.1.length) : (osAt b sts c)[k]? = some (fitting k (sts.getD k []) (b.1.getD k 0) (b.2.getD k 0) (some c)) := by
  have h1 : b.1[k]? = some b.1[k] := List.getElem?_eq_getElem hk
  unfold osAt
  rw [List.getElem?_map, List.getElem?_zipIdx, h1, getD_get h1, Nat.zero_add]
  rfl
theorem least_none {n : Nat} {sts : List (List (List Int))} {b : Bx} {c : Cond} (h : BxSt n sts b) (e : leastIn b sts (some c) = none) {i : Img} (hi : InP (b.1.zip b.2) i) : violC sts c i = false := by
  rw [leastIn_eq] at e
  have ha : (osAt b sts c).any (·.isNone) = true := by
    cases q : (osAt b sts c).any (·.isNone) with
    | true => rfl
    | false =>
      rw [optAll_some _ q] at e
      cases e
  obtain ⟨o, ho, hn⟩ := List.any_eq_true.mp ha
  obtain ⟨k, hk⟩ := List.mem_iff_getElem?.mp ho
  have hkl : k < b.1.length := by
    have := (List.getElem?_eq_some_iff.mp hk).1
    unfold osAt at this
    rwa [List.length_map, List.length_zipIdx] at this
  rw [osAt_get hkl] at hk
  have ho2 : o = none := by
    cases o with
    | none => rfl
    | some x => cases hn
  rw [ho2] at hk
  have hf := Option.some.inj hk
  rw [fitting_eq] at hf
  obtain ⟨g1, g2⟩ := h.inGet hi (by rw [← h.l1]; exact hkl : k < n)
  have := fit_none hf (i.getD k 0) g1 (by omega)
  unfold fitB at this
  rw [Bool.or_eq_false_iff, decide_eq_false_iff_not] at this
  have hck : c.l = k := Decidable.of_not_not this.1
  unfold violC
  rw [hck]
  exact this.2
theorem least_some {n : Nat} {sts : List (List (List Int))} {b : Bx} {c : Cond} (h : BxSt n sts b) (hc : c.l < n) {j : Img} (e : leastIn b sts (some c) = some j) : InP (b.1.zip b.2) j ∧ violC sts c j = true ∧ ∀ i, InP (b.1.zip b.2) i → violC sts c i = true → ∀ l x y : Nat, (j : List Nat)[l]? = some x → (i : List Nat)[l]? = some y → x ≤ y := by
  rw [leastIn_eq] at e
  have ha : (osAt b sts c).any (·.isNone) = false := by
    cases q : (osAt b sts c).any (·.isNone) with
    | false => rfl
    | true =>
      rw [optAll_none _ q] at e
      cases e
  rw [optAll_some _ ha] at e
  have ej := Option.some.inj e
  have hol : (osAt b sts c).length = n := by
    unfold osAt
    rw [List.length_map, List.length_zipIdx, h.l1]
  have hjl : j.length = n := by rw [← ej, List.length_map, hol]
  have hfit : ∀ k x : Nat, (j : List Nat)[k]? = some x → fitB k (sts.getD k []) c x = true ∧ b.1.getD k 0 ≤ x ∧ x ≤ b.2.getD k 0 ∧ ∀ m, b.1.getD k 0 ≤ m → m < x → fitB k (sts.getD k []) c m = false := fun k x hx => by
    have hk : k < n := by
      rw [← hjl]
      exact (List.getElem?_eq_some_iff.mp hx).1
    have ho := osAt_get (b := b) (sts := sts) (c := c) (by rw [h.l1]; exact hk : k < b.1.length)
    rw [← ej, List.getElem?_map, ho] at hx
    cases q : fitting k (sts.getD k []) (b.1.getD k 0) (b.2.getD k 0) (some c) with
    | none =>
      rw [q] at ho
      have : (osAt b sts c).any (·.isNone) = true := List.any_eq_true.mpr ⟨none, List.mem_of_getElem? ho, rfl⟩
      rw [this] at ha
      cases ha
    | some m =>
      rw [q] at hx
      have hm : m = x := by simpa using hx
      subst hm
      rw [fitting_eq] at q
      obtain ⟨f1, f2, f3, f4⟩ := fit_some q
      exact ⟨f1, f2, by have := h.le k; omega, f4⟩
  refine ⟨InP.of (by rw [hjl, h.zl]) fun l p x hp hx => ?_, ?_, fun i hi hv l x y hx hy => ?_⟩
  · have hl : l < n := by
      rw [← hjl]
      exact (List.getElem?_eq_some_iff.mp hx).1
    rw [h.zget hl] at hp
    cases hp
    obtain ⟨_, f2, f3, _⟩ := hfit l x hx
    exact ⟨f2, f3⟩
  · have q : c.l < j.length := by rw [hjl]; exact hc
    have hx : (j : List Nat)[c.l]? = some j[c.l] := List.getElem?_eq_getElem q
    obtain ⟨f1, _⟩ := hfit c.l _ hx
    unfold fitB at f1
    unfold violC
    rw [getD_get (xs := j) hx]
    simpa using f1
  · obtain ⟨f1, f2, f3, f4⟩ := hfit l x hx
    have hl : l < n := by
      rw [← hjl]
      exact (List.getElem?_eq_some_iff.mp hx).1
    obtain ⟨g1, g2⟩ := h.inGet hi hl
    rw [getD_get (xs := i) hy] at g1 g2
    refine Nat.le_of_not_lt fun z => ?_
    have := f4 y g1 z
    unfold fitB at this
    rw [Bool.or_eq_false_iff, decide_eq_false_iff_not] at this
    have hcl : c.l = l := Decidable.of_not_not this.1
    unfold violC at hv
    rw [hcl, getD_get (xs := i) hy, this.2] at hv
    cases hv
theorem eImg_inj {i j : Img} (h : eImg i = eImg j) : i = j := by
  have := enc_img i j
  rw [h] at this
  have h2 := enc_img j j
  rw [decide_eq_true rfl] at h2
  have h3 : PyData.eqv (eImg j) (eImg j) = true := h2
  have h4 : PyData.eqv (eImg j) (eImg j) = decide (i = j) := this
  rw [h3] at h4
  exact of_decide_eq_true h4.symm
theorem minD_le {ps : PS} : ∀ (r : List Img) (i0 : Img), InP ps i0 → (∀ i ∈ r, InP ps i) → ∃ m, eImg m = PySem.W.minD (eImg i0) (r.map eImg) ∧ InP ps m ∧ encP ps m ≤ encP ps i0 ∧ ∀ i ∈ r, encP ps m ≤ encP ps i
  | [], i0, h, _ => ⟨i0, rfl, h, Nat.le_refl _, fun i hi => nomatch hi⟩
  | y :: r, i0, h, hr => by
    have hy := hr y List.mem_cons_self
    by_cases q : encP ps y < encP ps i0
    · obtain ⟨m, h1, h2, h3, h4⟩ := minD_le r y hy fun i hi => hr i (List.mem_cons_of_mem _ hi)
      refine ⟨m, ?_, h2, by omega, fun i hi => ?_⟩
      · rw [h1, List.map_cons]
        unfold PySem.W.minD
        rw [List.foldl_cons, dataLt_img hy h, decide_eq_true q]
        rfl
      · rcases List.mem_cons.mp hi with z | z
        · rw [z]; exact h3
        · exact h4 i z
    · obtain ⟨m, h1, h2, h3, h4⟩ := minD_le r i0 h fun i hi => hr i (List.mem_cons_of_mem _ hi)
      refine ⟨m, ?_, h2, h3, fun i hi => ?_⟩
      · rw [h1, List.map_cons]
        unfold PySem.W.minD
        rw [List.foldl_cons, dataLt_img hy h, decide_eq_false q]
        rfl
      · rcases List.mem_cons.mp hi with z | z
        · rw [z]; omega
        · exact h4 i z
def violW (sts : List (List (List Int))) (ws : List Cond) (i : Img) : Bool := ws.any fun c => violC sts c i
theorem box_find {n : Nat} {sts : List (List (List Int))} {b : Bx} {ws : List Cond} (h : BxSt n sts b) (hw : ∀ c ∈ ws, c.l < n) :
    (candOf sts ws b = [] → ((List.range (bxSize b)).map (bxAt b)).find? (violW sts ws) = none) ∧ ∀ m, isMin (candOf sts ws b) m → ((List.range (bxSize b)).map (bxAt b)).find? (violW sts ws) = some m := by
  have inb : ∀ k, InP (b.1.zip b.2) (bxAt b k) := fun k => by
    rw [bxAt_eq]
    exact decP_in h.okP k
  constructor
  · intro hc
    rw [List.find?_eq_none]
    intro i hi hv
    obtain ⟨k, _, rfl⟩ := List.mem_map.mp hi
    obtain ⟨c, hcw, hcv⟩ := List.any_eq_true.mp hv
    have hn : leastIn b sts (some c) = none := by
      cases q : leastIn b sts (some c) with
      | none => rfl
      | some j =>
        have : j ∈ candOf sts ws b := List.mem_filterMap.mpr ⟨c, hcw, q⟩
        rw [hc] at this
        cases this
    rw [least_none h hn (inb k)] at hcv
    cases hcv
  · rintro m ⟨i0, r, hc, hm, hmin⟩
    have allin : ∀ i ∈ i0 :: r, ∃ c ∈ ws, leastIn b sts (some c) = some i := fun i hi => by
      rw [← hc] at hi
      exact List.mem_filterMap.mp hi
    have allP : ∀ i ∈ i0 :: r, InP (b.1.zip b.2) i := fun i hi => by
      obtain ⟨c, hcw, e⟩ := allin i hi
      exact (least_some h (hw c hcw) e).1
    obtain ⟨m', e1, e2, e3, e4⟩ := minD_le r i0 (allP i0 List.mem_cons_self) fun i hi => allP i (List.mem_cons_of_mem _ hi)
    have em : m = m' := eImg_inj (hmin.trans e1.symm)
    subst em
    have hmv : violW sts ws m = true := by
      rw [hc] at hm
      obtain ⟨c, hcw, e⟩ := allin m hm
      exact List.any_eq_true.mpr ⟨c, hcw, (least_some h (hw c hcw) e).2.1⟩
    have hlt := encP_lt e2
    refine List.find?_eq_some_iff_getElem.mpr ⟨hmv, encP (b.1.zip b.2) m, by rw [List.length_map, List.length_range, bxSize_eq]; exact hlt, ?_, fun j hj => ?_⟩
    · rw [List.getElem_map, List.getElem_range, bxAt_eq, decP_enc e2]
    · rw [List.getElem_map, List.getElem_range]
      cases q : violW sts ws (bxAt b j) with
      | false => rfl
      | true =>
        obtain ⟨c, hcw, hcv⟩ := List.any_eq_true.mp q
        cases q2 : leastIn b sts (some c) with
        | none =>
          rw [least_none h q2 (inb j)] at hcv
          cases hcv
        | some jc =>
          obtain ⟨f1, _, f3⟩ := least_some h (hw c hcw) q2
          have hle := encP_mono f1 (inb j) (f3 _ (inb j) hcv)
          have hjj : encP (b.1.zip b.2) (bxAt b j) = j := by
            rw [bxAt_eq, encP_dec, Nat.mod_eq_of_lt (by omega)]
          have hjm : jc ∈ i0 :: r := by
            rw [← hc]
            exact List.mem_filterMap.mpr ⟨c, hcw, q2⟩
          have : encP (b.1.zip b.2) m ≤ encP (b.1.zip b.2) jc := by
            rcases List.mem_cons.mp hjm with z | z
            · rw [z]; exact e3
            · exact e4 jc z
          omega
theorem broken_go {n : Nat} {sts : List (List (List Int))} {ws : List Cond} (hw : ∀ c ∈ ws, c.l < n) : ∀ (bs : List Bx) (o : Option Img), (∀ b ∈ bs, BxSt n sts b) → BrokenIs sts ws bs o → o = (imgsOf bs).find? (violW sts ws)
  | [], o, _, h => h
  | b :: bs, o, hb, h => by
    obtain ⟨k1, k2⟩ := box_find (hb b List.mem_cons_self) hw
    unfold imgsOf
    rw [List.flatMap_cons, List.find?_append]
    rcases h with ⟨h1, h2⟩ | ⟨h1, i, rfl, h2⟩
    · rw [k1 h1]
      exact broken_go hw bs o (fun x hx => hb x (List.mem_cons_of_mem _ hx)) h2
    · rw [k2 i h2]
      rfl
theorem metW_viol {sz : List Nat} {sts : List (List (List Int))} {i : Img} {c : Cond} (hl : i.length = sz.length) (hc : c.l < sz.length) : c.metW (wordsOf sts i) = !violC sts c i := by
  have q : c.l < i.length := by rw [hl]; exact hc
  have hi : (i : List Nat)[c.l]? = some i[c.l] := List.getElem?_eq_getElem q
  unfold Cond.metW violC wordsOf
  rw [Bool.not_not, List.getD_eq_getElem?_getD (l := i.zipIdx.map _), List.getElem?_map, List.getElem?_zipIdx, hi, getD_get (xs := i) hi, Nat.zero_add]
  rfl
theorem find_congr {α : Type} {p q : α → Bool} : ∀ {xs : List α}, (∀ x ∈ xs, p x = q x) → xs.find? p = xs.find? q
  | [], _ => rfl
  | x :: xs, h => by
    rw [List.find?_cons, List.find?_cons, h x List.mem_cons_self, find_congr fun y hy => h y (List.mem_cons_of_mem _ hy)]
theorem broken_find {sz : List Nat} {cs : List Cmd} {ws : List Cond} {o : Option Img} (h : ∀ c ∈ cs, okCmd sz c) (hw : ∀ c ∈ ws, okCond sz c) (hb : BrokenIs (statesOf (storesOf cs) (blank sz)) ws (boxesOf sz.length cs) o) :
    o = (imgsOf (boxesOf sz.length cs)).find? fun i => !(ws.all fun c => c.metW (contentsOf sz cs i)) := by
  have hwl : ∀ c ∈ ws, c.l < sz.length := fun c hc => by
    obtain ⟨s, h1, _⟩ := hw c hc
    exact (List.getElem?_eq_some_iff.mp h1).1
  rw [broken_go hwl _ o (fun b hb => by
    have ok := (boxes_ok h).1 b hb
    exact ⟨ok.l1, ok.l2, ok.le⟩) hb]
  refine find_congr fun i hi => ?_
  have hl := (img_facts h hi).1
  unfold violW contentsOf
  rw [List.all_eq_not_any_not, Bool.not_not]
  rw [Bool.eq_iff_iff, List.any_eq_true, List.any_eq_true]
  constructor
  · rintro ⟨c, hc, hv⟩
    exact ⟨c, hc, by rw [metW_viol hl (hwl c hc), hv]; rfl⟩
  · rintro ⟨c, hc, hv⟩
    rw [metW_viol hl (hwl c hc), Bool.not_not] at hv
    exact ⟨c, hc, hv⟩
/-! checks, over the images -/
theorem findSome_range {α β : Type} (g : α → Option β) : ∀ xs : List α, (List.range xs.length).findSome? (fun k => (xs[k]?).bind g) = xs.findSome? g
  | [] => rfl
  | x :: xs => by
    have ih := findSome_range g xs
    rw [List.length_cons, List.range_succ_eq_map, List.findSome?_cons, List.findSome?_cons, List.findSome?_map]
    have e : ((fun k => ((x :: xs)[k]?).bind g) ∘ Nat.succ) = fun k => (xs[k]?).bind g := by
      funext k
      show ((x :: xs)[k + 1]?).bind g = _
      rw [List.getElem?_cons_succ]
    rw [e, ih]
    rfl
theorem checkOf_eq (sz : List Nat) (r : List Stp) (good : List Words) (cs : List Cmd) : checkOf sz r good cs = (imgsOf (boxesOf sz.length cs)).findSome? fun i => (lookedFor sz.length r good (contentsOf sz cs i)).map fun p => (i, p.1, p.2) := by
  have e : chkF sz r good cs = fun k => ((imgsOf (boxesOf sz.length cs))[k]?).bind fun i => (lookedFor sz.length r good (contentsOf sz cs i)).map fun p => (i, p.1, p.2) := by
    funext k
    unfold chkF
    rw [imageB_eq]
    cases (imgsOf (boxesOf sz.length cs))[k]? <;> rfl
  unfold checkOf
  rw [countB_eq, e]
  exact findSome_range _ _
theorem everyOf_eq (sz : List Nat) (cs : List Cmd) : everyOf sz cs = (imgsOf (boxesOf sz.length cs)).map (contentsOf sz cs) := by
  unfold everyOf
  apply List.ext_getElem?
  intro k
  rw [List.getElem?_map, List.getElem?_map, countB_eq]
  by_cases q : k < (imgsOf (boxesOf sz.length cs)).length
  · rw [List.getElem?_range q]
    show some (contentsOf sz cs ((imageB (boxesOf sz.length cs) k).getD [])) = _
    rw [imageB_eq, List.getElem?_eq_getElem q]
    rfl
  · rw [List.getElem?_eq_none (by rw [List.length_range]; omega), List.getElem?_eq_none (by omega)]
    rfl
theorem idle_look {sz : List Nat} {good : List Words} {x : Words} (hx : shp sz x) : lookedFor sz.length [] good x = if x ∈ good then none else some (none, x) := by
  have hr : recovered [] x = ([], x) := rfl
  rw [lookedFor_eq, hr]
  by_cases q : x ∈ good
  · rw [if_pos q, if_pos q]
    have hz : (zeros sz.length).zip (zeros sz.length) = List.replicate sz.length (0, 0) := by
      unfold zeros
      rw [List.zip_replicate, Nat.min_self]
    have sz1 : ∀ n, szP (List.replicate n (0, 0)) = 1 := fun n => by
      induction n with
      | zero => rfl
      | succ n ih =>
        rw [List.replicate_succ]
        show wid (0, 0) * szP _ = 1
        rw [ih]
        rfl
    have hs : bxSize (zeros sz.length, zeros sz.length) = 1 := by rw [bxSize_eq, hz, sz1]
    have him : imgsOf (boxesOf sz.length (storeCs [])) = [bxAt (zeros sz.length, zeros sz.length) 0] := by
      show imgsOf [(zeros sz.length, zeros sz.length)] = _
      unfold imgsOf
      rw [List.flatMap_cons, List.flatMap_nil, hs]
      rfl
    have h0 : ∀ c ∈ storeCs [], okCmd sz c := fun c hc => nomatch hc
    have hmem : bxAt (zeros sz.length, zeros sz.length) 0 ∈ imgsOf (boxesOf sz.length (storeCs [])) := by
      rw [him]
      exact List.mem_singleton.mpr rfl
    obtain ⟨h1, h2⟩ := img_facts h0 hmem
    have hw := lawWords_eq (ss := []) hx h1 (fun t ht => nomatch ht) fun l hl => by
      have := h2 l hl
      rw [made_cnt (okLine h0)] at this
      exact this
    rw [him, List.findSome?_cons, List.findSome?_nil]
    unfold lookF
    rw [← hw]
    rw [if_pos (show (recovered [] (lawWords sz.length [] (bxAt (zeros sz.length, zeros sz.length) 0) x)).2 ∈ good from q)]
  · rw [if_neg q, if_neg q]
end Ls

/-! LsW26 -/
set_option maxHeartbeats 4000000
namespace Ls
open PySem PySem.Spec PyProof.Rows L2
def rCut (p : Img × Words) : Rp := rTup [rImg p.1, rWords p.2]
theorem box729 {sz : List Nat} {r : List Stp} {x : Words} (ok : okSz sz) (okr : okLRec sz r) (hx : shp sz x) : ∀ b ∈ boxesOf sz.length (storeCs (recovered r x).1), bxSize b ≤ 729 := fun b hb => by
  have so := recovered_ok hx (okr.rec ok)
  have hlen := rec_len r x
  have hm8 := okr.2.2
  have hcl : (storeCs (recovered r x).1).length ≤ 8 := by
    unfold storeCs
    rw [List.length_map]
    omega
  obtain ⟨bo, pw, hm⟩ := boxes_ok (okCmd_stores so.ok)
  have okb := bo b hb
  rw [bxSize_eq]
  have h1 : szP (b.1.zip b.2) ≤ 9 ^ (b.1.zip b.2).length := szP_le _ fun p hp => by
    obtain ⟨l, hl⟩ := List.mem_iff_getElem?.mp hp
    obtain ⟨q1, q2⟩ := List.getElem?_zip_eq_some.mp hl
    have h2 := okb.md l
    rw [getD_get q2] at h2
    have h3 := hm l
    unfold wid
    omega
  have h2 : (b.1.zip b.2).length ≤ 3 := by rw [okb.zipLen]; exact ok.2.1
  have h3 : 9 ^ (b.1.zip b.2).length ≤ 9 ^ 3 := Nat.pow_le_pow_right (by decide) h2
  have h4 : (9 : Nat) ^ 3 = 729 := by decide
  omega
theorem count_le : ∀ (bs : List Bx), (∀ b ∈ bs, bxSize b ≤ 729) → countB bs ≤ bs.length * 729
  | [], _ => Nat.le_refl _
  | b :: bs, h => by
    have ih := count_le bs fun x hx => h x (List.mem_cons_of_mem _ hx)
    have h1 := h b List.mem_cons_self
    unfold countB at ih ⊢
    rw [List.map_cons, List.sum_cons, List.length_cons, Nat.add_mul]
    omega
theorem cut_count {sz : List Nat} {r : List Stp} {x : Words} (ok : okSz sz) (okr : okLRec sz r) (hx : shp sz x) : countB (boxesOf sz.length (storeCs (recovered r x).1)) ≤ 10000 := by
  have h1 := count_le _ (box729 ok okr hx)
  have h2 := boxesOf_len sz.length (storeCs (recovered r x).1)
  have hlen := rec_len r x
  have hm8 := okr.2.2
  unfold storeCs at h2 h1 ⊢
  rw [List.length_map] at h2
  have : (boxesOf sz.length ((recovered r x).1.map Cmd.store)).length * 729 ≤ 9 * 729 := Nat.mul_le_mul_right _ (by omega)
  omega
section
variable {P : Program} {w : World} {K : PySem.W.Frag} {mg : Str → Option Value} {base : Heap}
theorem ev_settle {F : Fm} {σ : L2.St} {G : Hp} {ta tb : TE} {sz : List Nat} {r : List Stp} {x : Words} (ha : Ev F ta σ G (rRec K sz r)) (hb : Ev F tb σ G (rWords x)) (okr : okRec sz r) (hx : shp sz x) : Ev F (tCall (sp_settle K) [] E0 (tCons ta (tCons tb tNil))) σ G (rWords (settleOf r x)) :=
  ev_call (ea_cons ha (ea_cons hb ea_nil)) fun vs G1 e rs => by
    obtain ⟨_, _, rfl, r1, r2⟩ := all2 rs
    exact ⟨_, _, sz, r, x, rfl, r1, okr, r2, hx, rfl⟩
theorem settle_shp {sz : List Nat} {r : List Stp} {x : Words} (okr : okRec sz r) (hx : shp sz x) : shp sz (settleOf r x) := (recovered_ok hx okr).shp
theorem ev_imgAt {F : Fm} {σ : L2.St} {G : Hp} {i j : Nat} {v u : V} {sz : List Nat} {cs : List Cmd} {k : Nat} {im : Img} (hi : σ[i]? = some (some v)) (hj : σ[j]? = some (some u)) (hv : (rProg K sz cs).p v G) (hu : u = .int k) (ok : okProg sz cs) (him : (imgsOf (boxesOf sz.length cs))[k]? = some im) : Ev F (tCall (sp_image_at K) [] E0 (tCons (tVar i) (tCons (tVar j) tNil))) σ G (rImg im) :=
  ev_call (ea_cons (ev_var hi hv) (ea_cons (ev_var (R := isN k) hj hu) ea_nil)) fun vs G1 e rs => by
    obtain ⟨_, _, rfl, r1, rfl⟩ := all2 rs
    exact ⟨_, k, sz, cs, im, rfl, r1, ok, (okCs_of ok).1, by rw [imageB_eq]; exact him, rfl⟩
theorem ev_cont {F : Fm} {σ : L2.St} {G : Hp} {ta tb : TE} {sz : List Nat} {cs : List Cmd} {im : Img} (ha : Ev F ta σ G (rProg K sz cs)) (hb : Ev F tb σ G (rImg im)) (ok : okProg sz cs) (him : im ∈ imgsOf (boxesOf sz.length cs)) : Ev F (tCall (sp_contents K) [] E0 (tCons ta (tCons tb tNil))) σ G (rWords (contentsOf sz cs im)) :=
  ev_call (ea_cons ha (ea_cons hb ea_nil)) fun vs G1 e rs => by
    obtain ⟨_, _, rfl, r1, r2⟩ := all2 rs
    obtain ⟨h1, h2⟩ := img_facts ok.2.2 him
    exact ⟨_, _, sz, cs, im, rfl, r1, ok, r2, inMade_of h1 h2, okI_of ok.2.2 (blank_len sz) h1 h2, rfl⟩
theorem cont_shp {sz : List Nat} {cs : List Cmd} {im : Img} (ok : okProg sz cs) (him : im ∈ imgsOf (boxesOf sz.length cs)) : shp sz (contentsOf sz cs im) := by
  obtain ⟨h1, h2⟩ := img_facts ok.2.2 him
  exact shp_words shp_blank h1 (okI_of ok.2.2 (blank_len sz) h1 h2)
def sp__law_cut_ends (K : PySem.W.Frag) : Sp := Prom fun vs G R => ∃ (v1 v2 v3 v4 : V) (sz : List Nat) (r : List Stp) (x : Words), vs = [v1, v2, v3, v4] ∧ (rLst (sz.map isN)).p v1 G ∧ okSz sz ∧ (rRec K sz r).p v2 G ∧ (rLst (r.map rLStp)).p v3 G ∧ okLRec sz r ∧ (rWords x).p v4 G ∧ shp sz x ∧ R = rLst ((cutsOf sz.length r x).map rCut)
theorem sc__law_cut_ends : FnScope ["_law_sizes", "_law_recovery_here", "_law_steps", "_law_words_here", "_law_done_here", "_law_end", "_law_moves", "_law_result", "_law_place", "_law_second"] ["_law_sizes", "_law_recovery_here", "_law_steps", "_law_words_here"] (defScope s__law_cut_ends) := ⟨rfl, rfl, rfl, by decide +kernel, rfl, by decide +kernel, by decide +kernel⟩
/- _law_sizes=0 _law_recovery_here=1 _law_steps=2 _law_words_here=3 _law_done_here=4 _law_end=5 _law_moves=6 _law_result=7 _law_place=8 _law_second=9; cells none; level 8 -/
theorem ok__law_cut_ends (T : Tx K mg) : Dk P w K mg base (He.ga K "_law_cut_ends") 8 ["_law_sizes", "_law_recovery_here", "_law_steps", "_law_words_here"] (sp__law_cut_ends K) := by
  refine dk_of (d__law_cut_ends_at T) sc__law_cut_ends (fun _ _ _ _ _ _ us hl => match us, hl with | [_, _, _, _], _ => rfl) (fun vs H Q E h => ?_) (fun cdv A outer s H vs Q E hr h => ⟨_, (pss_cons (ps_asg (pe_fn (ok__law_done T) (hr.mono (by decide)) (g__law_done T) (pa_cons (pv 3) (pa_cons (pv 2) pa_nil))) (pg_tup rfl (pgs_cons (pg_name (i := 4) sc__law_cut_ends.nd rfl (.inl rfl)) (pgs_cons (pg_name (i := 5) sc__law_cut_ends.nd rfl (.inl rfl)) pgs_nil))))
      (pss_cons (ps_set (i := 6) sc__law_cut_ends.nd rfl (.inl rfl) (pe_fn (ok__law_program T) (hr.mono (by decide)) (g__law_program T) (pa_cons (pv 0) (pa_cons (pv 4) pa_nil))))
      (pss_cons (ps_set (i := 7) sc__law_cut_ends.nd rfl (.inl rfl) (pe_lst pa_nil))
      (pss_cons (ps_for PassesOwn.never rfl (pi_range1 (by rfl) (f_range T) (pa_cons (pe_fn (ok_count T) (hr.mono (by decide)) (g_count T) (pa_cons (pv 6) pa_nil)) pa_nil)) (pg_name (i := 8) sc__law_cut_ends.nd rfl (.inl rfl)) (pss_cons (ps_set (i := 9) sc__law_cut_ends.nd rfl (.inl rfl) (pe_fn (ok_image_at T) (hr.mono (by decide)) (g_image_at T) (pa_cons (pv 6) (pa_cons (pv 8) pa_nil))))
      (pss_one (ps_expr (pe_bm PySem.F.plainAttrs_list PySem.F.slot_list_append PySem.F.type_list_append mt_append (pv 7) (pa_cons (pe_tup (pa_cons (pv 9) (pa_cons (pe_fn (ok_settle T) (hr.mono (by decide)) (g_settle T) (pa_cons (pv 1) (pa_cons (pe_fn (ok__law_words T) (hr.mono (by decide)) (g__law_words T) (pa_cons (pv 0) (pa_cons (pv 4) (pa_cons (pv 9) (pa_cons (pv 3) pa_nil))))) pa_nil))) pa_nil))) pa_nil))))))
      (pss_one (ps_ret (pv 7))))))), ?_⟩)
  · obtain ⟨G, R, gh, ⟨v1, v2, v3, v4, sz, r, x, rfl, _⟩, _⟩ := h
    rfl
  · obtain ⟨G, R, gh, ⟨v1, v2, v3, v4, sz, r, x, rfl, h1, ok, h2, h3, okr, h4, hx, rfl⟩, q⟩ := h
    have orr := okr.rec ok
    have so := recovered_ok hx orr
    have hlen := rec_len r x
    have hm8 := okr.2.2
    have oc := okCmd_stores so.ok
    have hcl : (storeCs (recovered r x).1).length ≤ 8 := by
      unfold storeCs
      rw [List.length_map]
      omega
    have okp : okProg sz (storeCs (recovered r x).1) := ⟨ok.mem, by omega, oc⟩
    have xlen : x.length = sz.length := by
      have h := congrArg List.length hx
      rwa [List.length_map] at h
    refine st_asgG (ev_call (R := rTup [rLst ((recovered r x).1.map fun s => rLCmd (.store s)), rWords (recovered r x).2]) (ea_cons (ev_var (i := 3) rfl h4) (ea_cons (ev_var (i := 2) rfl h3) ea_nil)) fun vs G1 e rs => ?_) (At.no gh) fun v0 G1 H1 g1 r1 => ?_
    · obtain ⟨_, _, rfl, r1, r2⟩ := all2 rs
      exact ⟨_, _, sz, r, x, rfl, r1, hx, ok, r2, okr, rfl⟩
    refine g_two r1 g1.gh fun vd ve hd he => ?_
    have emap : ((recovered r x).1.map fun s => rLCmd (.store s)) = (storeCs (recovered r x).1).map rLCmd := by
      unfold storeCs
      rw [List.map_map]
      rfl
    have hd' := hd
    rw [emap] at hd'
    refine st_asg (ev_call (R := rProg K sz (storeCs (recovered r x).1)) (ea_cons (ev_var (i := 0) rfl ((rLst (sz.map isN)).mo _ _ _ g1.gg h1)) (ea_cons (ev_var (i := 4) rfl hd') ea_nil)) fun vs G2 e rs => ?_) g1.at_ fun v6 G2 H2 g2 hp => ?_
    · obtain ⟨_, _, rfl, r1, r2⟩ := all2 rs
      exact ⟨_, _, sz, _, rfl, r1, ok, r2, okp.2.1, oc, rfl⟩
    have g12 := g1.trans g2
    refine st_newA (F := Fm.no) g12 fun L G3 H3 g3 g3' acc3 => ?_
    have hp3 := (rProg K sz (storeCs (recovered r x).1)).mo _ _ _ g3'.gg hp
    have hd3 := (rLst ((recovered r x).1.map fun s => rLCmd (.store s))).mo _ _ _ (g2.gg.trans g3'.gg) hd
    have hcnt := cut_count ok okr hx
    refine st_forB (K := K) g3 (ei_rng1 (n := countB (boxesOf sz.length (storeCs (recovered r x).1))) (ea_cons (ev_call (ea_cons (ev_var (i := 6) rfl hp3) ea_nil) fun vs G4 e rs => ?_) ea_nil) (by omega)) (fun i σ G' H' => ∃ x8 x9, σ = [some v1, some v2, some v3, some v4, some vd, some ve, some v6, some (.ref L), x8, x9] ∧ Acc Fm.no L (((cutsOf sz.length r x).take i).map rCut) H G' H') (fun G' H' g => ⟨_, _, rfl, acc3.gr g⟩) (fun i σ G' H' G1 H1 ⟨x8, x9, e, a⟩ _ g => ⟨x8, x9, e, a.gr g⟩) ?_ ?_
    · obtain ⟨_, rfl, r1⟩ := all1 rs
      exact ⟨_, sz, _, rfl, r1, okp, (okCs_of okp).1, rfl⟩
    · rintro i Y y σ' G4 H4 N hN hY g4 e4 hy ⟨x8, x9, rfl, acc⟩
      obtain ⟨n, hin, hn, rfl⟩ := get_map hY
      have hni : n = i := by
        obtain ⟨hlt, e4⟩ := List.getElem?_eq_some_iff.mp hin
        rw [List.getElem_range] at e4
        exact e4.symm
      subst hni
      have hnb := List.mem_range.mp hn
      rw [countB_eq] at hnb
      have him : (imgsOf (boxesOf sz.length (storeCs (recovered r x).1)))[n]? = some _ := List.getElem?_eq_getElem hnb
      have hmem := List.getElem_mem hnb
      generalize (imgsOf (boxesOf sz.length (storeCs (recovered r x).1)))[n] = im at him hmem
      obtain ⟨f1, f2⟩ := img_facts oc hmem
      have f3 : ∀ l, l < sz.length → im.getD l 0 ≤ cntL (recovered r x).1 l := fun l hl => by
        have := f2 l hl
        rw [made_cnt (okLine oc), storesOf_storeCs] at this
        exact this
      have oi := okI_of oc xlen f1 f2
      rw [storesOf_storeCs] at oi
      have hsw := shp_words hx f1 oi
      have hlw := lawWords_eq hx f1 so.ok f3
      have hcut : (cutsOf sz.length r x)[n]? = some (im, settleOf r (wordsOf (statesOf (recovered r x).1 x) im)) := by
        unfold cutsOf
        rw [List.getElem?_map, him]
        rfl
      have e04 := g4.gg
      refine st_asg (ev_imgAt (i := 6) (j := 8) (k := n) rfl rfl ((rProg K sz _).mo _ _ _ e4 hp3) hy okp him) g4.at_ fun v9 G5 H5 g5 r9 => ?_
      have g45 := g4.trans g5
      have e45 := e04.trans g5.gg
      have hlwE : Ev Fm.no (tCall (sp__law_words K) [] E0 (tCons (tVar 0) (tCons (tVar 4) (tCons (tVar 9) (tCons (tVar 3) tNil))))) [some v1, some v2, some v3, some v4, some vd, some ve, some v6, some (.ref L), some y, some v9] G5 (rWords (wordsOf (statesOf (recovered r x).1 x) im)) := by
        rw [← hlw]
        refine ev_call (ea_cons (ev_var (i := 0) rfl ((rLst (sz.map isN)).mo _ _ _ e45 h1)) (ea_cons (ev_var (i := 4) rfl ((rLst _).mo _ _ _ (e4.trans g5.gg) hd3)) (ea_cons (ev_var (i := 9) rfl r9) (ea_cons (ev_var (i := 3) rfl ((rWords x).mo _ _ _ e45 h4)) ea_nil)))) fun vs G6 e rs => ?_
        obtain ⟨_, _, _, _, rfl, r1, r2, r3, r4⟩ := all4 rs
        exact ⟨_, _, _, _, sz, _, im, x, rfl, r1, ok, r2, by omega, so.ok, r3, f1, r4, hx, rfl⟩
      refine st_appA (i := 7) (R := rCut (im, settleOf r (wordsOf (statesOf (recovered r x).1 x) im))) rfl (acc.gr g5) g45 (ev_tup (ea_cons (ev_var (i := 9) rfl r9) (ea_cons (ev_settle (ev_var (i := 1) rfl ((rRec K sz r).mo _ _ _ e45 h2)) hlwE orr hsw) ea_nil)) (by simp)) (by
        rw [List.length_map, List.length_take]
        rw [← countB_eq] at hnb
        omega) fun G6 H6 g6 e6 acc6 => hN _ _ _ (g5.gg.trans e6) g6 ⟨_, _, rfl, ?_⟩
      rw [List.take_add_one, hcut, List.map_append]
      exact acc6
    · rintro σ' G4 H4 g4 e4 ⟨x8, x9, rfl, acc⟩
      have el : ((List.range (countB (boxesOf sz.length (storeCs (recovered r x).1)))).map isN).length = (cutsOf sz.length r x).length := by
        unfold cutsOf
        rw [List.length_map, List.length_map, List.length_range, countB_eq]
      rw [el, List.take_length] at acc
      obtain ⟨G5, g5, r5⟩ := acc.fin g4
      exact ⟨_, rfl, q _ _ _ g5 r5⟩
theorem ev_cuts {F : Fm} {σ : L2.St} {G : Hp} {i j k l : Nat} {v1 v2 v3 v4 : V} {sz : List Nat} {r : List Stp} {x : Words} (hi : σ[i]? = some (some v1)) (hj : σ[j]? = some (some v2)) (hk : σ[k]? = some (some v3)) (hl : σ[l]? = some (some v4)) (h1 : (rLst (sz.map isN)).p v1 G) (h2 : (rRec K sz r).p v2 G) (h3 : (rLst (r.map rLStp)).p v3 G) (h4 : (rWords x).p v4 G) (ok : okSz sz) (okr : okLRec sz r) (hx : shp sz x) :
    Ev F (tCall (sp__law_cut_ends K) [] E0 (tCons (tVar i) (tCons (tVar j) (tCons (tVar k) (tCons (tVar l) tNil))))) σ G (rLst ((cutsOf sz.length r x).map rCut)) :=
  ev_call (ea_cons (ev_var hi h1) (ea_cons (ev_var hj h2) (ea_cons (ev_var hk h3) (ea_cons (ev_var hl h4) ea_nil)))) fun vs G1 e rs => by
    obtain ⟨_, _, _, _, rfl, r1, r2, r3, r4⟩ := all4 rs
    exact ⟨_, _, _, _, sz, r, x, rfl, r1, ok, r2, r3, okr, r4, hx, rfl⟩
end
end Ls


/-! LsW27 -/
namespace Ls
open PySem PySem.Spec PyProof.Rows L2
theorem every_shp {sz : List Nat} {cs : List Cmd} (ok : okProg sz cs) : ∀ y ∈ everyOf sz cs, shp sz y := fun y hy => by
  rw [everyOf_eq] at hy
  obtain ⟨i, hi, rfl⟩ := List.mem_map.mp hy
  exact cont_shp ok hi
theorem bad_nil {n : Nat} {r : List Stp} {good : List Words} {x : Words} (h : badOf n r good x = []) : settleOf r x ∈ good ∧ ∀ p ∈ cutsOf n r x, p.2 ∈ good := by
  unfold badOf at h
  by_cases q : settleOf r x ∈ good
  · rw [if_pos q, List.map_eq_nil_iff, List.filter_eq_nil_iff] at h
    exact ⟨q, fun p hp => by simpa using h p hp⟩
  · rw [if_neg q] at h
    cases h
section
variable {P : Program} {w : World} {K : PySem.W.Frag} {mg : Str → Option Value} {base : Heap}
theorem ev_every {F : Fm} {σ : L2.St} {G : Hp} {i : Nat} {v : V} {sz : List Nat} {cs : List Cmd} (hi : σ[i]? = some (some v)) (hv : (rProg K sz cs).p v G) (ok : okProg sz cs) (hc : countB (boxesOf sz.length cs) ≤ 1000000) : Ev F (tCall (sp__law_all_words K) [] E0 (tCons (tVar i) tNil)) σ G (rGood (everyOf sz cs)) :=
  ev_call (ea_cons (ev_var hi hv) ea_nil) fun vs G1 e rs => by
    obtain ⟨_, rfl, r1⟩ := all1 rs
    exact ⟨_, sz, cs, rfl, r1, ok, okCs_of ok, hc, rfl⟩
def sp__law_good_holds (K : PySem.W.Frag) : Sp := Prom fun vs G R => ∃ (v1 v2 v3 v4 v5 : V) (sz : List Nat) (cs : List Cmd) (r : List Stp) (good : List Words), vs = [v1, v2, v3, v4, v5] ∧ (rLst (sz.map isN)).p v1 G ∧ okSz sz ∧ (rProg K sz cs).p v2 G ∧ okProg sz cs ∧ countB (boxesOf sz.length cs) ≤ 40 ∧ (rRec K sz r).p v3 G ∧ (rLst (r.map rLStp)).p v4 G ∧ okLRec sz r ∧ (rGood good).p v5 G ∧ (∀ x ∈ everyOf sz cs, badOf sz.length r good x = []) ∧ R = isB true
theorem sc__law_good_holds : FnScope ["_law_sizes", "_law_program_here", "_law_recovery_here", "_law_steps", "_law_good", "_law_words_here", "_law_second", "_law_end"] ["_law_sizes", "_law_program_here", "_law_recovery_here", "_law_steps", "_law_good"] (defScope s__law_good_holds) := ⟨rfl, rfl, rfl, by decide +kernel, rfl, by decide +kernel, by decide +kernel⟩
/- _law_sizes=0 _law_program_here=1 _law_recovery_here=2 _law_steps=3 _law_good=4 _law_words_here=5 _law_second=6 _law_end=7; cells none; level 9 -/
theorem ok__law_good_holds (T : Tx K mg) : Dk P w K mg base (He.ga K "_law_good_holds") 9 ["_law_sizes", "_law_program_here", "_law_recovery_here", "_law_steps", "_law_good"] (sp__law_good_holds K) := by
  refine dk_of (d__law_good_holds_at T) sc__law_good_holds (fun _ _ _ _ _ _ us hl => match us, hl with | [_, _, _, _, _], _ => rfl) (fun vs H Q E h => ?_) (fun cdv A outer s H vs Q E hr h => ⟨_, (pss_cons (ps_for PassesOwn.never rfl (pi_list (pe_fn (ok__law_all_words T) (hr.mono (by decide)) (g__law_all_words T) (pa_cons (pv 1) pa_nil))) (pg_name (i := 5) sc__law_good_holds.nd rfl (.inl rfl)) (pss_cons (ps_if (pt_cmpR (op_notInD (hu65 hr)) (pe_fn (ok_settle T) (hr.mono (by decide)) (g_settle T) (pa_cons (pv 2) (pa_cons (pv 5) pa_nil))) (pv 4) (by rfl)) (pss_one (ps_ret pe_bl)) pss_nil)
      (pss_one (ps_for PassesOwn.never rfl (pi_list (pe_fn (ok__law_cut_ends T) (hr.mono (by decide)) (g__law_cut_ends T) (pa_cons (pv 0) (pa_cons (pv 2) (pa_cons (pv 3) (pa_cons (pv 5) pa_nil)))))) (pg_tup rfl (pgs_cons (pg_name (i := 6) sc__law_good_holds.nd rfl (.inl rfl)) (pgs_cons (pg_name (i := 7) sc__law_good_holds.nd rfl (.inl rfl)) pgs_nil))) (pss_one (ps_if (pt_cmpR (op_notInD (hu65 hr)) (pv 7) (pv 4) (by rfl)) (pss_one (ps_ret pe_bl)) pss_nil))))))
      (pss_one (ps_ret pe_bl))), ?_⟩)
  · obtain ⟨G, R, gh, ⟨v1, v2, v3, v4, v5, sz, cs, r, good, rfl, _⟩, _⟩ := h
    rfl
  · obtain ⟨G, R, gh, ⟨v1, v2, v3, v4, v5, sz, cs, r, good, rfl, h1, ok, h2, okp, hcnt, h3, h4, okr, h5, hb, rfl⟩, q⟩ := h
    have orr := okr.rec ok
    refine st_forB (K := K) (F := Fm.no) (Ys := (everyOf sz cs).map rWords) (Gr.refl (At.no gh)) (ei_list (ev_every (i := 1) rfl h2 okp (by omega))) (fun i σ G' H' => ∃ x5 x6 x7, σ = [some v1, some v2, some v3, some v4, some v5, x5, x6, x7]) (fun _ _ _ => ⟨_, _, _, rfl⟩) (fun i σ G' H' G1 H1 p _ _ => p) ?_ ?_
    · rintro i Y y σ' G1 H1 N hN hY g1 e1 hy ⟨x5, x6, x7, rfl⟩
      obtain ⟨x, hi, hxm, rfl⟩ := get_map hY
      have hx := every_shp okp x hxm
      obtain ⟨b1, b2⟩ := bad_nil (hb x hxm)
      have ef := g1.gg
      refine st_if (B := (· = false)) ((et_test (ev_niG (ev_settle (ev_var (i := 2) rfl ((rRec K sz r).mo _ _ _ ef h3)) (ev_var (i := 5) rfl hy) orr hx) (ev_var (i := 4) rfl ((rGood good).mo _ _ _ ef h5)))).to (by rw [decide_eq_true b1]; rfl)) g1.at_ (fun G2 H2 g2 z => nomatch z) fun G2 H2 g2 _ => ?_
      have g12 := g1.trans g2
      have ef2 := g12.gg
      have hy2 := (rWords x).mo _ _ _ g2.gg hy
      refine st_forB (K := K) g12 (ei_list (ev_cuts (i := 0) (j := 2) (k := 3) (l := 5) rfl rfl rfl rfl ((rLst (sz.map isN)).mo _ _ _ ef2 h1) ((rRec K sz r).mo _ _ _ ef2 h3) ((rLst (r.map rLStp)).mo _ _ _ ef2 h4) hy2 ok okr hx)) (fun i σ G' H' => ∃ x6 x7, σ = [some v1, some v2, some v3, some v4, some v5, some y, x6, x7]) (fun _ _ _ => ⟨_, _, rfl⟩) (fun i σ G' H' G1 H1 p _ _ => p) ?_ ?_
      · rintro j Z z σ' G3 H3 M hM hZ g3 e3 hz ⟨y6, y7, rfl⟩
        obtain ⟨p, hj, hp, rfl⟩ := get_map hZ
        refine g_two hz g3.gh fun vi ve _ he => ?_
        refine st_if (B := (· = false)) ((et_test (ev_niG (ev_var (i := 7) rfl he) (ev_var (i := 4) rfl ((rGood good).mo _ _ _ g3.gg h5)))).to (by rw [decide_eq_true (b2 p hp)]; rfl)) g3.at_ (fun G4 H4 g4 z => nomatch z) fun G4 H4 g4 _ => hM _ _ _ g4.gg (g3.trans g4) ⟨_, _, rfl⟩
      · rintro σ3 G3 H3 g3 e3 ⟨y6, y7, rfl⟩
        exact hN _ _ _ (g2.gg.trans e3) g3 ⟨_, _, _, rfl⟩
    · rintro σ' G1 H1 g1 _ ⟨x5, x6, x7, rfl⟩
      exact q _ _ _ g1 rfl
theorem filter_cuts (good : List Words) (ps : List (Img × Words)) : ((ps.filter fun p => !decide (p.2 ∈ good)).map rCut) = (((ps.filter fun p => !decide (p.2 ∈ good)).map fun p => ((some p.1, p.2) : Option Img × Words)).map rPair) := by
  rw [List.map_map]
  rfl
theorem sh_pairs (bs : List (Option Img × Words)) : Sh 4 (.list (bs.map ePair)) := sh_map (fun _ => sh_pr) bs
theorem dat_pairs (bs : List (Option Img × Words)) : Dat K (rLst (bs.map rPair)) (.list (bs.map ePair)) := dat_lst (dat_map (fun _ => dat_pr) bs)
theorem ev_badNil {F : Fm} {σ : L2.St} {G : Hp} {te : TE} {bs : List (Option Img × Words)} (h : Ev F te σ G (rLst (bs.map rPair))) : Ev F (tOp (rEqD K) te (tLst tNil)) σ G (isB (decide (bs = []))) :=
  ev_to (ev_eqD (K := K) (d := .list (bs.map ePair)) (e := .list []) h (ev_lst ea_nil (by simp)) (dat_pairs bs) (dat_lst .nil) (sh_pairs bs) (sh_lst (n := 1) fun d hd => nomatch hd)) (congrArg isB (enc_lst enc_pr bs []))
theorem ev_badNe {F : Fm} {σ : L2.St} {G : Hp} {te : TE} {bs : List (Option Img × Words)} (h : Ev F te σ G (rLst (bs.map rPair))) : Ev F (tOp (rNeD K) te (tLst tNil)) σ G (isB (!decide (bs = []))) :=
  ev_to (ev_neD (K := K) (d := .list (bs.map ePair)) (e := .list []) h (ev_lst ea_nil (by simp)) (dat_pairs bs) (dat_lst .nil) (sh_pairs bs) (sh_lst (n := 1) fun d hd => nomatch hd)) (congrArg (fun z => isB (!z)) (enc_lst enc_pr bs []))
def sp__law_failed_holds (K : PySem.W.Frag) : Sp := Prom fun vs G R => ∃ (v1 v2 v3 v4 v5 v6 : V) (sz : List Nat) (cs : List Cmd) (r : List Stp) (good : List Words) (im : Img) (k : Nat) (p : Option Img × Words) (rest : List (Option Img × Words)), vs = [v1, v2, v3, v4, v5, v6] ∧ (rLst (sz.map isN)).p v1 G ∧ okSz sz ∧ (rProg K sz cs).p v2 G ∧ okProg sz cs ∧ countB (boxesOf sz.length cs) ≤ 40 ∧ (rRec K sz r).p v3 G ∧ (rLst (r.map rLStp)).p v4 G ∧ okLRec sz r ∧ (rGood good).p v5 G ∧ (rFail K im p.1 p.2).p v6 G ∧
  (imgsOf (boxesOf sz.length cs))[k]? = some im ∧ badOf sz.length r good (contentsOf sz cs im) = p :: rest ∧ (∀ j i, j < k → (imgsOf (boxesOf sz.length cs))[j]? = some i → badOf sz.length r good (contentsOf sz cs i) = []) ∧ R = isB true
theorem sc__law_failed_holds : FnScope ["_law_sizes", "_law_program_here", "_law_recovery_here", "_law_steps", "_law_good", "_law_found", "_law_place", "_law_before", "_law_words_here", "_law_end", "_law_bad", "_law_pair"] ["_law_sizes", "_law_program_here", "_law_recovery_here", "_law_steps", "_law_good", "_law_found"] (defScope s__law_failed_holds) := ⟨rfl, rfl, rfl, by decide +kernel, rfl, by decide +kernel, by decide +kernel⟩
/- _law_sizes=0 _law_program_here=1 _law_recovery_here=2 _law_steps=3 _law_good=4 _law_found=5 _law_place=6 _law_before=7 _law_words_here=8 _law_end=9 _law_bad=10 _law_pair=11; cells _law_good; level 9 -/
theorem ok__law_failed_holds (T : Tx K mg) : Dk P w K mg base (He.ga K "_law_failed_holds") 9 ["_law_sizes", "_law_program_here", "_law_recovery_here", "_law_steps", "_law_good", "_law_found"] (sp__law_failed_holds K) := by
  refine dk_of (d__law_failed_holds_at T) sc__law_failed_holds (fun _ _ _ _ _ _ us hl => match us, hl with | [_, _, _, _, _, _], _ => rfl) (fun vs H Q E h => ?_) (fun cdv A outer s H vs Q E hr h => ⟨_, (pss_cons (ps_set (i := 6) sc__law_failed_holds.nd rfl (.inl rfl) (pe_fn (ok_place_of T) (hr.mono (by decide)) (g_place_of T) (pa_cons (pv 1) (pa_cons (pe_fld (pv 5) rfl) pa_nil))))
      (pss_cons (ps_if (pt_cmpR op_isN1 (pv 6) pe_non (nomark _)) (pss_one (ps_ret pe_bl)) pss_nil)
      (pss_cons (ps_for PassesOwn.never rfl (pi_range1 (by rfl) (f_range T) (pa_cons (pe_op op_add (pv 6) pe_int) pa_nil)) (pg_name (i := 7) sc__law_failed_holds.nd rfl (.inl rfl)) (pss_cons (ps_set (i := 8) sc__law_failed_holds.nd rfl (.inl rfl) (pe_fn (ok_contents T) (hr.mono (by decide)) (g_contents T) (pa_cons (pv 1) (pa_cons (pe_fn (ok_image_at T) (hr.mono (by decide)) (g_image_at T) (pa_cons (pv 1) (pa_cons (pv 7) pa_nil))) pa_nil))))
      (pss_cons (ps_set (i := 9) sc__law_failed_holds.nd rfl (.inl rfl) (pe_fn (ok_settle T) (hr.mono (by decide)) (g_settle T) (pa_cons (pv 2) (pa_cons (pv 8) pa_nil))))
      (pss_cons (ps_set (i := 10) sc__law_failed_holds.nd rfl (.inl rfl) (pe_ifExp (pt_cmpR (op_inD (hu65 hr)) (pv 9) (pv 4) (by rfl)) (pe_lst pa_nil) (pe_lst (pa_cons (pe_tup (pa_cons pe_non (pa_cons (pv 9) pa_nil))) pa_nil))))
      (pss_cons (ps_if (pt_cmpR (op_eqD hr.units) (pv 10) (pe_lst pa_nil) (nomark _)) (pss_one (ps_setLc (i := 10) (own := [("_law_pair", 11)]) (g := gName 11) rfl sc__law_failed_holds.nd rfl rfl (sw_true rfl rfl rfl (by kernel_rfl)) (pi_list (pe_fn (ok__law_cut_ends T) (hr.mono (by decide)) (g__law_cut_ends T) (pa_cons (pv 0) (pa_cons (pv 2) (pa_cons (pv 3) (pa_cons (pv 8) pa_nil)))))) (blkOk_by (by kernel_rfl)) (fun _ _ _ _ _ => (pg_name (i := 11) sc__law_failed_holds.nd rfl (.inl rfl))) (fun _ _ _ _ _ => (pts_one (pt_cmpR (k_op_notInD (K := K) rfl (hu65 hr)) (pe_ix (k_ix_tup (K := K) rfl) (pv 11) pe_int (fun _ _ => rfl)) (pv 4) (by rfl)))) (fun _ _ _ _ _ => (pv 11)))) pss_nil)
      (pss_cons (ps_if (PW.pt (pw_and (pt_cmpR op_lt (pv 7) (pv 6) (nomark _)) (pw_and1 (pt_cmpR (op_neD hr.units) (pv 10) (pe_lst pa_nil) (nomark _))))) (pss_one (ps_ret pe_bl)) pss_nil)
      (pss_one (ps_if (PW.pt (pw_and (pt_cmpR op_eq (pv 7) (pv 6) (nomark _)) (pw_and1 (PW.pt (pw_or (pt_cmpR (op_eqD hr.units) (pv 10) (pe_lst pa_nil) (nomark _)) (pw_or1 (pt_cmpR (op_neD hr.units) (pe_ix ix_list (pv 10) pe_int (fun _ _ => rfl)) (pe_tup (pa_cons (pe_fld (pv 5) rfl) (pa_cons (pe_fld (pv 5) rfl) pa_nil))) (nomark _)))))))) (pss_one (ps_ret pe_bl)) pss_nil))))))))
      (pss_one (ps_ret pe_bl))))), ?_⟩)
  · obtain ⟨G, R, gh, ⟨v1, v2, v3, v4, v5, v6, sz, cs, r, good, im, k, p, rest, rfl, _⟩, _⟩ := h
    rfl
  · obtain ⟨G, R, gh, ⟨v1, v2, v3, v4, v5, v6, sz, cs, r, good, im, k, p, rest, rfl, h1, ok, h2, okp, hcnt, h3, h4, okr, h5, h6, hk, hbk, hbj, rfl⟩, q⟩ := h
    have orr := okr.rec ok
    have hmk := List.mem_of_getElem? hk
    obtain ⟨f1, f2⟩ := img_facts okp.2.2 hmk
    obtain ⟨bo, pw, _⟩ := boxes_ok okp.2.2
    have hpl : placeB (boxesOf sz.length cs) 0 im = some k := by
      rw [placeB_eq _ 0 k im bo pw hk, Nat.zero_add]
    refine st_asg (ev_call (R := isN k) (ea_cons (ev_var (i := 1) rfl h2) (ea_cons (ev_fld (R := rImg im) (c_Failed T) (n_Failed_image T) (ev_var (i := 5) rfl h6) rfl) ea_nil)) fun vs G1 e rs => ?_) (At.no gh) fun v7 G1 H1 g1 r7 => ?_
    · obtain ⟨_, _, rfl, r1, r2⟩ := all2 rs
      exact ⟨_, _, sz, cs, im, rfl, r1, okp, (okCs_of okp).1, r2, inMade_of f1 f2, by rw [hpl]; rfl⟩
    cases r7
    refine st_if (B := (· = false)) (et_isN (ev_var (R := isN k) (i := 6) rfl rfl) fun v G r => by cases r; rfl) g1.at_ (fun G2 H2 g2 z => nomatch z) fun G2 H2 g2 _ => ?_
    have g12 := g1.trans g2
    have hkl : k < (imgsOf (boxesOf sz.length cs)).length := (List.getElem?_eq_some_iff.mp hk).1
    have hcl := countB_eq (boxesOf sz.length cs)
    refine st_forB (K := K) g12 (ei_rng1 (n := k + 1) (ea_cons (ev_p1 (ev_var (R := isN k) (i := 6) rfl rfl)) ea_nil) (by omega)) (fun i σ G' H' => ∃ x7 x8 x9 x10 x11, σ = [some v1, some v2, some v3, some v4, some v5, some v6, some (.int k), x7, x8, x9, x10, x11]) (fun _ _ _ => ⟨_, _, _, _, _, rfl⟩) (fun i σ G' H' G1 H1 p _ _ => p) ?_ ?_
    · rintro i Y y σ' G3 H3 N hN hY g3 e3 hy ⟨x7, x8, x9, x10, x11, rfl⟩
      obtain ⟨n, hin, hn, rfl⟩ := get_map hY
      have hnk := List.mem_range.mp hn
      have hnb : n < (imgsOf (boxesOf sz.length cs)).length := by omega
      have him : (imgsOf (boxesOf sz.length cs))[n]? = some _ := List.getElem?_eq_getElem hnb
      generalize (imgsOf (boxesOf sz.length cs))[n] = i2 at him
      have hmem := List.mem_of_getElem? him
      have hx := cont_shp okp hmem
      have ef := g3.gg
      have h2' := (rProg K sz cs).mo _ _ _ ef h2
      refine st_asg (ev_cont (ev_var (i := 1) rfl h2') (ev_imgAt (i := 1) (j := 7) (k := n) rfl rfl h2' hy okp him) okp hmem) g3.at_ fun v8 G4 H4 g4 r8 => ?_
      have g34 := g3.trans g4
      have ef4 := g34.gg
      refine st_asg (ev_settle (ev_var (i := 2) rfl ((rRec K sz r).mo _ _ _ ef4 h3)) (ev_var (i := 8) rfl r8) orr hx) g4.at_ fun v9 G5 H5 g5 r9 => ?_
      have g35 := g34.trans g5
      have ef5 := g35.gg
      generalize hbo : badOf sz.length r good (contentsOf sz cs i2) = bo
      have hbad1 : ∀ B : List (Option Img × Words), B = (if settleOf r (contentsOf sz cs i2) ∈ good then [] else [(none, settleOf r (contentsOf sz cs i2))]) → Ev Fm.no (tIf (tTest (tOp (rInD K) (tVar 9) (tVar 4))) (tLst tNil) (tLst (tCons (tTup (tCons (tC .non) (tCons (tVar 9) tNil))) tNil))) [some v1, some v2, some v3, some v4, some v5, some v6, some (.int k), some y, some v8, some v9, x10, x11] G5 (rLst (B.map rPair)) := fun B hB => by
        refine ev_if (B := (· = decide (settleOf r (contentsOf sz cs i2) ∈ good))) (et_test (ev_inG (ev_var (i := 9) rfl r9) (ev_var (i := 4) rfl ((rGood good).mo _ _ _ ef5 h5)))) (fun z => ?_) fun z => ?_
        · rw [hB, if_pos (of_decide_eq_true z.symm)]
          exact ev_lst ea_nil (by simp)
        · rw [hB, if_neg (of_decide_eq_false z.symm)]
          exact ev_lst (ea_cons (ev_tup (ea_cons ev_c (ea_cons (ev_var (R := rWords (settleOf r (contentsOf sz cs i2))) (i := 9) rfl r9) ea_nil)) (by simp)) ea_nil) (by simp)
      have hbl : n < k → bo = [] := fun z => by
        rw [← hbo]
        exact hbj n i2 z him
      have hbe : n = k → bo = p :: rest := fun z => by
        subst z
        rw [him] at hk
        cases hk
        rw [← hbo]
        exact hbk
      -- what follows, with the list of bad ends at hand
      have tail : ∀ (D : Ends) (G7 H7 : Hp) (vb : V) (x11 : Option V), (∀ σ3 G3' H3', Ex G3 G3' → Gr Fm.no G H G3' H3' → (∃ x7 x8 x9 x10 x11, σ3 = [some v1, some v2, some v3, some v4, some v5, some v6, some (.int k), x7, x8, x9, x10, x11]) → D.nx σ3 H3') → Gr Fm.no G3 H3 G7 H7 → (rLst (bo.map rPair)).p vb G7 →
          tSeq (tIfS (tAnd (tTest (tOp (rI0 fun i j => .bl (decide (i < j))) (tVar 7) (tVar 6))) (tTest (tOp (rNeD K) (tVar 10) (tLst tNil)))) (tRet (tC (.bl false))) tNext) (tIfS (tAnd (tTest (tOp rEq (tVar 7) (tVar 6))) (tOr (tTest (tOp (rEqD K) (tVar 10) (tLst tNil))) (tTest (tOp (rNeD K) (tOp (rIxL K) (tVar 10) (tC (.int (0 : Nat)))) (tTup (tCons (tFld K (tVar 5) "second") (tCons (tFld K (tVar 5) "words") tNil))))))) (tRet (tC (.bl false))) tNext) D [some v1, some v2, some v3, some v4, some v5, some v6, some (.int k), some y, some v8, some v9, some vb, x11] H7 := fun D G7 H7 vb x11 hN g7 rb => by
        have hyv : y = .int n := hy
        have g07 := g3.trans g7
        refine st_if (B := (· = false)) ((et_and (a := decide (n < k)) (b := !decide (bo = [])) ((et_test (ev_T0 (ev_var (R := isN n) (i := 7) rfl hyv) (ev_var (R := isN k) (i := 6) rfl rfl))).to (decide_eq_decide.mpr (by omega))) fun _ => et_test (ev_badNe (ev_var (i := 10) rfl rb))).to ?_) g07.at_ (fun G8 H8 g8 z => nomatch z) fun G8 H8 g8 _ => ?_
        · by_cases z : n < k
          · rw [hbl z, decide_eq_true rfl]
            simp
          · rw [decide_eq_false z]
            rfl
        have rb8 := (rLst (bo.map rPair)).mo _ _ _ g8.gg rb
        have h68 := (rFail K im p.1 p.2).mo _ _ _ (g07.trans g8).gg h6
        refine st_if (B := (· = false)) ((et_and (a := decide (n = k)) (b := false) ((et_test (ev_to (ev_eq (ev_var (R := isN n) (i := 7) rfl hyv) (ev_var (R := isN k) (i := 6) rfl rfl) rfl) ?_))) fun z => ?_).to (Bool.and_false _)) g8.at_ (fun G9 H9 g9 z => nomatch z) fun G9 H9 g9 _ => hN _ _ _ (g7.gg.trans (g8.gg.trans g9.gg)) ((g07.trans g8).trans g9) ⟨_, _, _, _, _, rfl⟩
        · congr 1
          refine decide_eq_decide.mpr ⟨fun z => ?_, fun z => by rw [z]⟩
          injection z with z
          omega
        · have hb := hbe (of_decide_eq_true z)
          rw [hb] at rb8
          refine (et_or (a := false) (b := false) ((et_test (ev_badNil (bs := p :: rest) (ev_var (i := 10) rfl rb8))).to (by simp)) fun _ => (et_test (ev_neD (K := K) (d := ePair p) (e := ePair p) (ev_ixL (R := rPair p) (Rs := (p :: rest).map rPair) (ev_var (i := 10) rfl rb8) ev_c rfl) (ev_tup (ea_cons (ev_fld (R := rOpt rImg p.1) (c_Failed T) (n_Failed_second T) (ev_var (i := 5) rfl h68) rfl) (ea_cons (ev_fld (R := rWords p.2) (c_Failed T) (n_Failed_words T) (ev_var (i := 5) rfl h68) rfl) ea_nil)) (by simp)) dat_pr dat_pr sh_pr sh_pr)).to ?_).to rfl
          have := enc_pr p p
          have h2 : PyData.eqv (ePair p) (ePair p) = decide (p = p) := this
          rw [h2, decide_eq_true rfl]
          rfl
      refine st_asg (hbad1 _ rfl) g5.at_ fun v10 G6 H6 g6 r10 => ?_
      have g36 := g35.trans g6
      have ef6 := g36.gg
      have g46 := (g4.trans g5).trans g6
      refine st_if (B := (· = decide (settleOf r (contentsOf sz cs i2) ∈ good))) ((et_test (ev_badNil (ev_var (i := 10) rfl r10))).to ?_) g6.at_ (fun G7 H7 g7 e7 => ?_) fun G7 H7 g7 e7 => ?_
      · by_cases z : settleOf r (contentsOf sz cs i2) ∈ good
        · rw [if_pos z, decide_eq_true z, decide_eq_true rfl]
        · rw [if_neg z, decide_eq_false z]
          simp
      · have hg := of_decide_eq_true e7.symm
        have ef7 := (g36.trans g7).gg
        have hg5 := (rGood good).mo _ _ _ ef7 h5
        refine st_asg (R := rLst (bo.map rPair)) (ev_to (ev_lcF (j := 11) (vs := [11]) (cutsOf sz.length r (contentsOf sz cs i2)) rCut rCut (fun p => !decide (p.2 ∈ good)) (ei_list (ev_cuts (i := 0) (j := 2) (k := 3) (l := 8) rfl rfl rfl rfl ((rLst (sz.map isN)).mo _ _ _ ef7 h1) ((rRec K sz r).mo _ _ _ ef7 h3) ((rLst (r.map rLStp)).mo _ _ _ ef7 h4) ((rWords _).mo _ _ _ ((g5.gg.trans g6.gg).trans g7.gg) r8) ok okr hx)) ?_ (fun _ => rfl) (fun pp hpp x G8 e rx => et_test (ev_niG (ev_ixT (R := rWords pp.2) (i := 1) (ev_var (i := 11) rfl rx) ev_c rfl) (ev_var (i := 4) rfl ((rGood good).mo _ _ _ e hg5)))) fun pp hpp x G8 e rx _ => ev_var (i := 11) rfl rx) ?_) g7.at_ fun v11 G8 H8 g8 r11 => ?_
        · unfold cutsOf
          rw [List.length_map, ← countB_eq]
          have := cut_count ok okr hx
          omega
        · rw [filter_cuts, ← hbo]
          unfold badOf
          rw [if_pos hg]
        · exact tail _ G8 H8 v11 _ hN ((g46.trans g7).trans g8) r11
      · have hg := of_decide_eq_false e7.symm
        refine tail _ G7 H7 v10 _ hN (g46.trans g7) ?_
        rw [← hbo]
        unfold badOf
        rw [if_neg hg]
        rw [if_neg hg] at r10
        exact (rLst _).mo _ _ _ g7.gg r10
    · rintro σ' G3 H3 g3 _ ⟨x7, x8, x9, x10, x11, rfl⟩
      exact q _ _ _ g3 rfl
end
end Ls


/-! LsW28 -/
namespace Ls
open PySem PySem.Spec PyProof.Rows L2
theorem check_none {sz : List Nat} {r : List Stp} {good : List Words} {cs : List Cmd} (h : checkOf sz r good cs = none) : ∀ x ∈ everyOf sz cs, badOf sz.length r good x = [] := fun x hx => by
  rw [everyOf_eq] at hx
  obtain ⟨i, hi, rfl⟩ := List.mem_map.mp hx
  rw [checkOf_eq, List.findSome?_eq_none_iff] at h
  have := h i hi
  rw [lookedFor_bad, Option.map_eq_none_iff, List.head?_eq_none_iff] at this
  exact this
theorem findSome_split {α β : Type} {f : α → Option β} : ∀ {xs : List α} {b : β}, xs.findSome? f = some b → ∃ (k : Nat) (x : α), xs[k]? = some x ∧ f x = some b ∧ ∀ (j : Nat) (y : α), j < k → xs[j]? = some y → f y = none
  | [], b, h => by simp at h
  | x :: xs, b, h => by
    rw [List.findSome?_cons] at h
    cases q : f x with
    | some c =>
      rw [q] at h
      exact ⟨0, x, rfl, by rw [q]; exact h, fun j y hj => absurd hj (Nat.not_lt_zero _)⟩
    | none =>
      rw [q] at h
      obtain ⟨k, y, h1, h2, h3⟩ := findSome_split h
      refine ⟨k + 1, y, by simpa using h1, h2, fun j z hj hz => ?_⟩
      cases j with
      | zero =>
        have e : x = z := by simpa using hz
        rw [← e]
        exact q
      | succ j => exact h3 j z (by omega) (by simpa using hz)
theorem check_some {sz : List Nat} {r : List Stp} {good : List Words} {cs : List Cmd} {im : Img} {p : Option Img × Words} (h : checkOf sz r good cs = some (im, p)) : ∃ (k : Nat) (rest : List (Option Img × Words)), (imgsOf (boxesOf sz.length cs))[k]? = some im ∧ badOf sz.length r good (contentsOf sz cs im) = p :: rest ∧ ∀ (j : Nat) (i : Img), j < k → (imgsOf (boxesOf sz.length cs))[j]? = some i → badOf sz.length r good (contentsOf sz cs i) = [] := by
  rw [checkOf_eq] at h
  obtain ⟨k, i, h1, h2, h3⟩ := findSome_split h
  rw [lookedFor_bad] at h2
  obtain ⟨b, hb, e⟩ := Option.map_eq_some_iff.mp h2
  cases e
  obtain ⟨rest, hr⟩ := List.head?_eq_some_iff.mp hb
  refine ⟨k, rest, h1, hr, fun j y hj hy => ?_⟩
  have := h3 j y hj hy
  rw [lookedFor_bad, Option.map_eq_none_iff, List.head?_eq_none_iff] at this
  exact this
def okGood (sz : List Nat) (g : List Words) : Prop := g.length ≤ 1000 ∧ ∀ y ∈ g, shp sz y
section
variable {P : Program} {w : World} {K : PySem.W.Frag} {mg : Str → Option Value} {base : Heap}
theorem ev_check {F : Fm} {σ : L2.St} {G : Hp} {ta tb tc : TE} {sz : List Nat} {cs : List Cmd} {r : List Stp} {good : List Words} (ha : Ev F ta σ G (rProg K sz cs)) (hb : Ev F tb σ G (rRec K sz r)) (hc : Ev F tc σ G (rGood good)) (ok : okSz sz) (okp : okProg sz cs) (okr : okLRec sz r) (hg : okGood sz good) (hcnt : countB (boxesOf sz.length cs) ≤ 40) :
    Ev F (tCall (sp_check K) [] E0 (tCons ta (tCons tb (tCons tc tNil)))) σ G (rFailO K (checkOf sz r good cs)) :=
  ev_call (ea_cons ha (ea_cons hb (ea_cons hc ea_nil))) fun vs G1 e rs => by
    obtain ⟨_, _, _, rfl, r1, r2, r3⟩ := all3 rs
    exact ⟨_, _, _, sz, cs, r, good, rfl, r1, okp, r2, okr.rec ok, r3, hg.1, hg.2, okCs_of okp, by omega, fun i _ hx => okRecImgs_of ok okr hx, rfl⟩
theorem failO_non {K : PySem.W.Frag} {o : Option (Img × Option Img × Words)} : ∀ v G, (rFailO K o).p v G → decide (v = .non) = o.isNone := fun v G h => by
  cases o with
  | none =>
    cases h
    rfl
  | some p =>
    obtain ⟨_, _, _, rfl, _⟩ := h
    rfl
def sp__law_check_holds (K : PySem.W.Frag) : Sp := Prom fun vs G R => ∃ (v1 v2 v3 v4 v5 : V) (sz : List Nat) (cs : List Cmd) (r : List Stp) (good : List Words), vs = [v1, v2, v3, v4, v5] ∧ (rLst (sz.map isN)).p v1 G ∧ okSz sz ∧ (rProg K sz cs).p v2 G ∧ okProg sz cs ∧ countB (boxesOf sz.length cs) ≤ 40 ∧ (rRec K sz r).p v3 G ∧ (rLst (r.map rLStp)).p v4 G ∧ okLRec sz r ∧ (rGood good).p v5 G ∧ okGood sz good ∧ R = isB true
theorem sc__law_check_holds : FnScope ["_law_sizes", "_law_program_here", "_law_recovery_here", "_law_steps", "_law_good", "_law_found"] ["_law_sizes", "_law_program_here", "_law_recovery_here", "_law_steps", "_law_good"] (defScope s__law_check_holds) := ⟨rfl, rfl, rfl, by decide +kernel, rfl, by decide +kernel, by decide +kernel⟩
/- _law_sizes=0 _law_program_here=1 _law_recovery_here=2 _law_steps=3 _law_good=4 _law_found=5; cells none; level 10 -/
theorem ok__law_check_holds (T : Tx K mg) : Dk P w K mg base (He.ga K "_law_check_holds") 10 ["_law_sizes", "_law_program_here", "_law_recovery_here", "_law_steps", "_law_good"] (sp__law_check_holds K) := by
  refine dk_of (d__law_check_holds_at T) sc__law_check_holds (fun _ _ _ _ _ _ us hl => match us, hl with | [_, _, _, _, _], _ => rfl) (fun vs H Q E h => ?_) (fun cdv A outer s H vs Q E hr h => ⟨_, (pss_cons (ps_set (i := 5) sc__law_check_holds.nd rfl (.inl rfl) (pe_fn (ok_check T) (hr.mono (by decide)) (g_check T) (pa_cons (pv 1) (pa_cons (pv 2) (pa_cons (pv 4) pa_nil)))))
      (pss_cons (ps_if (pt_cmpR op_isN1 (pv 5) pe_non (nomark _)) (pss_one (ps_ret (pe_fn (ok__law_good_holds T) (hr.mono (by decide)) (g__law_good_holds T) (pa_cons (pv 0) (pa_cons (pv 1) (pa_cons (pv 2) (pa_cons (pv 3) (pa_cons (pv 4) pa_nil)))))))) pss_nil)
      (pss_one (ps_ret (pe_and (pe_callB call_isi (by rfl) (f_isinstance T) bt_isinstance (pa_cons (pv 5) (pa_cons (pe_gl (v := .ref (He.ga K "Failed")) ⟨_, g_Failed T, rfl⟩) pa_nil))) (pe_one (pe_fn (ok__law_failed_holds T) (hr.mono (by decide)) (g__law_failed_holds T) (pa_cons (pv 0) (pa_cons (pv 1) (pa_cons (pv 2) (pa_cons (pv 3) (pa_cons (pv 4) (pa_cons (pv 5) pa_nil))))))))))))), ?_⟩)
  · obtain ⟨G, R, gh, ⟨v1, v2, v3, v4, v5, sz, cs, r, good, rfl, _⟩, _⟩ := h
    rfl
  · obtain ⟨G, R, gh, ⟨v1, v2, v3, v4, v5, sz, cs, r, good, rfl, h1, ok, h2, okp, hcnt, h3, h4, okr, h5, okg, rfl⟩, q⟩ := h
    refine st_asg (ev_check (ev_var (i := 1) rfl h2) (ev_var (i := 2) rfl h3) (ev_var (i := 4) rfl h5) ok okp okr okg hcnt) (At.no gh) fun v6 G1 H1 g1 r6 => ?_
    cases hck : checkOf sz r good cs with
    | none =>
      rw [hck] at r6
      have hbad := check_none hck
      refine st_if (B := (· = true)) ((et_isN (b := true) (ev_var (R := rFailO K none) (i := 5) rfl r6) fun v G h => failO_non v G h)) g1.at_ (fun G2 H2 g2 _ => ?_) fun G2 H2 g2 z => nomatch z
      have ef := (g1.trans g2).gg
      refine st_ret (ev_call (R := isB true) (ea_cons (ev_var (i := 0) rfl ((rLst (sz.map isN)).mo _ _ _ ef h1)) (ea_cons (ev_var (i := 1) rfl ((rProg K sz cs).mo _ _ _ ef h2)) (ea_cons (ev_var (i := 2) rfl ((rRec K sz r).mo _ _ _ ef h3)) (ea_cons (ev_var (i := 3) rfl ((rLst (r.map rLStp)).mo _ _ _ ef h4)) (ea_cons (ev_var (i := 4) rfl ((rGood good).mo _ _ _ ef h5)) ea_nil))))) fun vs G3 e rs => ?_) g2.at_ fun v7 G3 H3 g3 rv => q _ _ _ ((g1.trans g2).trans g3) rv
      obtain ⟨_, _, _, _, _, rfl, r1, r2, r3, r4, r5⟩ := all5 rs
      exact ⟨_, _, _, _, _, sz, cs, r, good, rfl, r1, ok, r2, okp, hcnt, r3, r4, okr, r5, hbad, rfl⟩
    | some ip =>
      obtain ⟨im, p⟩ := ip
      rw [hck] at r6
      obtain ⟨k, rest, k1, k2, k3⟩ := check_some hck
      refine st_if (B := (· = false)) ((et_isN (b := false) (ev_var (R := rFailO K (some (im, p))) (i := 5) rfl r6) fun v G h => failO_non v G h)) g1.at_ (fun G2 H2 g2 z => nomatch z) fun G2 H2 g2 _ => ?_
      have ef := (g1.trans g2).gg
      have r62 : (rFail K im p.1 p.2).p v6 G2 := (rFailO K (some (im, p))).mo _ _ _ g2.gg r6
      refine st_ret (R := isB true) (ev_andV (a := true) (b := true) (ev_isi (ev_var (i := 5) rfl r62) (is_Failed_Failed T) fun H a dx vs e => ty_Failed T e) fun _ => ev_call (R := isB true) (ea_cons (ev_var (i := 0) rfl ((rLst (sz.map isN)).mo _ _ _ ef h1)) (ea_cons (ev_var (i := 1) rfl ((rProg K sz cs).mo _ _ _ ef h2)) (ea_cons (ev_var (i := 2) rfl ((rRec K sz r).mo _ _ _ ef h3)) (ea_cons (ev_var (i := 3) rfl ((rLst (r.map rLStp)).mo _ _ _ ef h4)) (ea_cons (ev_var (i := 4) rfl ((rGood good).mo _ _ _ ef h5)) (ea_cons (ev_var (i := 5) rfl r62) ea_nil)))))) fun vs G3 e rs => ?_) g2.at_ fun v7 G3 H3 g3 rv => q _ _ _ ((g1.trans g2).trans g3) rv
      cases rs with
      | cons r1 rs =>
        obtain ⟨_, _, _, _, _, rfl, r2, r3, r4, r5, r6⟩ := all5 rs
        exact ⟨_, _, _, _, _, _, sz, cs, r, good, im, k, p, rest, rfl, r1, ok, r2, okp, hcnt, r3, r4, okr, r5, r6, k1, k2, k3, rfl⟩
end
/-! ### idle recoveries -/
theorem idle_check {sz : List Nat} {good : List Words} {cs : List Cmd} (okp : okProg sz cs) : checkOf sz [] good cs = ((imgsOf (boxesOf sz.length cs)).find? fun i => !decide (contentsOf sz cs i ∈ good)).map fun i => (i, none, contentsOf sz cs i) := by
  rw [checkOf_eq]
  have go : ∀ is : List Img, (∀ i ∈ is, i ∈ imgsOf (boxesOf sz.length cs)) → (is.findSome? fun i => (lookedFor sz.length [] good (contentsOf sz cs i)).map fun p => (i, p.1, p.2)) = (is.find? fun i => !decide (contentsOf sz cs i ∈ good)).map fun i => (i, none, contentsOf sz cs i) := by
    intro is
    induction is with
    | nil => exact fun _ => rfl
    | cons i is ih =>
      intro h
      rw [List.findSome?_cons, List.find?_cons, idle_look (cont_shp okp (h i List.mem_cons_self))]
      by_cases z : contentsOf sz cs i ∈ good
      · rw [if_pos z, decide_eq_true z]
        exact ih fun j hj => h j (List.mem_cons_of_mem _ hj)
      · rw [if_neg z, decide_eq_false z]
        rfl
  exact go _ fun i h => h
theorem idle_none {sz : List Nat} {good : List Words} {cs : List Cmd} (okp : okProg sz cs) (h : ∀ x ∈ everyOf sz cs, x ∈ good) : checkOf sz [] good cs = none := by
  rw [idle_check okp, Option.map_eq_none_iff, List.find?_eq_none]
  intro i hi
  have := h (contentsOf sz cs i) (by rw [everyOf_eq]; exact List.mem_map.mpr ⟨i, hi, rfl⟩)
  simpa using this
theorem boxesOf_ne (n : Nat) (cs : List Cmd) : boxesOf n cs ≠ [] := by
  have go : ∀ (cs : List Cmd) (s : Cnt × List Bx), s.2 ≠ [] → (cs.foldl boxStep s).2 ≠ [] := by
    intro cs
    induction cs with
    | nil => exact fun s h => h
    | cons c cs ih =>
      intro s h
      refine ih _ ?_
      unfold boxStep
      cases c with
      | store t => simp
      | flush l => exact h
      | fence => exact h
  exact go cs _ (by simp)
theorem imgs_ne (n : Nat) (cs : List Cmd) : 0 < (imgsOf (boxesOf n cs)).length := by
  cases h : boxesOf n cs with
  | nil => exact absurd h (boxesOf_ne n cs)
  | cons b bs =>
    unfold imgsOf
    rw [List.flatMap_cons, List.length_append, List.length_map, List.length_range, bxSize_eq]
    have := szP_pos (b.1.zip b.2)
    omega
theorem every_len (sz : List Nat) (cs : List Cmd) : (everyOf sz cs).length = countB (boxesOf sz.length cs) := by
  rw [everyOf_eq, List.length_map, countB_eq]
/-- good contents that meet conditions: the first that is not good is the first that does not meet -/
theorem good_find {sz : List Nat} {cs : List Cmd} (p : Words → Bool) : ((imgsOf (boxesOf sz.length cs)).find? fun i => !decide (contentsOf sz cs i ∈ (everyOf sz cs).filter p)) = (imgsOf (boxesOf sz.length cs)).find? fun i => !p (contentsOf sz cs i) :=
  find_congr fun i hi => by
    congr 1
    have hm : contentsOf sz cs i ∈ everyOf sz cs := by
      rw [everyOf_eq]
      exact List.mem_map.mpr ⟨i, hi, rfl⟩
    cases h : p (contentsOf sz cs i) with
    | true => exact decide_eq_true (List.mem_filter.mpr ⟨hm, h⟩)
    | false =>
      refine decide_eq_false fun z => ?_
      have h2 := (List.mem_filter.mp z).2
      rw [h] at h2
      cases h2
end Ls


/-! LsW29 -/
namespace Ls
open PySem PySem.Spec PyProof.Rows L2
section
variable {F : Fm} {σ : L2.St} {G : Hp} {ta tb te : TE} {R : Rp} {Rs Ss : List Rp}
theorem ev_cat (ha : Ev F ta σ G (rLst Rs)) (hb : Ev F tb σ G (rLst Ss)) (hl : Rs.length + Ss.length ≤ 1000000) : Ev F (tOp rCat ta tb) σ G (rLst (Rs ++ Ss)) :=
  ev_op ha hb fun x y G1 H1 _ eh ⟨a, xs, hx, ha, h1⟩ ⟨b, ys, hy, hb, h2⟩ Q q => by
    refine ⟨a, b, xs, ys, hx, hy, eh _ _ ha, eh _ _ hb, by rw [← h1.len, ← h2.len, sizeLine_eq]; omega, fun p hp => q (.ref p) _ _ (Gr.new (At.no eh) hp) ⟨p, _, rfl, upd_same, (h1.app h2).mo (Ex.new (eh.back hp))⟩⟩
theorem ev_isN {b : Bool} (h : Ev F te σ G R) (hb : ∀ v G, R.p v G → decide (v = .non) = b) : Ev F (tOp rIsN te (tC .non)) σ G (isB b) := fun G1 H1 e a Q q =>
  h G1 H1 e a _ fun v G2 H2 g2 rv => by
    exact (⟨rfl, q _ G2 H2 g2 (by rw [hb v G2 rv]; rfl)⟩ : V.non = V.non ∧ Q (.bl (decide (v = .non))) H2)
end
theorem eqv_img (i : Img) : PyData.eqv (eImg i) (eImg i) = true := (enc_img i i).trans (decide_eq_true rfl)
theorem eqv_words (x : Words) : PyData.eqv (eWords x) (eWords x) = true := (enc_words x x).trans (decide_eq_true rfl)
def eTrip (i : Img) (x : Words) : PyData := .tuple [eImg i, .none, eWords x]
theorem eqv_trip (i : Img) (x : Words) : PyData.eqv (eTrip i x) (eTrip i x) = true := by
  unfold eTrip
  simp only [PyData.eqv, PyData.eqvAll, eqv_img, eqv_words, Bool.and_self]
theorem sh_trip (i : Img) (x : Words) : Sh 3 (eTrip i x) := sh_tup fun d hd => by
  simp only [List.mem_cons, List.not_mem_nil, or_false] at hd
  rcases hd with rfl | rfl | rfl
  · exact sh_img.le (by decide)
  · exact sh_none
  · exact sh_words
theorem dat_trip {K : PySem.W.Frag} (i : Img) (x : Words) : Dat K (rTup [rImg i, isV .non, rWords x]) (eTrip i x) := dat_tup (.cons dat_img (.cons dat_none (.cons dat_words .nil)))
theorem okL_nil (sz : List Nat) : okLRec sz [] := ⟨by decide, (fun p hp => nomatch hp), by decide⟩
section
variable {P : Program} {w : World} {K : PySem.W.Frag} {mg : Str → Option Value} {base : Heap}
theorem optImg_non {o : Option Img} : ∀ v G, (rOpt rImg o).p v G → decide (v = .non) = o.isNone := fun v G h => by
  cases o with
  | none =>
    cases h
    rfl
  | some p =>
    obtain ⟨_, _, rfl, _⟩ := h
    rfl
def sp__law_idle_holds (K : PySem.W.Frag) : Sp := PromR fun r vs G R => ∃ (v u : V) (sz : List Nat) (cs : List Cmd), vs = [.ref r, v, u] ∧ (rLst (sz.map isN)).p v G ∧ okSz sz ∧ (rProg K sz cs).p u G ∧ okProg sz cs ∧ countB (boxesOf sz.length cs) ≤ 40 ∧ R = isB true
theorem sc__law_idle_holds : FnScope ["_law_rng_here", "_law_sizes", "_law_program_here", "_law_every", "_law_idle", "_law_conditions", "_law_good", "_law_found", "_law_image", "_law_words_here"] ["_law_rng_here", "_law_sizes", "_law_program_here"] (defScope s__law_idle_holds) := ⟨rfl, rfl, rfl, by decide +kernel, rfl, by decide +kernel, by decide +kernel⟩
/- _law_rng_here=0 _law_sizes=1 _law_program_here=2 _law_every=3 _law_idle=4 _law_conditions=5 _law_good=6 _law_found=7 _law_image=8 _law_words_here=9; cells _law_conditions; level 8 -/
theorem ok__law_idle_holds (T : Tx K mg) : Dk P w K mg base (He.ga K "_law_idle_holds") 8 ["_law_rng_here", "_law_sizes", "_law_program_here"] (sp__law_idle_holds K) := by
  refine dk_of (d__law_idle_holds_at T) sc__law_idle_holds (fun _ _ _ _ _ _ us hl => match us, hl with | [_, _, _], _ => rfl) (fun vs H Q E h => ?_) (fun cdv A outer s H vs Q E hr h => ⟨_, (pss_cons (ps_par (i := 3) (j := 4) (by rfl) sc__law_idle_holds.nd rfl rfl (by decide) rfl rfl (pa_cons (pe_fn (ok__law_all_words T) (hr.mono (by decide)) (g__law_all_words T) (pa_cons (pv 2) pa_nil)) (pa_cons (pe_mk (mk_Recovery T) (ok_Recovery_init T) (hr.mono (by decide)) (g_Recovery T) (pa_cons (pe_mk (mk_Memory T) (ok_Memory_init T) (hr.mono (by decide)) (g_Memory T) (pa_cons (pv 1) pa_nil)) (pa_cons (pe_lst pa_nil) pa_nil))) pa_nil)) (by rfl))
      (pss_cons (ps_if (PW.pt (pw_or (pt_cmpR op_notN1 (pe_fn (ok_check T) (hr.mono (by decide)) (g_check T) (pa_cons (pv 2) (pa_cons (pv 4) (pa_cons (pv 3) pa_nil)))) pe_non (nomark _)) (pw_or1 (pt_cmpR op_notN1 (pe_fn (ok_check T) (hr.mono (by decide)) (g_check T) (pa_cons (pv 2) (pa_cons (pv 4) (pa_cons (pe_op op_cat (pe_lst (pa_cons (pe_ix ix_list (pv 3) pe_int (fun _ _ => rfl)) pa_nil)) (pv 3)) pa_nil)))) pe_non (nomark _))))) (pss_one (ps_ret pe_bl)) pss_nil)
      (pss_cons (ps_set (i := 5) sc__law_idle_holds.nd rfl (.inr rfl) (pe_fn (ok__law_random_conditions T) (hr.mono (by decide)) (g__law_random_conditions T) (pa_cons (pv 0) (pa_cons (pv 1) (pa_cons pe_int pa_nil)))))
      (pss_cons (ps_setLc (i := 6) (own := [("_law_words_here", 9)]) (g := gName 9) rfl sc__law_idle_holds.nd rfl rfl (sw_true rfl rfl rfl (by kernel_rfl)) (pi_list (pv 3)) (blkOk_by (by kernel_rfl)) (fun _ _ _ _ _ => (pg_name (i := 9) sc__law_idle_holds.nd rfl (.inl rfl))) (fun _ _ _ _ _ => (pts_one (pt_val (pe_fn (ok__law_meets T) (hr.mono (by decide)) (g__law_meets T) (pa_cons (pv 9) (pa_cons (pv 5) pa_nil)))))) (fun _ _ _ _ _ => (pv 9)))
      (pss_cons (ps_par (i := 7) (j := 8) (by rfl) sc__law_idle_holds.nd rfl rfl (by decide) rfl rfl (pa_cons (pe_fn (ok_check T) (hr.mono (by decide)) (g_check T) (pa_cons (pv 2) (pa_cons (pv 4) (pa_cons (pv 6) pa_nil)))) (pa_cons (pe_fn (ok_broken T) (hr.mono (by decide)) (g_broken T) (pa_cons (pv 2) (pa_cons (pe_lst pa_nil) (pa_cons (pe_fn (ok__law_is T) (hr.mono (by decide)) (g__law_is T) (pa_cons (pv 5) pa_nil)) pa_nil)))) pa_nil)) (by rfl))
      (pss_cons (ps_if (PW.pt (pw_or (pt_cmpR op_isN1 (pv 7) pe_non (nomark _)) (pw_or1 (pt_cmpR op_isN1 (pv 8) pe_non (nomark _))))) (pss_one (ps_ret (pe_and (pe_cmpR op_isN1 (pv 7) pe_non (nomark _)) (pe_one (pe_cmpR op_isN1 (pv 8) pe_non (nomark _)))))) pss_nil)
      (pss_one (ps_ret (pe_cmpR (op_eqD hr.units) (pe_tup (pa_cons (pe_fld (pv 7) rfl) (pa_cons (pe_fld (pv 7) rfl) (pa_cons (pe_fld (pv 7) rfl) pa_nil)))) (pe_tup (pa_cons (pv 8) (pa_cons pe_non (pa_cons (pe_fn (ok_contents T) (hr.mono (by decide)) (g_contents T) (pa_cons (pv 2) (pa_cons (pv 8) pa_nil))) pa_nil)))) (nomark _)))))))))), ?_⟩)
  · obtain ⟨r, G, R, at_, ⟨v, u, sz, cs, rfl, _⟩, _⟩ := h
    rfl
  · obtain ⟨r, G, R, at_, ⟨v, u, sz, cs, rfl, hv, ok, hu, okp, hcnt, rfl⟩, q⟩ := h
    have hel := every_len sz cs
    have hes := every_shp okp
    have okE : okGood sz (everyOf sz cs) := ⟨by omega, hes⟩
    refine st_par (F := Fm.rng r) (R := rGood (everyOf sz cs)) (S := rRec K sz []) (ea_cons (ev_every (i := 2) rfl hu okp (by omega)) (ea_cons (ev_make (ea_cons (ev_memL (K := K) (ev_var (i := 1) rfl hv) ok) (ea_cons (ev_lst ea_nil (by simp)) ea_nil)) fun vs G1 e rs => ?_) ea_nil)) at_ fun v3 v4 G1 H1 g1 r3 r4 => ?_
    · obtain ⟨_, _, rfl, r1, r2⟩ := all2 rs
      exact ⟨_, _, sz, [], rfl, r1, .inr r2, (okL_nil sz).rec ok, by decide, rfl⟩
    have hu1 := (rProg K sz cs).mo _ _ _ g1.gg hu
    have hpos : 0 < (everyOf sz cs).length := by
      rw [hel, countB_eq]
      exact imgs_ne _ _
    have hx0 : (everyOf sz cs)[0]? = some (everyOf sz cs)[0] := List.getElem?_eq_getElem hpos
    have hc1 : checkOf sz [] (everyOf sz cs) cs = none := idle_none okp fun x hx => hx
    have hc2 : checkOf sz [] ((everyOf sz cs)[0] :: everyOf sz cs) cs = none := idle_none okp fun x hx => List.mem_cons_of_mem _ hx
    refine st_if (B := (· = false)) (et_or (a := false) (b := false) (et_notN (b := true) (ev_check (ev_var (i := 2) rfl hu1) (ev_var (i := 4) rfl r4) (ev_var (i := 3) rfl r3) ok okp (okL_nil sz) okE hcnt) fun v G h => by rw [failO_non v G h, hc1]; rfl) fun _ => et_notN (b := true) (ev_check (good := (everyOf sz cs)[0] :: everyOf sz cs) (ev_var (i := 2) rfl hu1) (ev_var (i := 4) rfl r4) (ev_cat (Rs := [rWords (everyOf sz cs)[0]]) (Ss := (everyOf sz cs).map rWords) (ev_lst (ea_cons (ev_ixL (R := rWords (everyOf sz cs)[0]) (Rs := (everyOf sz cs).map rWords) (i := 0) (ev_var (i := 3) rfl r3) ev_c (by rw [List.getElem?_map, hx0]; rfl)) ea_nil) (by simp)) (ev_var (i := 3) rfl r3) (by rw [List.length_map, List.length_singleton]; omega)) ok okp (okL_nil sz) ⟨by rw [List.length_cons]; omega, fun y hy => ?_⟩ hcnt) fun v G h => by rw [failO_non v G h, hc2]; rfl) g1.at_ (fun G2 H2 g2 z => nomatch z) fun G2 H2 g2 _ => ?_
    · rcases List.mem_cons.mp hy with z | z
      · rw [z]
        exact hes _ (List.getElem_mem hpos)
      · exact hes y z
    have g12 := g1.trans g2
    refine st_asg (ev_callR (R := rConds sz 3) (ea_cons (ev_var (R := isV (.ref r)) (i := 0) rfl rfl) (ea_cons (ev_var (i := 1) rfl ((rLst (sz.map isN)).mo _ _ _ g12.gg hv)) (ea_cons (ev_c (v := .int (3 : Nat))) ea_nil))) fun vs G3 e rs => ?_) g2.at_ fun v5 G3 H3 g3 ⟨ws, ⟨wl, wok⟩, r5⟩ => ?_
    · obtain ⟨_, _, _, rfl, rfl, r2, rfl⟩ := all3 rs
      exact ⟨_, sz, 3, rfl, r2, ok, by decide, rfl⟩
    have g13 := g12.trans g3
    have r33 := (rGood (everyOf sz cs)).mo _ _ _ (g2.gg.trans g3.gg) r3
    have okc : ∀ c ∈ ws, okCond sz c := fun c hc => (wok c hc).1
    refine st_asg (R := rGood ((everyOf sz cs).filter fun x => ws.all fun c => c.metW x)) (ev_lcF (j := 9) (vs := [9]) (everyOf sz cs) rWords rWords (fun x => ws.all fun c => c.metW x) (ei_list (ev_var (i := 3) rfl r33)) (by omega) (fun _ => rfl) (fun x hx y G4 e ry => et_B (ev_call (ea_cons (ev_var (R := rWx x) (i := 9) rfl (wx_words ry)) (ea_cons (ev_var (i := 5) rfl ((rLst (ws.map rLCond)).mo _ _ _ e r5)) ea_nil)) fun vs G5 e rs => ?_)) fun x hx y G4 e ry _ => ev_var (i := 9) rfl ry) g3.at_ fun v6 G4 H4 g4 r6 => ?_
    · obtain ⟨_, _, rfl, r1, r2⟩ := all2 rs
      exact ⟨_, _, sz, x, ws, rfl, r1, hes x hx, r2, okc, by omega, rfl⟩
    have g14 := g13.trans g4
    have hu4 := (rProg K sz cs).mo _ _ _ g14.gg hu
    have r44 := (rRec K sz []).mo _ _ _ ((g2.gg.trans g3.gg).trans g4.gg) r4
    have r54 := (rLst (ws.map rLCond)).mo _ _ _ g4.gg r5
    refine st_par (R := rFailO K (checkOf sz [] ((everyOf sz cs).filter fun x => ws.all fun c => c.metW x) cs)) (S := rSome fun o => rIf (BrokenIs (statesOf (storesOf cs) (blank sz)) ws (boxesOf sz.length cs) o) (rOpt rImg o)) (ea_cons (ev_check (ev_var (i := 2) rfl hu4) (ev_var (i := 4) rfl r44) (ev_var (i := 6) rfl r6) ok okp (okL_nil sz) ⟨by have := List.length_filter_le (fun x => ws.all fun c => c.metW x) (everyOf sz cs); omega, fun y hy => hes y (List.mem_filter.mp hy).1⟩ hcnt) (ea_cons (ev_call (ea_cons (ev_var (i := 2) rfl hu4) (ea_cons (ev_lst ea_nil (by simp)) (ea_cons (ev_call (R := rLst (ws.map (rCond K))) (ea_cons (ev_var (i := 5) rfl r54) ea_nil) fun vs G5 e rs => ?_) ea_nil))) fun vs G5 e rs => ?_) ea_nil)) g4.at_ fun v7 v8 G5 H5 g5 r7 ⟨o, ho, r8⟩ => ?_
    · obtain ⟨_, rfl, r1⟩ := all1 rs
      exact ⟨_, ws, rfl, r1, by omega, fun c hc => (wok c hc).2, rfl⟩
    · obtain ⟨_, _, _, rfl, r1, r2, r3⟩ := all3 rs
      exact ⟨_, _, _, sz, cs, ws, rfl, r1, okp, (okCs_of okp).1, .inr r2, r3, okc, by omega, fun b hb c hc => okSt_of okp.2.2 hb (okc c hc), rfl⟩
    have g15 := g14.trans g5
    have hbf := broken_find okp.2.2 okc ho
    rw [idle_check okp, good_find] at r7
    rw [← hbf] at r7
    cases o with
    | none =>
      have r7' : (rFailO K none).p v7 G5 := r7
      refine st_if (B := (· = true)) ((et_or (a := true) (b := true) (et_isN (b := true) (ev_var (i := 7) rfl r7') fun v G h => failO_non v G h) fun z => nomatch z).to rfl) g5.at_ (fun G6 H6 g6 _ => ?_) fun G6 H6 g6 z => nomatch z
      exact st_ret (R := isB true) (ev_andV (a := true) (b := true) (ev_isN (ev_var (i := 7) rfl ((rFailO K none).mo _ _ _ g6.gg r7')) fun v G h => failO_non v G h) fun _ => ev_isN (ev_var (i := 8) rfl ((rOpt rImg none).mo _ _ _ g6.gg r8)) fun v G h => optImg_non v G h) g6.at_ fun v9 G7 H7 g7 rv => q _ _ _ ((g15.trans g6).trans g7) rv
    | some im =>
      have r7' : (rFailO K (some (im, none, contentsOf sz cs im))).p v7 G5 := r7
      have hmem : im ∈ imgsOf (boxesOf sz.length cs) := List.mem_of_find?_eq_some hbf.symm
      refine st_if (B := (· = false)) ((et_or (a := false) (b := false) (et_isN (b := false) (ev_var (i := 7) rfl r7') fun v G h => failO_non v G h) fun _ => et_isN (b := false) (ev_var (i := 8) rfl r8) fun v G h => optImg_non v G h).to rfl) g5.at_ (fun G6 H6 g6 z => nomatch z) fun G6 H6 g6 _ => ?_
      have r76 : (rFail K im none (contentsOf sz cs im)).p v7 G6 := (rFailO K (some (im, none, contentsOf sz cs im))).mo _ _ _ g6.gg r7'
      have r86 : (rImg im).p v8 G6 := (rOpt rImg (some im)).mo _ _ _ g6.gg r8
      refine st_ret (R := isB true) (ev_to (ev_eqD (K := K) (d := eTrip im (contentsOf sz cs im)) (e := eTrip im (contentsOf sz cs im)) (ev_tup (ea_cons (ev_fld (R := rImg im) (c_Failed T) (n_Failed_image T) (ev_var (i := 7) rfl r76) rfl) (ea_cons (ev_fld (R := isV .non) (c_Failed T) (n_Failed_second T) (ev_var (i := 7) rfl r76) rfl) (ea_cons (ev_fld (R := rWords (contentsOf sz cs im)) (c_Failed T) (n_Failed_words T) (ev_var (i := 7) rfl r76) rfl) ea_nil))) (by simp)) (ev_tup (ea_cons (ev_var (i := 8) rfl r86) (ea_cons ev_c (ea_cons (ev_cont (ev_var (i := 2) rfl ((rProg K sz cs).mo _ _ _ (g15.trans g6).gg hu)) (ev_var (i := 8) rfl r86) okp hmem) ea_nil))) (by simp)) (dat_trip _ _) (dat_trip _ _) (sh_trip _ _) (sh_trip _ _)) (by rw [eqv_trip])) g6.at_ fun v9 G7 H7 g7 rv => q _ _ _ ((g15.trans g6).trans g7) rv
end
end Ls


/-! LsW30 -/
namespace Ls
open PySem PySem.Spec PyProof.Rows L2
/-- a frame of objects that did not stand is left -/
theorem gr_leave {F F' : Fm} {G H G1 H1 G2 H2 : Hp} (a : Gr F G H G1 H1) (b : Gr F' G1 H1 G2 H2) (n : ∀ x, F'.S x → H x = none ∧ ¬ F.S x) : Gr F G H G2 H2 where
  gg := a.gg.trans b.gg
  hh := fun x o s e => b.hh x o (fun z => by
    rw [(n x z).1] at e
    cases e) (a.hh x o s e)
  fr := fun x hx z => b.fr x (a.th x hx) (a.fr x hx z)
  th := fun x hx => b.th x (a.th x hx)
  at_ := ⟨b.gh, fun x s => b.fr x (a.at_.sh x s) (a.at_.sg x s), fun x s => b.th x (a.at_.sh x s), F.st H1 H2 (fun x s => by
    cases q : H1 x with
    | none => exact absurd q (a.at_.sh x s)
    | some u => exact b.hh x u (fun z => (n x z).2 s) q) a.at_.i⟩
section
variable {F : Fm} {σ : L2.St} {G : Hp} {ta tb te : TE} {K : PySem.W.Frag} {ns : List Int} {Rs : List Rp}
theorem cut_to (xs : List V) (n : Nat) : cutV xs none (some (n : Int)) = xs.take n := by
  unfold cutV
  rw [HT.sIx_none, HT.sIx_nat, List.drop_zero, Nat.sub_zero, List.take_eq_take_iff]
  omega
theorem cut_12 (xs : List V) : cutV xs (some ((1 : Nat) : Int)) (some ((2 : Nat) : Int)) = (xs.drop 1).take 1 := by
  unfold cutV
  rw [HT.sIx_nat, HT.sIx_nat]
  rcases xs with _ | ⟨x, _ | ⟨y, t⟩⟩
  · rfl
  · rfl
  · rw [List.length_cons, List.length_cons, Nat.min_eq_left (by omega), Nat.min_eq_left (by omega)]
/-- xs[:n], n some number -/
theorem ev_slTo {c : Nat → Prop} (ha : Ev F ta σ G (rLst Rs)) (hb : Ev F tb σ G (rSuch c isN)) : Ev F (tSl (rSlL K) ta tNoPart (tPart tb)) σ G (rSome fun n : Nat => rLst (Rs.take n)) := fun G1 H1 e a Q q =>
  ha G1 H1 e a _ fun x G2 H2 g2 rx => hb G2 H2 (e.trans g2.gg) g2.at_ _ fun y G3 H3 g3 ⟨n, _, ry⟩ => by
    obtain ⟨p, xs, rfl, hp, hs⟩ := (rLst Rs).mo _ _ _ g3.gg rx
    cases ry
    refine ⟨(n : Int), rfl, p, xs, rfl, sq_of (g3.gh _ _ hp), fun l hl => ?_⟩
    rw [cut_to]
    exact q _ _ _ ((g2.trans g3).trans (Gr.new g3.at_ hl)) ⟨n, l, xs.take n, rfl, upd_same, (hs.mo (Ex.new (g3.gh.back hl))).tk n⟩
/-- script[1:2] -/
theorem ev_sl12 (ha : Ev F ta σ G (rScr K ns)) : Ev F (tSl (rSlL K) ta (tPart (tC (.int ((1 : Nat) : Int)))) (tPart (tC (.int ((2 : Nat) : Int))))) σ G (rLst (((ns.drop 1).take 1).map isI)) := fun G1 H1 e a Q q =>
  ha G1 H1 e a _ fun x G2 H2 g2 rx => by
    obtain ⟨p, rfl, hp⟩ := (rScr K ns).mo _ _ _ g2.gh rx
    refine ⟨((1 : Nat) : Int), rfl, ((2 : Nat) : Int), rfl, p, _, rfl, hp, fun l hl => ?_⟩
    rw [cut_12, ← List.map_drop, ← List.map_take]
    exact q _ _ _ (g2.trans (Gr.new g2.at_ hl)) ⟨l, _, rfl, upd_same, all_of _ _⟩
end
theorem st_asgN {te : TE} {i : Nat} {D : Ends} {σ : L2.St} {H : Hp} (h : te σ H fun v H1 => D.nx (σ.set i (some v)) H1) : tAsg te (gName i) D σ H := h
/-- the goods of the law -/
def rGS (sz : List Nat) : Rp := rSuch (okGood sz) rGood
theorem good_take {sz : List Nat} {g : List Words} (h : okGood sz g) (n : Nat) : okGood sz (g.take n) :=
  ⟨by have := h.1; rw [List.length_take]; omega, fun y hy => h.2 y (List.mem_of_mem_take hy)⟩
section
variable {P : Program} {w : World} {K : PySem.W.Frag} {mg : Str → Option Value} {base : Heap}
def sp_law (K : PySem.W.Frag) : Sp := Prom fun vs G R => ∃ (v : V) (ns : List Int), vs = [v] ∧ (rScr K ns).p v G ∧ R = isB true
theorem sc_law : FnScope ["_law_script", "_law_cell_here", "_law_rng_here", "_law_sizes", "_law_commands", "_law_program_here", "_law_steps", "_law_recovery_here", "_law_every", "_law_ends", "_law_good", "_law_words_here"] ["_law_script"] (defScope s_law) := ⟨rfl, rfl, rfl, by decide +kernel, rfl, by decide +kernel, by decide +kernel⟩
/- _law_script=0 _law_cell_here=1 _law_rng_here=2 _law_sizes=3 _law_commands=4 _law_program_here=5 _law_steps=6 _law_recovery_here=7 _law_every=8 _law_ends=9 _law_good=10 _law_words_here=11; cells _law_recovery_here; level 11 -/
theorem fn_of {x qual : Str} {params : Arguments} {body : List Stmt} {scope : Scope} {f : Addr} {fd : FuncData} {N ps : List Str} {k : Nat} {sp : Sp} (F : FunD K x qual params body scope [] [] f fd) (S : FnScope N ps scope)
    (len : ∀ vs H Q E, sp vs H Q E → vs.length = ps.length)
    (hbody : ∀ (cdv : Value) (A : Around) (outer : List Env) (s : Shared) (H : Hp) (vs : List V) (Q : VK) (E : XK), Room k (A.deeper (envOfC qual scope s.heap.objs.size f cdv)) → sp vs H Q E →
      ∃ t, PSs (cxOf CX0 P w K mg base N qual scope f cdv A outer s H E).nox body t ∧ t { nx := fun _ H' => Q .non H', rt := Q } (start N vs) H) : FnOk P w K mg base CX0 (k + 1) f fd ps sp :=
  F.ok S len fun cdv A outer s H vs Q E hr h => let ⟨t, p, q⟩ := hbody cdv A outer s H vs Q E hr h; ⟨t, p.nox, q⟩
theorem ok_law (T : Tx K mg) {fd : FuncData} (F : FunD K "law" "law" (defArgs s_law) (defBody s_law) (defScope s_law) [] [] (He.fAd K ("law", none)) fd) : FnOk P w K mg base CX0 11 (He.fAd K ("law", none)) fd ["_law_script"] (sp_law K) := by
  refine fn_of F sc_law (fun vs H Q E h => ?_) (fun cdv A outer s H vs Q E hr h => ⟨_, (pss_cons (ps_for PassesOwn.never rfl (pi_list (pe_op op_cat (pe_lst (pa_cons (pe_fn (ok__law_cell T) (hr.mono (by decide)) (g__law_cell T) (pa_cons (pv 0) (pa_cons pe_int pa_nil))) pa_nil)) (pe_slice sl_list (pv 0) (po_some pe_int) (po_some pe_int)))) (pg_name (i := 1) sc_law.nd rfl (.inl rfl)) (pss_cons (ps_set (i := 2) sc_law.nd rfl (.inl rfl) (pe_fn (ok__law_rng T) (hr.mono (by decide)) (g__law_rng T) (pa_cons (pv 1) pa_nil)))
      (pss_cons (ps_set (i := 3) sc_law.nd rfl (.inl rfl) (pe_fn (ok__law_random_sizes T) (hr.mono (by decide)) (g__law_random_sizes T) (pa_cons (pv 2) (pa_cons pe_int (pa_cons pe_int pa_nil)))))
      (pss_cons (ps_set (i := 4) sc_law.nd rfl (.inl rfl) (pe_fn (ok__law_random_commands T) (hr.mono (by decide)) (g__law_random_commands T) (pa_cons (pv 2) (pa_cons (pv 3) (pa_cons pe_int pa_nil)))))
      (pss_cons (ps_set (i := 5) sc_law.nd rfl (.inl rfl) (pe_fn (ok__law_program T) (hr.mono (by decide)) (g__law_program T) (pa_cons (pv 3) (pa_cons (pv 4) pa_nil))))
      (pss_cons (ps_set (i := 6) sc_law.nd rfl (.inl rfl) (pe_fn (ok__law_random_steps T) (hr.mono (by decide)) (g__law_random_steps T) (pa_cons (pv 2) (pa_cons (pv 3) (pa_cons pe_int pa_nil)))))
      (pss_cons (ps_set (i := 7) sc_law.nd rfl (.inr rfl) (pe_fn (ok__law_recovery T) (hr.mono (by decide)) (g__law_recovery T) (pa_cons (pv 3) (pa_cons (pv 6) pa_nil))))
      (pss_one (ps_if (pt_cmpR op_le (pe_fn (ok_count T) (hr.mono (by decide)) (g_count T) (pa_cons (pv 5) pa_nil)) pe_int (nomark _)) (pss_cons (ps_if (pt_not (pt_val (pe_fn (ok__law_idle_holds T) (hr.mono (by decide)) (g__law_idle_holds T) (pa_cons (pv 2) (pa_cons (pv 3) (pa_cons (pv 5) pa_nil)))))) (pss_one (ps_ret pe_bl)) pss_nil)
      (pss_cons (ps_set (i := 8) sc_law.nd rfl (.inl rfl) (pe_fn (ok__law_all_words T) (hr.mono (by decide)) (g__law_all_words T) (pa_cons (pv 5) pa_nil)))
      (pss_cons (ps_setLc (i := 9) (own := [("_law_words_here", 11)]) (g := gName 11) (tt := tYes) rfl sc_law.nd rfl rfl (sw_true rfl rfl rfl (by kernel_rfl)) (pi_list (pv 8)) (blkOk_by (by kernel_rfl)) (fun _ _ _ _ _ => (pg_name (i := 11) sc_law.nd rfl (.inl rfl))) (fun _ _ _ _ _ => pts_nil) (fun _ _ _ _ _ => (pe_fn (ok_settle T) (hr.mono (by decide)) (g_settle T) (pa_cons (pv 7) (pa_cons (pv 11) pa_nil)))))
      (pss_one (ps_for PassesOwn.never rfl (pi_tup (pe_tup (pa_cons (pv 9) (pa_cons (pe_op op_cat (pv 9) (pv 8)) (pa_cons (pe_slice sl_list (pv 9) po_none (po_some (pe_op op_add pe_int (pe_fn (ok__law_draw T) (hr.mono (by decide)) (g__law_draw T) (pa_cons (pv 2) (pa_cons (pe_callB call_len_seq (by rfl) (f_len T) bt_len (pa_cons (pv 9) pa_nil)) pa_nil)))))) pa_nil))))) (pg_name (i := 10) sc_law.nd rfl (.inl rfl)) (pss_one (ps_if (pt_not (pt_val (pe_fn (ok__law_check_holds T) (hr.mono (by decide)) (g__law_check_holds T) (pa_cons (pv 3) (pa_cons (pv 5) (pa_cons (pv 7) (pa_cons (pv 6) (pa_cons (pv 10) pa_nil)))))))) (pss_one (ps_ret pe_bl)) pss_nil))))))) pss_nil)))))))))
      (pss_one (ps_ret pe_bl))), ?_⟩)
  · obtain ⟨G, R, gh, ⟨v, ns, rfl, _⟩, _⟩ := h
    rfl
  · obtain ⟨G, R, gh, ⟨v, ns, rfl, hv, rfl⟩, q⟩ := h
    refine st_forB (K := K) (F := Fm.no) (Ys := [rSome isI] ++ ((ns.drop 1).take 1).map isI) (Gr.refl (At.no gh)) (ei_list (ev_cat (Rs := [rSome isI]) (ev_lst (ea_cons (ev_call (ea_cons (ev_var (R := rScr K ns) (i := 0) rfl hv) (ea_cons ev_c ea_nil)) fun vs G3 e rs => ?_) ea_nil) (by simp)) (ev_sl12 (ev_var (i := 0) rfl hv)) ?_))
      (fun i σ G' H' => ∃ x1 x2 x3 x4 x5 x6 x7 x8 x9 x10 x11, σ = [some v, x1, x2, x3, x4, x5, x6, x7, x8, x9, x10, x11]) (fun _ _ _ => ⟨_, _, _, _, _, _, _, _, _, _, _, rfl⟩) (fun i σ G' H' G1 H1 p _ _ => p) ?_ ?_
    · obtain ⟨_, _, rfl, r1, rfl⟩ := all2 rs
      exact ⟨_, ns, 0, rfl, r1, rfl⟩
    · rw [List.length_map, List.length_singleton]
      have := List.length_take_le 1 (ns.drop 1)
      omega
    · rintro i Y y σ' G1 H1 N hN hY g1 e1 hy ⟨x1, x2, x3, x4, x5, x6, x7, x8, x9, x10, x11, rfl⟩
      have hy2 : (rSome isI).p y G1 := by
        rcases List.mem_append.mp (List.mem_of_getElem? hY) with z | z
        · rw [List.mem_singleton] at z
          rw [← z]
          exact hy
        · obtain ⟨n, _, rfl⟩ := List.mem_map.mp z
          exact ⟨n, hy⟩
      obtain ⟨n, rfl⟩ := hy2
      refine st_asgN ⟨_, rfl, n, rfl, fun p a b c hp => ?_⟩
      have hG1p : G1 p = none := g1.gh.back hp
      have hHp : H p = none := g1.none hp
      have gA := g1.trans (Gr.newH (o := .lst [.int a, .int b, .int c]) g1.at_ hp)
      have at2 : At (Fm.rng p) G1 (upd H1 p (.lst [.int a, .int b, .int c])) := at_rng (g1.gh.mut hG1p) hG1p ⟨a, b, c, upd_same⟩
      have hsN : ∀ x, (Fm.rng p).S x → H x = none ∧ ¬ Fm.no.S x := fun x s => ⟨by rw [(s : x = p)]; exact hHp, fun z => z⟩
      generalize upd H1 p (.lst [.int a, .int b, .int c]) = H2 at gA at2
      refine st_asg (F := Fm.rng p) (ev_callR (R := rSz) (ea_cons (ev_var (R := isV (.ref p)) (i := 2) rfl rfl) (ea_cons ev_c (ea_cons ev_c ea_nil))) fun vs G3 e rs => ?_) at2 fun v3 G3 H3 g3 ⟨sz, ok, r3⟩ => ?_
      · obtain ⟨_, _, _, rfl, rfl, rfl, rfl⟩ := all3 rs
        exact ⟨rfl, rfl⟩
      refine st_asg (ev_callR (R := rSuch (fun cs : List Cmd => cs.length ≤ 14 ∧ ∀ c ∈ cs, okCmd sz c) fun cs => rLst (cs.map rLCmd)) (ea_cons (ev_var (R := isV (.ref p)) (i := 2) rfl rfl) (ea_cons (ev_var (i := 3) rfl r3) (ea_cons ev_c ea_nil))) fun vs G4 e rs => ?_) g3.at_ fun v4 G4 H4 g4 ⟨cs, ⟨cl, cok⟩, r4⟩ => ?_
      · obtain ⟨_, _, _, rfl, rfl, r2, rfl⟩ := all3 rs
        exact ⟨_, sz, 14, rfl, r2, ok, by decide, rfl⟩
      have g34 := g3.trans g4
      have r34 := (rLst (sz.map isN)).mo _ _ _ g4.gg r3
      have okp : okProg sz cs := ⟨ok.mem, by omega, cok⟩
      refine st_asg (ev_call (R := rProg K sz cs) (ea_cons (ev_var (i := 3) rfl r34) (ea_cons (ev_var (i := 4) rfl r4) ea_nil)) fun vs G5 e rs => ?_) g4.at_ fun v5 G5 H5 g5 r5 => ?_
      · obtain ⟨_, _, rfl, r1, r2⟩ := all2 rs
        exact ⟨_, _, sz, cs, rfl, r1, ok, r2, by omega, cok, rfl⟩
      have g35 := g34.trans g5
      have r35 := (rLst (sz.map isN)).mo _ _ _ g5.gg r34
      refine st_asg (ev_callR (R := rSuch (okLRec sz) fun st => rLst (st.map rLStp)) (ea_cons (ev_var (R := isV (.ref p)) (i := 2) rfl rfl) (ea_cons (ev_var (i := 3) rfl r35) (ea_cons ev_c ea_nil))) fun vs G6 e rs => ?_) g5.at_ fun v6 G6 H6 g6 ⟨st, okr, r6⟩ => ?_
      · obtain ⟨_, _, _, rfl, rfl, r2, rfl⟩ := all3 rs
        exact ⟨_, sz, rfl, r2, ok, rfl⟩
      have g36 := g35.trans g6
      have r36 := (rLst (sz.map isN)).mo _ _ _ g6.gg r35
      have r56 := (rProg K sz cs).mo _ _ _ g6.gg r5
      refine st_asg (ev_call (R := rRec K sz st) (ea_cons (ev_var (i := 3) rfl r36) (ea_cons (ev_var (i := 6) rfl r6) ea_nil)) fun vs G7 e rs => ?_) g6.at_ fun v7 G7 H7 g7 r7 => ?_
      · obtain ⟨_, _, rfl, r1, r2⟩ := all2 rs
        exact ⟨_, _, sz, st, rfl, r1, ok, r2, okr, rfl⟩
      have g37 := g36.trans g7
      have r37 := (rLst (sz.map isN)).mo _ _ _ g7.gg r36
      have r57 := (rProg K sz cs).mo _ _ _ g7.gg r56
      have r67 := (rLst (st.map rLStp)).mo _ _ _ g7.gg r6
      refine st_if (B := (· = decide (countB (boxesOf sz.length cs) ≤ 40))) ((et_test (ev_T0 (p := fun i j => decide (i ≤ j)) (ev_call (R := isN (countB (boxesOf sz.length cs))) (ea_cons (ev_var (i := 5) rfl r57) ea_nil) fun vs G8 e rs => ?_) ev_cI)).to (decide_eq_decide.mpr (by omega))) g7.at_ (fun G8 H8 g8 hc => ?_) fun G8 H8 g8 _ => ?_
      · obtain ⟨_, rfl, r1⟩ := all1 rs
        exact ⟨_, sz, cs, rfl, r1, okp, (okCs_of okp).1, rfl⟩
      rotate_left
      · have gg := g37.trans g8
        exact hN _ _ _ gg.gg (gr_leave gA gg hsN) ⟨_, _, _, _, _, _, _, _, _, _, _, rfl⟩
      have hcnt : countB (boxesOf sz.length cs) ≤ 40 := of_decide_eq_true hc.symm
      have g38 := g37.trans g8
      have r38 := (rLst (sz.map isN)).mo _ _ _ g8.gg r37
      have r58 := (rProg K sz cs).mo _ _ _ g8.gg r57
      have r68 := (rLst (st.map rLStp)).mo _ _ _ g8.gg r67
      have r78 := (rRec K sz st).mo _ _ _ g8.gg r7
      refine st_if (B := (· = false)) ((et_not (et_test (ev_callR (R := isB true) (ea_cons (ev_var (R := isV (.ref p)) (i := 2) rfl rfl) (ea_cons (ev_var (i := 3) rfl r38) (ea_cons (ev_var (i := 5) rfl r58) ea_nil))) fun vs G9 e rs => ?_))).to rfl) g8.at_ (fun G9 H9 g9 z => nomatch z) fun G9 H9 g9 _ => ?_
      · obtain ⟨_, _, _, rfl, rfl, r2, r3⟩ := all3 rs
        exact ⟨_, _, sz, cs, rfl, r2, ok, r3, okp, hcnt, rfl⟩
      have g39 := g38.trans g9
      have r59 := (rProg K sz cs).mo _ _ _ g9.gg r58
      refine st_asg (ev_every (i := 5) rfl r59 okp (by omega)) g9.at_ fun v8 G10 H10 g10 r8 => ?_
      have hel := every_len sz cs
      have hes := every_shp okp
      have orr := okr.rec ok
      have g310 := g39.trans g10
      have e810 : Ex G8 G10 := g9.gg.trans g10.gg
      have r710 := (rRec K sz st).mo _ _ _ e810 r78
      have hends : ((everyOf sz cs).map fun x => rWords (settleOf st x)) = ((everyOf sz cs).map (settleOf st)).map rWords := by
        rw [List.map_map]
        rfl
      refine st_asg (R := rGood ((everyOf sz cs).map (settleOf st))) (ev_to (ev_lcM (j := 11) (vs := [11]) (everyOf sz cs) rWords (fun x => rWords (settleOf st x)) (ei_list (ev_var (i := 8) rfl r8)) (by omega) (fun _ => rfl) fun x hx y G11 e ry => ev_settle (ev_var (i := 7) rfl ((rRec K sz st).mo _ _ _ e r710)) (ev_var (i := 11) rfl ry) orr (hes x hx)) (congrArg rLst hends)) g10.at_ fun v9 G11 H11 g11 r9 => ?_
      have g311 := g310.trans g11
      have e811 := e810.trans g11.gg
      have r811 := (rGood (everyOf sz cs)).mo _ _ _ g11.gg r8
      have r311 := (rLst (sz.map isN)).mo _ _ _ e811 r38
      have r511 := (rProg K sz cs).mo _ _ _ e811 r58
      have r611 := (rLst (st.map rLStp)).mo _ _ _ e811 r68
      have r711 := (rRec K sz st).mo _ _ _ e811 r78
      have okA : okGood sz ((everyOf sz cs).map (settleOf st)) := ⟨by rw [List.length_map]; omega, fun y hy => by
        obtain ⟨x, hx, rfl⟩ := List.mem_map.mp hy
        exact settle_shp orr (hes x hx)⟩
      have okB : okGood sz ((everyOf sz cs).map (settleOf st) ++ everyOf sz cs) := ⟨by rw [List.length_append, List.length_map]; omega, fun y hy => by
        rcases List.mem_append.mp hy with z | z
        · exact okA.2 y z
        · exact hes y z⟩
      have hpos : 1 ≤ (everyOf sz cs).length := by
        rw [hel, countB_eq]
        exact imgs_ne _ _
      have hmapl : (((everyOf sz cs).map (settleOf st)).map rWords).length = (everyOf sz cs).length := by rw [List.length_map, List.length_map]
      refine st_forB (K := K) g311 (Ys := [rGS sz, rGS sz, rGS sz]) (ei_tup (ev_tup (ea_cons (Ev.imp (ev_var (i := 9) rfl r9) fun v G' _ r => ⟨_, okA, r⟩) (ea_cons (Ev.imp (ev_cat (Rs := ((everyOf sz cs).map (settleOf st)).map rWords) (Ss := (everyOf sz cs).map rWords) (ev_var (i := 9) rfl r9) (ev_var (i := 8) rfl r811) ?_) fun v G' _ r => ⟨_, okB, by unfold rGood; rw [List.map_append]; exact r⟩) (ea_cons (Ev.imp (ev_slTo (c := fun _ => True) (Rs := ((everyOf sz cs).map (settleOf st)).map rWords) (ev_var (i := 9) rfl r9) (ev_add1 (c := fun n => n < (everyOf sz cs).length) (ev_draw (m := (everyOf sz cs).length) (i := 2) rfl (ev_to (ev_lenL (ev_var (i := 9) rfl r9)) (congrArg isN hmapl)) hpos (by omega)) fun n _ => True.intro)) fun v G' _ ⟨k, r⟩ => ⟨_, good_take okA k, by unfold rGood; rw [List.map_take]; exact r⟩) ea_nil))) (by simp)))
        (fun i σ G' H' => ∃ x10, σ = [some v, some (.int n), some (.ref p), some v3, some v4, some v5, some v6, some v7, some v8, some v9, x10, x11]) (fun _ _ _ => ⟨_, rfl⟩) (fun i σ G' H' G1 H1 p _ _ => p) ?_ ?_
      · rw [hmapl, List.length_map]
        omega
      · rintro j Z z σ' G12 H12 M hM hZ g12 e12 hz ⟨x10, rfl⟩
        have hz2 : (rGS sz).p z G12 := by
          have hm := List.mem_of_getElem? hZ
          have : Z = rGS sz := by simpa using hm
          rw [← this]
          exact hz
        obtain ⟨gd, okg, rg⟩ := hz2
        refine st_if (B := (· = false)) ((et_not (et_test (ev_call (R := isB true) (ea_cons (ev_var (i := 3) rfl ((rLst (sz.map isN)).mo _ _ _ e12 r311)) (ea_cons (ev_var (i := 5) rfl ((rProg K sz cs).mo _ _ _ e12 r511)) (ea_cons (ev_var (i := 7) rfl ((rRec K sz st).mo _ _ _ e12 r711)) (ea_cons (ev_var (i := 6) rfl ((rLst (st.map rLStp)).mo _ _ _ e12 r611)) (ea_cons (ev_var (i := 10) rfl rg) ea_nil))))) fun vs G13 e rs => ?_))).to rfl) g12.at_ (fun G13 H13 g13 z => nomatch z) fun G13 H13 g13 _ => hM _ _ _ g13.gg (g12.trans g13) ⟨_, rfl⟩
        obtain ⟨_, _, _, _, _, rfl, s1, s2, s3, s4, s5⟩ := all5 rs
        exact ⟨_, _, _, _, _, sz, cs, st, gd, rfl, s1, ok, s2, okp, hcnt, s3, s4, okr, s5, okg, rfl⟩
      · rintro σ' G12 H12 g12 e12 ⟨x10, rfl⟩
        exact hN _ _ _ g12.gg (gr_leave gA g12 hsN) ⟨_, _, _, _, _, _, _, _, _, _, _, rfl⟩
    · rintro σ' G1 H1 g1 _ ⟨x1, x2, x3, x4, x5, x6, x7, x8, x9, x10, x11, rfl⟩
      exact q _ _ _ g1 rfl
end
end Ls


/-! LsEnd -/
set_option maxHeartbeats 0
namespace Ls
open PySem PySem.Spec PyProof.Rows L2
theorem facts {P : Program} {w : World} {K : PySem.W.Frag} {h : Heap} {mg : Str → Option Value} {f : Addr} (X : K.In h) (G : h.Ns mainGlobals mg) (hfa : mg ("law" : Str) = some (.ref f)) (c : SaysX K) :
    ∃ fd : FuncData, (∀ (s : Shared) (v : Value), BindsTo s fd ⟨[v], []⟩ [("_law_script", v)]) ∧ ∀ base : Heap, K.In base → base.Ns mainGlobals mg → FnOk P w K mg base CX0 11 f fd ["_law_script"] (sp_law K) := by
  have T : Tx K mg := ⟨c, h, X, G⟩
  obtain ⟨fd, F⟩ := d_law_at T
  have e := hfa.symm.trans (g_law T)
  cases e
  have b := FunD.bindsA (ps := ["_law_script"]) F fun _ _ _ _ _ _ us hl => match us, hl with | [_], _ => rfl
  exact ⟨fd, fun s v => b s [v] rfl, fun base _ _ => ok_law T F⟩
end Ls
open PySem PySem.W PySem.Calls PyProof.Rows
theorem PySem.Challenge.cw_lateststore_k95_whole_recoveries_rules_a_holds : PySem.Challenge.rw_lateststore_k95_whole_recoveries_rules_a.Holds := by
  w_on; o_law
  refine HandSHeadRun.head_any (r := Ls.Rw) (q := view Ls.Rw.prog [85]) (H := Ls.hookX) (ob := Ls.ob) (M := 12000) (loose := Ls.looses) (d := HandSHeadRun.topDef Ls.Rw.prog 85) (kwd := []) Ls.ob_eq
    (by kernel_rfl) (fun s => by kernel_rfl) Ls.run (by kernel_rfl) (by kernel_rfl) (by kernel_rfl) (by rfl) (by first | assumption | decide +kernel) (by decide +kernel) ⟨rfl, rfl, rfl, rfl, rfl, by decide +kernel⟩ ?hw ?hc
  case hw => w_witness2
  case hc =>
    refine L2.walk_ofE (l := PySem.Challenge.rw_lateststore_k95_whole_recoveries_rules_a) (n := 63) (k := 11) (x := "_law_script") (CX := L2.CX0) rfl (by decide) (by kernel_rfl) ⟨rfl, by decide, by decide⟩ ?F (fun _ _ _ _ z => z)
    intro w mg fa h Y G hmg0
    obtain ⟨K, KX, c⟩ := Y
    have hmg : mg ("law" : PySem.Str) = some (.ref fa) := by
      have e : (HandSHeadRun.topDef Ls.Rw.prog 85).name = ("law" : PySem.Str) := by kernel_rfl
      rw [← e]
      exact hmg0
    obtain ⟨fd, hb, hF⟩ := Ls.facts (P := (PySem.Challenge.rw_lateststore_k95_whole_recoveries_rules_a).prog) (w := w) KX G hmg c
    exact ⟨K, fd, Ls.sp_law K, KX, hb, fun H a ns hl _ hS => ⟨H, Ls.isB true, Ls.Ex.refl H, ⟨.ref a, ns, rfl, ⟨a, rfl, hS⟩, rfl⟩, fun v G' H' _ r => r⟩, hF⟩

