import PyProof.Rows.All
import Wide.All
import OpenK.AllK
import Wide.FinOn
import KE.KStateDown
import HandS.ForMost
import HandS.Exc
import HandS.Defaults
import HandS.Head0
import HandS.Head1
import HandS.Head2
import HandS.HeadEnd
import HandS.HeadHook1
import HandS.HeadHook2
import KE.KNest
import KE.KNestM
import HandS.HeadHook3
import HandS.HeadHook4
import HandS.Lambda
import HandS.EndBits
import HandS.EndTab
import HandS.HeadWalk
import HandS.TupAny
import HandS.TupMul
import HandS.Style
import HandS.DictComp
import HandS.Zip
import HandS.IsInst
import HandS.Strs
import HandS.SortRule
import HandS.SortInts
import HandS.Conv
import HandS.Wide
import HandS.Flow
import KE.GoesMore
import PyProof.EnumMake
import PyProof.EnumFor
import HandS.SetFor
import KE.KDictZip
import PyProof.DictUpdate
import KE.KMinKey
import PyProof.Rows.CallKwBuiltin
import PySem.Challenge.RW_widerstripes_k93_whole_plain_steps_touch
set_option Elab.async false
set_option linter.all false
set_option maxRecDepth 100000
set_option maxHeartbeats 0
namespace WS
open PySem PySem.Spec PyProof.Rows L2
def top (i : Nat) : Stmt := PySem.Challenge.pw_widerstripes_k93_whole_plain_steps_touch.main.body.getD i (.Pass ⟨0, 0, 0, 0⟩)
abbrev s_as_tuples : Stmt := top 3
abbrev s_opened : Stmt := top 4
abbrev s_closed : Stmt := top 5
abbrev s_done_to : Stmt := top 6
abbrev s_loose_at : Stmt := top 7
abbrev s_image_after : Stmt := top 8
abbrev s_Cells_init : Stmt := inClass (top 9) 0
abbrev s_Cells_there : Stmt := inClass (top 9) 1
abbrev s_Cells_numbers : Stmt := inClass (top 9) 2
abbrev s_Cells_rows : Stmt := inClass (top 9) 3
abbrev s_Cells_cell : Stmt := inClass (top 9) 4
abbrev s_Cells_note : Stmt := inClass (top 9) 5
abbrev s_Cells_put : Stmt := inClass (top 9) 6
abbrev s_Cells_flush : Stmt := inClass (top 9) 7
abbrev s_Cells_trace : Stmt := inClass (top 9) 8
abbrev s_Cells_image : Stmt := inClass (top 9) 9
abbrev s_parity_disk : Stmt := top 23
abbrev s_data_disk : Stmt := top 24
abbrev s_place_of : Stmt := top 25
abbrev s_block_at : Stmt := top 26
abbrev s_State_init : Stmt := inClass (top 30) 0
abbrev s_State_field : Stmt := inClass (top 30) 1
abbrev s_State_layout_of : Stmt := inClass (top 30) 2
abbrev s_State_is_open : Stmt := inClass (top 30) 5
abbrev s_State_good : Stmt := inClass (top 30) 6
abbrev s_State_others : Stmt := inClass (top 30) 7
abbrev s_State_known : Stmt := inClass (top 30) 8
abbrev s_State_value : Stmt := inClass (top 30) 10
abbrev s_State_next_superblock : Stmt := inClass (top 30) 11
abbrev s_State_put_super : Stmt := inClass (top 30) 12
abbrev s_State_go_on : Stmt := inClass (top 30) 13
abbrev s_told : Stmt := top 33
abbrev s_made_of : Stmt := top 34
abbrev s_rows_from : Stmt := top 35
abbrev s_is_over : Stmt := top 36
abbrev s_ended : Stmt := top 37
abbrev s_rows_in_use : Stmt := top 38
abbrev s_next_row : Stmt := top 39
abbrev s_front_behind : Stmt := top 40
abbrev s_is_critical : Stmt := top 41
abbrev s_stepped : Stmt := top 42
abbrev s_begun : Stmt := top 43
abbrev s_turned : Stmt := top 44
abbrev s_row_cells : Stmt := top 46
abbrev s_changes : Stmt := top 47
abbrev s_fields_behind : Stmt := top 48
abbrev s_row_values : Stmt := top 49
abbrev s_put_aside : Stmt := top 50
abbrev s_step : Stmt := top 51
abbrev s_turn : Stmt := top 52
abbrev s_change : Stmt := top 53
abbrev s_log_parity : Stmt := top 55
abbrev s_log_parities : Stmt := top 56
abbrev s_greatest : Stmt := top 58
abbrev s_away : Stmt := top 59
abbrev s_same_everywhere : Stmt := top 60
abbrev s_aside_values : Stmt := top 61
abbrev s_finish_row : Stmt := top 62
abbrev s_play_logs : Stmt := top 63
abbrev s_named : Stmt := top 64
abbrev s_later : Stmt := top 65
abbrev s_restart : Stmt := top 66
abbrev s_Array_init : Stmt := inClass (top 68) 0
abbrev s_Array_superblock : Stmt := inClass (top 68) 1
abbrev s_Array_trace : Stmt := inClass (top 68) 3
abbrev s_Array_image : Stmt := inClass (top 68) 4
abbrev s_Array_cut : Stmt := inClass (top 68) 5
abbrev s_look_for : Stmt := top 69
abbrev s_made : Stmt := top 72
abbrev s_bad_disks : Stmt := top 74
abbrev s_look_known : Stmt := top 75
abbrev s_partial_at : Stmt := top 77
abbrev s_put_data : Stmt := top 79
abbrev s_put_with_parity : Stmt := top 80
abbrev s_write : Stmt := top 81
abbrev s_L_cell_at : Stmt := top 83
abbrev s_L_box : Stmt := top 84
abbrev s_L_take : Stmt := top 85
abbrev s_L_pick : Stmt := top 86
abbrev s_L_same : Stmt := top 87
abbrev s_L_parity : Stmt := top 88
abbrev s_L_spot : Stmt := top 89
abbrev s_L_of : Stmt := top 90
abbrev s_L_used : Stmt := top 91
abbrev s_L_cell : Stmt := top 92
abbrev s_L_known : Stmt := top 93
abbrev s_L_told : Stmt := top 94
abbrev s_L_room : Stmt := top 95
abbrev s_L_shape : Stmt := top 96
abbrev s_L_worth : Stmt := top 97
abbrev s_L_begun : Stmt := top 98
abbrev s_L_moved : Stmt := top 99
abbrev s_L_kept : Stmt := top 100
abbrev s_L_plain_right : Stmt := top 101
abbrev s_L_aside_right : Stmt := top 102
abbrev s_L_right : Stmt := top 103
abbrev s_law : Stmt := top 104
def dd_as_tuples : He.DefD := ⟨("as_tuples", none), "as_tuples", "as_tuples", defArgs s_as_tuples, defBody s_as_tuples, defScope s_as_tuples, [], []⟩
def dd_opened : He.DefD := ⟨("opened", none), "opened", "opened", defArgs s_opened, defBody s_opened, defScope s_opened, [], []⟩
def dd_closed : He.DefD := ⟨("closed", none), "closed", "closed", defArgs s_closed, defBody s_closed, defScope s_closed, [], []⟩
def dd_done_to : He.DefD := ⟨("done_to", none), "done_to", "done_to", defArgs s_done_to, defBody s_done_to, defScope s_done_to, [], []⟩
def dd_loose_at : He.DefD := ⟨("loose_at", none), "loose_at", "loose_at", defArgs s_loose_at, defBody s_loose_at, defScope s_loose_at, [], []⟩
def dd_image_after : He.DefD := ⟨("image_after", none), "image_after", "image_after", defArgs s_image_after, defBody s_image_after, defScope s_image_after, [], []⟩
def dd_Cells_init : He.DefD := ⟨("Cells", some "__init__"), "__init__", "Cells.__init__", defArgs s_Cells_init, defBody s_Cells_init, defScope s_Cells_init, [], []⟩
def dd_Cells_there : He.DefD := ⟨("Cells", some "there"), "there", "Cells.there", defArgs s_Cells_there, defBody s_Cells_there, defScope s_Cells_there, [], []⟩
def dd_Cells_numbers : He.DefD := ⟨("Cells", some "numbers"), "numbers", "Cells.numbers", defArgs s_Cells_numbers, defBody s_Cells_numbers, defScope s_Cells_numbers, [], []⟩
def dd_Cells_rows : He.DefD := ⟨("Cells", some "rows"), "rows", "Cells.rows", defArgs s_Cells_rows, defBody s_Cells_rows, defScope s_Cells_rows, [], []⟩
def dd_Cells_cell : He.DefD := ⟨("Cells", some "cell"), "cell", "Cells.cell", defArgs s_Cells_cell, defBody s_Cells_cell, defScope s_Cells_cell, [], []⟩
def dd_Cells_note : He.DefD := ⟨("Cells", some "note"), "note", "Cells.note", defArgs s_Cells_note, defBody s_Cells_note, defScope s_Cells_note, [], []⟩
def dd_Cells_put : He.DefD := ⟨("Cells", some "put"), "put", "Cells.put", defArgs s_Cells_put, defBody s_Cells_put, defScope s_Cells_put, [], []⟩
def dd_Cells_flush : He.DefD := ⟨("Cells", some "flush"), "flush", "Cells.flush", defArgs s_Cells_flush, defBody s_Cells_flush, defScope s_Cells_flush, [], []⟩
def dd_Cells_trace : He.DefD := ⟨("Cells", some "trace"), "trace", "Cells.trace", defArgs s_Cells_trace, defBody s_Cells_trace, defScope s_Cells_trace, [], []⟩
def dd_Cells_image : He.DefD := ⟨("Cells", some "image"), "image", "Cells.image", defArgs s_Cells_image, defBody s_Cells_image, defScope s_Cells_image, [], []⟩
def dd_parity_disk : He.DefD := ⟨("parity_disk", none), "parity_disk", "parity_disk", defArgs s_parity_disk, defBody s_parity_disk, defScope s_parity_disk, [], []⟩
def dd_data_disk : He.DefD := ⟨("data_disk", none), "data_disk", "data_disk", defArgs s_data_disk, defBody s_data_disk, defScope s_data_disk, [], []⟩
def dd_place_of : He.DefD := ⟨("place_of", none), "place_of", "place_of", defArgs s_place_of, defBody s_place_of, defScope s_place_of, [], []⟩
def dd_block_at : He.DefD := ⟨("block_at", none), "block_at", "block_at", defArgs s_block_at, defBody s_block_at, defScope s_block_at, [], []⟩
def dd_State_init : He.DefD := ⟨("State", some "__init__"), "__init__", "State.__init__", defArgs s_State_init, defBody s_State_init, defScope s_State_init, [], []⟩
def dd_State_field : He.DefD := ⟨("State", some "field"), "field", "State.field", defArgs s_State_field, defBody s_State_field, defScope s_State_field, [], []⟩
def dd_State_layout_of : He.DefD := ⟨("State", some "layout_of"), "layout_of", "State.layout_of", defArgs s_State_layout_of, defBody s_State_layout_of, defScope s_State_layout_of, [], []⟩
def dd_State_is_open : He.DefD := ⟨("State", some "is_open"), "is_open", "State.is_open", defArgs s_State_is_open, defBody s_State_is_open, defScope s_State_is_open, [], []⟩
def dd_State_good : He.DefD := ⟨("State", some "good"), "good", "State.good", defArgs s_State_good, defBody s_State_good, defScope s_State_good, [], []⟩
def dd_State_others : He.DefD := ⟨("State", some "others"), "others", "State.others", defArgs s_State_others, defBody s_State_others, defScope s_State_others, [], []⟩
def dd_State_known : He.DefD := ⟨("State", some "known"), "known", "State.known", defArgs s_State_known, defBody s_State_known, defScope s_State_known, [], []⟩
def dd_State_value : He.DefD := ⟨("State", some "value"), "value", "State.value", defArgs s_State_value, defBody s_State_value, defScope s_State_value, [], []⟩
def dd_State_next_superblock : He.DefD := ⟨("State", some "next_superblock"), "next_superblock", "State.next_superblock", defArgs s_State_next_superblock, defBody s_State_next_superblock, defScope s_State_next_superblock, [], []⟩
def dd_State_put_super : He.DefD := ⟨("State", some "put_super"), "put_super", "State.put_super", defArgs s_State_put_super, defBody s_State_put_super, defScope s_State_put_super, [], []⟩
def dd_State_go_on : He.DefD := ⟨("State", some "go_on"), "go_on", "State.go_on", defArgs s_State_go_on, defBody s_State_go_on, defScope s_State_go_on, [], []⟩
def dd_told : He.DefD := ⟨("told", none), "told", "told", defArgs s_told, defBody s_told, defScope s_told, [], []⟩
def dd_made_of : He.DefD := ⟨("made_of", none), "made_of", "made_of", defArgs s_made_of, defBody s_made_of, defScope s_made_of, [], []⟩
def dd_rows_from : He.DefD := ⟨("rows_from", none), "rows_from", "rows_from", defArgs s_rows_from, defBody s_rows_from, defScope s_rows_from, [], []⟩
def dd_is_over : He.DefD := ⟨("is_over", none), "is_over", "is_over", defArgs s_is_over, defBody s_is_over, defScope s_is_over, [], []⟩
def dd_ended : He.DefD := ⟨("ended", none), "ended", "ended", defArgs s_ended, defBody s_ended, defScope s_ended, [], []⟩
def dd_rows_in_use : He.DefD := ⟨("rows_in_use", none), "rows_in_use", "rows_in_use", defArgs s_rows_in_use, defBody s_rows_in_use, defScope s_rows_in_use, [], []⟩
def dd_next_row : He.DefD := ⟨("next_row", none), "next_row", "next_row", defArgs s_next_row, defBody s_next_row, defScope s_next_row, [], []⟩
def dd_front_behind : He.DefD := ⟨("front_behind", none), "front_behind", "front_behind", defArgs s_front_behind, defBody s_front_behind, defScope s_front_behind, [], []⟩
def dd_is_critical : He.DefD := ⟨("is_critical", none), "is_critical", "is_critical", defArgs s_is_critical, defBody s_is_critical, defScope s_is_critical, [], []⟩
def dd_stepped : He.DefD := ⟨("stepped", none), "stepped", "stepped", defArgs s_stepped, defBody s_stepped, defScope s_stepped, [], []⟩
def dd_begun : He.DefD := ⟨("begun", none), "begun", "begun", defArgs s_begun, defBody s_begun, defScope s_begun, [], []⟩
def dd_turned : He.DefD := ⟨("turned", none), "turned", "turned", defArgs s_turned, defBody s_turned, defScope s_turned, [], []⟩
def dd_row_cells : He.DefD := ⟨("row_cells", none), "row_cells", "row_cells", defArgs s_row_cells, defBody s_row_cells, defScope s_row_cells, [], []⟩
def dd_changes : He.DefD := ⟨("changes", none), "changes", "changes", defArgs s_changes, defBody s_changes, defScope s_changes, [], []⟩
def dd_fields_behind : He.DefD := ⟨("fields_behind", none), "fields_behind", "fields_behind", defArgs s_fields_behind, defBody s_fields_behind, defScope s_fields_behind, [], []⟩
def dd_row_values : He.DefD := ⟨("row_values", none), "row_values", "row_values", defArgs s_row_values, defBody s_row_values, defScope s_row_values, [], []⟩
def dd_put_aside : He.DefD := ⟨("put_aside", none), "put_aside", "put_aside", defArgs s_put_aside, defBody s_put_aside, defScope s_put_aside, [], []⟩
def dd_step : He.DefD := ⟨("step", none), "step", "step", defArgs s_step, defBody s_step, defScope s_step, [], []⟩
def dd_turn : He.DefD := ⟨("turn", none), "turn", "turn", defArgs s_turn, defBody s_turn, defScope s_turn, [], []⟩
def dd_change : He.DefD := ⟨("change", none), "change", "change", defArgs s_change, defBody s_change, defScope s_change, [], []⟩
def dd_log_parity : He.DefD := ⟨("log_parity", none), "log_parity", "log_parity", defArgs s_log_parity, defBody s_log_parity, defScope s_log_parity, [], []⟩
def dd_log_parities : He.DefD := ⟨("log_parities", none), "log_parities", "log_parities", defArgs s_log_parities, defBody s_log_parities, defScope s_log_parities, [], []⟩
def dd_greatest : He.DefD := ⟨("greatest", none), "greatest", "greatest", defArgs s_greatest, defBody s_greatest, defScope s_greatest, [], []⟩
def dd_away : He.DefD := ⟨("away", none), "away", "away", defArgs s_away, defBody s_away, defScope s_away, [], []⟩
def dd_same_everywhere : He.DefD := ⟨("same_everywhere", none), "same_everywhere", "same_everywhere", defArgs s_same_everywhere, defBody s_same_everywhere, defScope s_same_everywhere, [], []⟩
def dd_aside_values : He.DefD := ⟨("aside_values", none), "aside_values", "aside_values", defArgs s_aside_values, defBody s_aside_values, defScope s_aside_values, [], []⟩
def dd_finish_row : He.DefD := ⟨("finish_row", none), "finish_row", "finish_row", defArgs s_finish_row, defBody s_finish_row, defScope s_finish_row, [], []⟩
def dd_play_logs : He.DefD := ⟨("play_logs", none), "play_logs", "play_logs", defArgs s_play_logs, defBody s_play_logs, defScope s_play_logs, [], []⟩
def dd_named : He.DefD := ⟨("named", none), "named", "named", defArgs s_named, defBody s_named, defScope s_named, [], []⟩
def dd_later : He.DefD := ⟨("later", none), "later", "later", defArgs s_later, defBody s_later, defScope s_later, [], []⟩
def dd_restart : He.DefD := ⟨("restart", none), "restart", "restart", defArgs s_restart, defBody s_restart, defScope s_restart, [], []⟩
def dd_Array_init : He.DefD := ⟨("Array", some "__init__"), "__init__", "Array.__init__", defArgs s_Array_init, defBody s_Array_init, defScope s_Array_init, [], []⟩
def dd_Array_superblock : He.DefD := ⟨("Array", some "superblock"), "superblock", "Array.superblock", defArgs s_Array_superblock, defBody s_Array_superblock, defScope s_Array_superblock, [], []⟩
def dd_Array_trace : He.DefD := ⟨("Array", some "trace"), "trace", "Array.trace", defArgs s_Array_trace, defBody s_Array_trace, defScope s_Array_trace, [], []⟩
def dd_Array_image : He.DefD := ⟨("Array", some "image"), "image", "Array.image", defArgs s_Array_image, defBody s_Array_image, defScope s_Array_image, [], []⟩
def dd_Array_cut : He.DefD := ⟨("Array", some "cut"), "cut", "Array.cut", defArgs s_Array_cut, defBody s_Array_cut, defScope s_Array_cut, [], []⟩
def dd_look_for : He.DefD := ⟨("look_for", none), "look_for", "look_for", defArgs s_look_for, defBody s_look_for, defScope s_look_for, [], []⟩
def dd_made : He.DefD := ⟨("made", none), "made", "made", defArgs s_made, defBody s_made, defScope s_made, [.non], []⟩
def dd_bad_disks : He.DefD := ⟨("bad_disks", none), "bad_disks", "bad_disks", defArgs s_bad_disks, defBody s_bad_disks, defScope s_bad_disks, [], []⟩
def dd_look_known : He.DefD := ⟨("look_known", none), "look_known", "look_known", defArgs s_look_known, defBody s_look_known, defScope s_look_known, [.non], []⟩
def dd_partial_at : He.DefD := ⟨("partial_at", none), "partial_at", "partial_at", defArgs s_partial_at, defBody s_partial_at, defScope s_partial_at, [], []⟩
def dd_put_data : He.DefD := ⟨("put_data", none), "put_data", "put_data", defArgs s_put_data, defBody s_put_data, defScope s_put_data, [], []⟩
def dd_put_with_parity : He.DefD := ⟨("put_with_parity", none), "put_with_parity", "put_with_parity", defArgs s_put_with_parity, defBody s_put_with_parity, defScope s_put_with_parity, [], []⟩
def dd_write : He.DefD := ⟨("write", none), "write", "write", defArgs s_write, defBody s_write, defScope s_write, [], []⟩
def dd_L_cell_at : He.DefD := ⟨("_law_cell_at", none), "_law_cell_at", "_law_cell_at", defArgs s_L_cell_at, defBody s_L_cell_at, defScope s_L_cell_at, [], []⟩
def dd_L_box : He.DefD := ⟨("_law_box", none), "_law_box", "_law_box", defArgs s_L_box, defBody s_L_box, defScope s_L_box, [], []⟩
def dd_L_take : He.DefD := ⟨("_law_take", none), "_law_take", "_law_take", defArgs s_L_take, defBody s_L_take, defScope s_L_take, [], []⟩
def dd_L_pick : He.DefD := ⟨("_law_pick", none), "_law_pick", "_law_pick", defArgs s_L_pick, defBody s_L_pick, defScope s_L_pick, [], []⟩
def dd_L_same : He.DefD := ⟨("_law_same", none), "_law_same", "_law_same", defArgs s_L_same, defBody s_L_same, defScope s_L_same, [], []⟩
def dd_L_parity : He.DefD := ⟨("_law_parity", none), "_law_parity", "_law_parity", defArgs s_L_parity, defBody s_L_parity, defScope s_L_parity, [], []⟩
def dd_L_spot : He.DefD := ⟨("_law_spot", none), "_law_spot", "_law_spot", defArgs s_L_spot, defBody s_L_spot, defScope s_L_spot, [], []⟩
def dd_L_of : He.DefD := ⟨("_law_of", none), "_law_of", "_law_of", defArgs s_L_of, defBody s_L_of, defScope s_L_of, [], []⟩
def dd_L_used : He.DefD := ⟨("_law_used", none), "_law_used", "_law_used", defArgs s_L_used, defBody s_L_used, defScope s_L_used, [], []⟩
def dd_L_cell : He.DefD := ⟨("_law_cell", none), "_law_cell", "_law_cell", defArgs s_L_cell, defBody s_L_cell, defScope s_L_cell, [], []⟩
def dd_L_known : He.DefD := ⟨("_law_known", none), "_law_known", "_law_known", defArgs s_L_known, defBody s_L_known, defScope s_L_known, [], []⟩
def dd_L_told : He.DefD := ⟨("_law_told", none), "_law_told", "_law_told", defArgs s_L_told, defBody s_L_told, defScope s_L_told, [], []⟩
def dd_L_room : He.DefD := ⟨("_law_room", none), "_law_room", "_law_room", defArgs s_L_room, defBody s_L_room, defScope s_L_room, [], []⟩
def dd_L_shape : He.DefD := ⟨("_law_shape", none), "_law_shape", "_law_shape", defArgs s_L_shape, defBody s_L_shape, defScope s_L_shape, [], []⟩
def dd_L_worth : He.DefD := ⟨("_law_worth", none), "_law_worth", "_law_worth", defArgs s_L_worth, defBody s_L_worth, defScope s_L_worth, [], []⟩
def dd_L_begun : He.DefD := ⟨("_law_begun", none), "_law_begun", "_law_begun", defArgs s_L_begun, defBody s_L_begun, defScope s_L_begun, [], []⟩
def dd_L_moved : He.DefD := ⟨("_law_moved", none), "_law_moved", "_law_moved", defArgs s_L_moved, defBody s_L_moved, defScope s_L_moved, [], []⟩
def dd_L_kept : He.DefD := ⟨("_law_kept", none), "_law_kept", "_law_kept", defArgs s_L_kept, defBody s_L_kept, defScope s_L_kept, [], []⟩
def dd_L_plain_right : He.DefD := ⟨("_law_plain_right", none), "_law_plain_right", "_law_plain_right", defArgs s_L_plain_right, defBody s_L_plain_right, defScope s_L_plain_right, [], []⟩
def dd_L_aside_right : He.DefD := ⟨("_law_aside_right", none), "_law_aside_right", "_law_aside_right", defArgs s_L_aside_right, defBody s_L_aside_right, defScope s_L_aside_right, [], []⟩
def dd_L_right : He.DefD := ⟨("_law_right", none), "_law_right", "_law_right", defArgs s_L_right, defBody s_L_right, defScope s_L_right, [], []⟩
def dd_law : He.DefD := ⟨("law", none), "law", "law", defArgs s_law, defBody s_law, defScope s_law, [], []⟩
def fn : List He.DefD := [dd_as_tuples, dd_opened, dd_closed, dd_done_to, dd_loose_at, dd_image_after, dd_Cells_init, dd_Cells_there, dd_Cells_numbers, dd_Cells_rows, dd_Cells_cell, dd_Cells_note, dd_Cells_put, dd_Cells_flush, dd_Cells_trace, dd_Cells_image, dd_parity_disk, dd_data_disk, dd_place_of, dd_block_at, dd_State_init, dd_State_field, dd_State_layout_of, dd_State_is_open, dd_State_good, dd_State_others, dd_State_known, dd_State_value, dd_State_next_superblock, dd_State_put_super, dd_State_go_on, dd_told, dd_made_of, dd_rows_from, dd_is_over, dd_ended, dd_rows_in_use, dd_next_row, dd_front_behind, dd_is_critical, dd_stepped, dd_begun, dd_turned, dd_row_cells, dd_changes, dd_fields_behind, dd_row_values, dd_put_aside, dd_step, dd_turn, dd_change, dd_log_parity, dd_log_parities, dd_greatest, dd_away, dd_same_everywhere, dd_aside_values, dd_finish_row, dd_play_logs, dd_named, dd_later, dd_restart, dd_Array_init, dd_Array_superblock, dd_Array_trace, dd_Array_image, dd_Array_cut, dd_look_for, dd_made, dd_bad_disks, dd_look_known, dd_partial_at, dd_put_data, dd_put_with_parity, dd_write, dd_L_cell_at, dd_L_box, dd_L_take, dd_L_pick, dd_L_same, dd_L_parity, dd_L_spot, dd_L_of, dd_L_used, dd_L_cell, dd_L_known, dd_L_told, dd_L_room, dd_L_shape, dd_L_worth, dd_L_begun, dd_L_moved, dd_L_kept, dd_L_plain_right, dd_L_aside_right, dd_L_right, dd_law]
end WS
set_option Elab.async false
set_option linter.all false
set_option maxRecDepth 100000
set_option maxHeartbeats 0
namespace WS
open PySem PySem.Spec PyProof.Rows L2
/-- what is followed of an object: a def's code and defaults, a class's dict, a dict's values -/
def nxt (g : Addr → Option Obj) (a : Addr) : List Addr := match g a with
  | none => []
  | some o => match o.data with
    | .func fd => He.refV fd.code ++ He.refV fd.defaults
    | .cls cd => [cd.ns]
    | .dict es _ => es.toList.flatMap fun e => He.refV e.val
    | _ => []
def lv1 (g : Addr → Option Obj) : List Addr := nxt g mainGlobals
def lvn (g : Addr → Option Obj) : Nat → List Addr → List Addr
  | 0, _ => []
  | n + 1, as => as ++ lvn g n (as.flatMap (nxt g))
def asW (g : Addr → Option Obj) : List Addr := mainGlobals :: lvn g 4 (lv1 g)
/-- the facts over a part of the heap that is chosen by g -/
def obW (fa : List He.Fa) (fn : List He.DefD) (tf : List He.Defn) (ex : PySem.W.Frag → Bool) (g : Addr → Option Obj) : He.AlX :=
  let K := He.frT g (asW g)
  (He.obsT fa fn [] K, ex K && He.tabsB g tf K)
theorem obW_says {fa : List He.Fa} {fn : List He.DefD} {tf : List He.Defn} {ex : PySem.W.Frag → Bool} {w : World} {h : Heap}
    (e : obW fa fn tf ex h.get? = He.valX fn [] w) : ∃ K : PySem.W.Frag, K.In h ∧ He.SaysX fa fn [] tf ex w h K := by
  refine ⟨He.frT h.get? (asW h.get?), He.frT_in, ?_⟩
  obtain ⟨e1, e2⟩ := Prod.mk.inj e
  obtain ⟨x1, x2⟩ := He.ba e2
  have all := List.all_eq_true.mp x2
  have at_ : ∀ p ∈ tf, ∃ o, h.get? (He.cT (He.frT h.get? (asW h.get?)) p).2 = some o ∧ He.emptyTab o = true := by
    intro p hp
    have t := (He.ba (all p hp)).2
    cases q : h.get? (He.cT (He.frT h.get? (asW h.get?)) p).2 with
    | none => rw [q] at t; cases t
    | some o => rw [q] at t; exact ⟨o, rfl, t⟩
  constructor
  · exact e1
  · exact x1
  · exact fun p hp => (He.ba (all p hp)).1
  · intro p hp
    obtain ⟨o, q, z⟩ := at_ p hp
    exact He.frT_none q z
  · intro p hp
    obtain ⟨o, q, z⟩ := at_ p hp
    rw [q, He.emptyTab_eq z]
def hookW (fa : List He.Fa) (fn : List He.DefD) (tf : List He.Defn) (ex : PySem.W.Frag → Bool) : PySem.W.Hook where
  α := He.AlX
  obs := fun s => obW fa fn tf ex s.heap.get?
  val := fun w => He.valX fn [] w
  says := fun w h => ∃ K : PySem.W.Frag, K.In h ∧ He.SaysX fa fn [] tf ex w h K
  of := fun _ _ e => obW_says e
  keeps := fun _ _ _ h k => by
    obtain ⟨K, hK, c⟩ := h
    exact ⟨K, PySem.W.Frag.In.keeps hK k, { t := c.t, more := c.more, hd := c.hd, out := c.out, empty := fun p hp => k _ _ (c.empty p hp) }⟩
theorem obW_eq {fa : List He.Fa} {fn : List He.DefD} {tf : List He.Defn} {ex : PySem.W.Frag → Bool} {g : Addr → Option Obj} {s : Shared} (h : ∀ a, g a = s.heap.get? a) :
    obW fa fn tf ex g = (hookW fa fn tf ex).obs s := by
  have e : g = s.heap.get? := funext h
  subst e
  rfl
end WS
set_option Elab.async false
set_option linter.all false
set_option maxRecDepth 100000
set_option maxHeartbeats 4000000
namespace WS
open PySem PySem.Spec PyProof.Rows L2
def fa0 : List He.Fa := [.glo "as_tuples", .glo "opened", .glo "closed", .glo "done_to", .glo "loose_at", .glo "image_after", .glo "parity_disk", .glo "data_disk", .glo "place_of", .glo "block_at", .glo "told", .glo "made_of", .glo "rows_from", .glo "is_over", .glo "ended", .glo "rows_in_use", .glo "next_row", .glo "front_behind", .glo "is_critical", .glo "stepped", .glo "begun", .glo "turned", .glo "row_cells", .glo "changes", .glo "fields_behind", .glo "row_values", .glo "put_aside", .glo "step", .glo "turn", .glo "change"]
def fa1 : List He.Fa := [.glo "log_parity", .glo "log_parities", .glo "greatest", .glo "away", .glo "same_everywhere", .glo "aside_values", .glo "finish_row", .glo "play_logs", .glo "named", .glo "later", .glo "restart", .glo "look_for", .glo "made", .glo "bad_disks", .glo "look_known", .glo "partial_at", .glo "put_data", .glo "put_with_parity", .glo "write", .glo "_law_cell_at", .glo "_law_box", .glo "_law_take", .glo "_law_pick", .glo "_law_same", .glo "_law_parity", .glo "_law_spot", .glo "_law_of", .glo "_law_used", .glo "_law_cell", .glo "_law_known"]
def fa2 : List He.Fa := [.glo "_law_told", .glo "_law_room", .glo "_law_shape", .glo "_law_worth", .glo "_law_begun", .glo "_law_moved", .glo "_law_kept", .glo "_law_plain_right", .glo "_law_aside_right", .glo "_law_right", .glo "law", .glo "Cells", .glo "State", .glo "Array", .glo "METAS", .glo "LEFT", .glo "SYMMETRIC", .glo "FIELDS", .free "isinstance", .free "list", .free "tuple", .free "enumerate", .free "len", .free "range", .free "dict", .free "zip", .free "min", .free "max", .free "sorted", .free "set"]
def fa3 : List He.Fa := [.free "abs", .free "int", .free "repr", .free "any", .free "all", .str "UP" "up", .str "DOWN" "down", .int "MOST_DISKS" 8, .cls "Cells", .mkr "Cells", .noat "Cells" "begun", .noat "Cells" "disks", .noat "Cells" "done", .noat "Cells" "is_loose", .cls "State", .mkr "State", .noat "State" "cells", .noat "State" "own_superblock", .cls "Array", .mkr "Array", .noat "Array" "state", .meth "Cells" "there", .meth "Cells" "numbers", .meth "Cells" "rows", .meth "Cells" "cell", .meth "Cells" "note", .meth "Cells" "put", .meth "Cells" "flush", .meth "Cells" "trace", .meth "Cells" "image"]
def fa4 : List He.Fa := [.meth "State" "field", .meth "State" "layout_of", .meth "State" "is_open", .meth "State" "good", .meth "State" "others", .meth "State" "known", .meth "State" "value", .meth "State" "next_superblock", .meth "State" "put_super", .meth "State" "go_on", .meth "Array" "superblock", .meth "Array" "trace", .meth "Array" "image", .meth "Array" "cut"]
def fa : List He.Fa := fa0 ++ fa1 ++ fa2 ++ fa3 ++ fa4
def noDict (K : PySem.W.Frag) (x : Str) : Bool := match K.lookup (He.ga K x) with
  | some ⟨.type c, none, _, _⟩ => decide (c = "tuple")
  | _ => false
def ex (K : PySem.W.Frag) : Bool := (He.tupB K "METAS" [.str "superblock", .str "log", .str "aside"] && noDict K "METAS") && (He.tupB K "LEFT" [.str "left-symmetric", .str "left-asymmetric"] && noDict K "LEFT") && (He.tupB K "SYMMETRIC" [.str "left-symmetric", .str "right-symmetric"] && noDict K "SYMMETRIC") && (He.tupB K "FIELDS" [.str "number", .str "blocks", .str "layout", .str "target", .str "way", .str "front", .str "aside", .str "missing", .str "rebuilt"] && noDict K "FIELDS")
def tf : List He.Defn := [("greatest", none)]
theorem noDict_ok {K : PySem.W.Frag} {x : Str} (h : noDict K x = true) : ∃ o, K.lookup (He.ga K x) = some o ∧ o.cls = .type "tuple" ∧ o.dict = none := by
  unfold noDict at h
  split at h
  · rename_i c d sl q
    exact ⟨_, q, congrArg Value.type (of_decide_eq_true h), rfl⟩
  · cases h
/-- what the top has written, by name -/
structure Tx (K : PySem.W.Frag) (mg : Str → Option Value) : Prop where
  b_isinstance : mg "isinstance" = none
  b_list : mg "list" = none
  b_tuple : mg "tuple" = none
  b_enumerate : mg "enumerate" = none
  b_len : mg "len" = none
  b_range : mg "range" = none
  b_dict : mg "dict" = none
  b_zip : mg "zip" = none
  b_min : mg "min" = none
  b_max : mg "max" = none
  b_sorted : mg "sorted" = none
  b_set : mg "set" = none
  b_abs : mg "abs" = none
  b_int : mg "int" = none
  b_repr : mg "repr" = none
  b_any : mg "any" = none
  b_all : mg "all" = none
  m_METAS : mg "METAS" = some (.ref (He.ga K "METAS"))
  m_LEFT : mg "LEFT" = some (.ref (He.ga K "LEFT"))
  m_SYMMETRIC : mg "SYMMETRIC" = some (.ref (He.ga K "SYMMETRIC"))
  m_FIELDS : mg "FIELDS" = some (.ref (He.ga K "FIELDS"))
  m_UP : ∃ u, mg "UP" = some (.str "up" u)
  m_DOWN : ∃ u, mg "DOWN" = some (.str "down" u)
  m_MOST_DISKS : ∃ u, mg "MOST_DISKS" = some (.int 8 u)
  m_Cells : mg "Cells" = some (.ref (He.ga K "Cells"))
  c_Cells : Cls K (He.ga K "Cells")
  k_Cells : Mk K (He.ga K "Cells") (He.ma K (He.ga K "Cells") "__init__")
  n_Cells_begun : NoAttr K (He.ga K "Cells") "begun"
  n_Cells_disks : NoAttr K (He.ga K "Cells") "disks"
  n_Cells_done : NoAttr K (He.ga K "Cells") "done"
  n_Cells_is_loose : NoAttr K (He.ga K "Cells") "is_loose"
  m_State : mg "State" = some (.ref (He.ga K "State"))
  c_State : Cls K (He.ga K "State")
  k_State : Mk K (He.ga K "State") (He.ma K (He.ga K "State") "__init__")
  n_State_cells : NoAttr K (He.ga K "State") "cells"
  n_State_own_superblock : NoAttr K (He.ga K "State") "own_superblock"
  m_Array : mg "Array" = some (.ref (He.ga K "Array"))
  c_Array : Cls K (He.ga K "Array")
  k_Array : Mk K (He.ga K "Array") (He.ma K (He.ga K "Array") "__init__")
  n_Array_state : NoAttr K (He.ga K "Array") "state"
  m_as_tuples : mg "as_tuples" = some (.ref (He.ga K "as_tuples"))
  m_opened : mg "opened" = some (.ref (He.ga K "opened"))
  m_closed : mg "closed" = some (.ref (He.ga K "closed"))
  m_done_to : mg "done_to" = some (.ref (He.ga K "done_to"))
  m_loose_at : mg "loose_at" = some (.ref (He.ga K "loose_at"))
  m_image_after : mg "image_after" = some (.ref (He.ga K "image_after"))
  h_Cells_there : Meth K (He.ga K "Cells") "there" (He.ma K (He.ga K "Cells") "there")
  h_Cells_numbers : Meth K (He.ga K "Cells") "numbers" (He.ma K (He.ga K "Cells") "numbers")
  h_Cells_rows : Meth K (He.ga K "Cells") "rows" (He.ma K (He.ga K "Cells") "rows")
  h_Cells_cell : Meth K (He.ga K "Cells") "cell" (He.ma K (He.ga K "Cells") "cell")
  h_Cells_note : Meth K (He.ga K "Cells") "note" (He.ma K (He.ga K "Cells") "note")
  h_Cells_put : Meth K (He.ga K "Cells") "put" (He.ma K (He.ga K "Cells") "put")
  h_Cells_flush : Meth K (He.ga K "Cells") "flush" (He.ma K (He.ga K "Cells") "flush")
  h_Cells_trace : Meth K (He.ga K "Cells") "trace" (He.ma K (He.ga K "Cells") "trace")
  h_Cells_image : Meth K (He.ga K "Cells") "image" (He.ma K (He.ga K "Cells") "image")
  m_parity_disk : mg "parity_disk" = some (.ref (He.ga K "parity_disk"))
  m_data_disk : mg "data_disk" = some (.ref (He.ga K "data_disk"))
  m_place_of : mg "place_of" = some (.ref (He.ga K "place_of"))
  m_block_at : mg "block_at" = some (.ref (He.ga K "block_at"))
  h_State_field : Meth K (He.ga K "State") "field" (He.ma K (He.ga K "State") "field")
  h_State_layout_of : Meth K (He.ga K "State") "layout_of" (He.ma K (He.ga K "State") "layout_of")
  h_State_is_open : Meth K (He.ga K "State") "is_open" (He.ma K (He.ga K "State") "is_open")
  h_State_good : Meth K (He.ga K "State") "good" (He.ma K (He.ga K "State") "good")
  h_State_others : Meth K (He.ga K "State") "others" (He.ma K (He.ga K "State") "others")
  h_State_known : Meth K (He.ga K "State") "known" (He.ma K (He.ga K "State") "known")
  h_State_value : Meth K (He.ga K "State") "value" (He.ma K (He.ga K "State") "value")
  h_State_next_superblock : Meth K (He.ga K "State") "next_superblock" (He.ma K (He.ga K "State") "next_superblock")
  h_State_put_super : Meth K (He.ga K "State") "put_super" (He.ma K (He.ga K "State") "put_super")
  h_State_go_on : Meth K (He.ga K "State") "go_on" (He.ma K (He.ga K "State") "go_on")
  m_told : mg "told" = some (.ref (He.ga K "told"))
  m_made_of : mg "made_of" = some (.ref (He.ga K "made_of"))
  m_rows_from : mg "rows_from" = some (.ref (He.ga K "rows_from"))
  m_is_over : mg "is_over" = some (.ref (He.ga K "is_over"))
  m_ended : mg "ended" = some (.ref (He.ga K "ended"))
  m_rows_in_use : mg "rows_in_use" = some (.ref (He.ga K "rows_in_use"))
  m_next_row : mg "next_row" = some (.ref (He.ga K "next_row"))
  m_front_behind : mg "front_behind" = some (.ref (He.ga K "front_behind"))
  m_is_critical : mg "is_critical" = some (.ref (He.ga K "is_critical"))
  m_stepped : mg "stepped" = some (.ref (He.ga K "stepped"))
  m_begun : mg "begun" = some (.ref (He.ga K "begun"))
  m_turned : mg "turned" = some (.ref (He.ga K "turned"))
  m_row_cells : mg "row_cells" = some (.ref (He.ga K "row_cells"))
  m_changes : mg "changes" = some (.ref (He.ga K "changes"))
  m_fields_behind : mg "fields_behind" = some (.ref (He.ga K "fields_behind"))
  m_row_values : mg "row_values" = some (.ref (He.ga K "row_values"))
  m_put_aside : mg "put_aside" = some (.ref (He.ga K "put_aside"))
  m_step : mg "step" = some (.ref (He.ga K "step"))
  m_turn : mg "turn" = some (.ref (He.ga K "turn"))
  m_change : mg "change" = some (.ref (He.ga K "change"))
  m_log_parity : mg "log_parity" = some (.ref (He.ga K "log_parity"))
  m_log_parities : mg "log_parities" = some (.ref (He.ga K "log_parities"))
  m_greatest : mg "greatest" = some (.ref (He.ga K "greatest"))
  m_away : mg "away" = some (.ref (He.ga K "away"))
  m_same_everywhere : mg "same_everywhere" = some (.ref (He.ga K "same_everywhere"))
  m_aside_values : mg "aside_values" = some (.ref (He.ga K "aside_values"))
  m_finish_row : mg "finish_row" = some (.ref (He.ga K "finish_row"))
  m_play_logs : mg "play_logs" = some (.ref (He.ga K "play_logs"))
  m_named : mg "named" = some (.ref (He.ga K "named"))
  m_later : mg "later" = some (.ref (He.ga K "later"))
  m_restart : mg "restart" = some (.ref (He.ga K "restart"))
  h_Array_superblock : Meth K (He.ga K "Array") "superblock" (He.ma K (He.ga K "Array") "superblock")
  h_Array_trace : Meth K (He.ga K "Array") "trace" (He.ma K (He.ga K "Array") "trace")
  h_Array_image : Meth K (He.ga K "Array") "image" (He.ma K (He.ga K "Array") "image")
  h_Array_cut : Meth K (He.ga K "Array") "cut" (He.ma K (He.ga K "Array") "cut")
  m_look_for : mg "look_for" = some (.ref (He.ga K "look_for"))
  m_made : mg "made" = some (.ref (He.ga K "made"))
  m_bad_disks : mg "bad_disks" = some (.ref (He.ga K "bad_disks"))
  m_look_known : mg "look_known" = some (.ref (He.ga K "look_known"))
  m_partial_at : mg "partial_at" = some (.ref (He.ga K "partial_at"))
  m_put_data : mg "put_data" = some (.ref (He.ga K "put_data"))
  m_put_with_parity : mg "put_with_parity" = some (.ref (He.ga K "put_with_parity"))
  m_write : mg "write" = some (.ref (He.ga K "write"))
  m_L_cell_at : mg "_law_cell_at" = some (.ref (He.ga K "_law_cell_at"))
  m_L_box : mg "_law_box" = some (.ref (He.ga K "_law_box"))
  m_L_take : mg "_law_take" = some (.ref (He.ga K "_law_take"))
  m_L_pick : mg "_law_pick" = some (.ref (He.ga K "_law_pick"))
  m_L_same : mg "_law_same" = some (.ref (He.ga K "_law_same"))
  m_L_parity : mg "_law_parity" = some (.ref (He.ga K "_law_parity"))
  m_L_spot : mg "_law_spot" = some (.ref (He.ga K "_law_spot"))
  m_L_of : mg "_law_of" = some (.ref (He.ga K "_law_of"))
  m_L_used : mg "_law_used" = some (.ref (He.ga K "_law_used"))
  m_L_cell : mg "_law_cell" = some (.ref (He.ga K "_law_cell"))
  m_L_known : mg "_law_known" = some (.ref (He.ga K "_law_known"))
  m_L_told : mg "_law_told" = some (.ref (He.ga K "_law_told"))
  m_L_room : mg "_law_room" = some (.ref (He.ga K "_law_room"))
  m_L_shape : mg "_law_shape" = some (.ref (He.ga K "_law_shape"))
  m_L_worth : mg "_law_worth" = some (.ref (He.ga K "_law_worth"))
  m_L_begun : mg "_law_begun" = some (.ref (He.ga K "_law_begun"))
  m_L_moved : mg "_law_moved" = some (.ref (He.ga K "_law_moved"))
  m_L_kept : mg "_law_kept" = some (.ref (He.ga K "_law_kept"))
  m_L_plain_right : mg "_law_plain_right" = some (.ref (He.ga K "_law_plain_right"))
  m_L_aside_right : mg "_law_aside_right" = some (.ref (He.ga K "_law_aside_right"))
  m_L_right : mg "_law_right" = some (.ref (He.ga K "_law_right"))
  m_law : mg "law" = some (.ref (He.ga K "law"))
  f_as_tuples : ∃ fd, FunD K "as_tuples" "as_tuples" (defArgs s_as_tuples) (defBody s_as_tuples) (defScope s_as_tuples) [] [] (He.ga K "as_tuples") fd
  f_opened : ∃ fd, FunD K "opened" "opened" (defArgs s_opened) (defBody s_opened) (defScope s_opened) [] [] (He.ga K "opened") fd
  f_closed : ∃ fd, FunD K "closed" "closed" (defArgs s_closed) (defBody s_closed) (defScope s_closed) [] [] (He.ga K "closed") fd
  f_done_to : ∃ fd, FunD K "done_to" "done_to" (defArgs s_done_to) (defBody s_done_to) (defScope s_done_to) [] [] (He.ga K "done_to") fd
  f_loose_at : ∃ fd, FunD K "loose_at" "loose_at" (defArgs s_loose_at) (defBody s_loose_at) (defScope s_loose_at) [] [] (He.ga K "loose_at") fd
  f_image_after : ∃ fd, FunD K "image_after" "image_after" (defArgs s_image_after) (defBody s_image_after) (defScope s_image_after) [] [] (He.ga K "image_after") fd
  f_Cells_init : ∃ fd, FunD K "__init__" "Cells.__init__" (defArgs s_Cells_init) (defBody s_Cells_init) (defScope s_Cells_init) [] [] (He.ma K (He.ga K "Cells") "__init__") fd
  f_Cells_there : ∃ fd, FunD K "there" "Cells.there" (defArgs s_Cells_there) (defBody s_Cells_there) (defScope s_Cells_there) [] [] (He.ma K (He.ga K "Cells") "there") fd
  f_Cells_numbers : ∃ fd, FunD K "numbers" "Cells.numbers" (defArgs s_Cells_numbers) (defBody s_Cells_numbers) (defScope s_Cells_numbers) [] [] (He.ma K (He.ga K "Cells") "numbers") fd
  f_Cells_rows : ∃ fd, FunD K "rows" "Cells.rows" (defArgs s_Cells_rows) (defBody s_Cells_rows) (defScope s_Cells_rows) [] [] (He.ma K (He.ga K "Cells") "rows") fd
  f_Cells_cell : ∃ fd, FunD K "cell" "Cells.cell" (defArgs s_Cells_cell) (defBody s_Cells_cell) (defScope s_Cells_cell) [] [] (He.ma K (He.ga K "Cells") "cell") fd
  f_Cells_note : ∃ fd, FunD K "note" "Cells.note" (defArgs s_Cells_note) (defBody s_Cells_note) (defScope s_Cells_note) [] [] (He.ma K (He.ga K "Cells") "note") fd
  f_Cells_put : ∃ fd, FunD K "put" "Cells.put" (defArgs s_Cells_put) (defBody s_Cells_put) (defScope s_Cells_put) [] [] (He.ma K (He.ga K "Cells") "put") fd
  f_Cells_flush : ∃ fd, FunD K "flush" "Cells.flush" (defArgs s_Cells_flush) (defBody s_Cells_flush) (defScope s_Cells_flush) [] [] (He.ma K (He.ga K "Cells") "flush") fd
  f_Cells_trace : ∃ fd, FunD K "trace" "Cells.trace" (defArgs s_Cells_trace) (defBody s_Cells_trace) (defScope s_Cells_trace) [] [] (He.ma K (He.ga K "Cells") "trace") fd
  f_Cells_image : ∃ fd, FunD K "image" "Cells.image" (defArgs s_Cells_image) (defBody s_Cells_image) (defScope s_Cells_image) [] [] (He.ma K (He.ga K "Cells") "image") fd
  f_parity_disk : ∃ fd, FunD K "parity_disk" "parity_disk" (defArgs s_parity_disk) (defBody s_parity_disk) (defScope s_parity_disk) [] [] (He.ga K "parity_disk") fd
  f_data_disk : ∃ fd, FunD K "data_disk" "data_disk" (defArgs s_data_disk) (defBody s_data_disk) (defScope s_data_disk) [] [] (He.ga K "data_disk") fd
  f_place_of : ∃ fd, FunD K "place_of" "place_of" (defArgs s_place_of) (defBody s_place_of) (defScope s_place_of) [] [] (He.ga K "place_of") fd
  f_block_at : ∃ fd, FunD K "block_at" "block_at" (defArgs s_block_at) (defBody s_block_at) (defScope s_block_at) [] [] (He.ga K "block_at") fd
  f_State_init : ∃ fd, FunD K "__init__" "State.__init__" (defArgs s_State_init) (defBody s_State_init) (defScope s_State_init) [] [] (He.ma K (He.ga K "State") "__init__") fd
  f_State_field : ∃ fd, FunD K "field" "State.field" (defArgs s_State_field) (defBody s_State_field) (defScope s_State_field) [] [] (He.ma K (He.ga K "State") "field") fd
  f_State_layout_of : ∃ fd, FunD K "layout_of" "State.layout_of" (defArgs s_State_layout_of) (defBody s_State_layout_of) (defScope s_State_layout_of) [] [] (He.ma K (He.ga K "State") "layout_of") fd
  f_State_is_open : ∃ fd, FunD K "is_open" "State.is_open" (defArgs s_State_is_open) (defBody s_State_is_open) (defScope s_State_is_open) [] [] (He.ma K (He.ga K "State") "is_open") fd
  f_State_good : ∃ fd, FunD K "good" "State.good" (defArgs s_State_good) (defBody s_State_good) (defScope s_State_good) [] [] (He.ma K (He.ga K "State") "good") fd
  f_State_others : ∃ fd, FunD K "others" "State.others" (defArgs s_State_others) (defBody s_State_others) (defScope s_State_others) [] [] (He.ma K (He.ga K "State") "others") fd
  f_State_known : ∃ fd, FunD K "known" "State.known" (defArgs s_State_known) (defBody s_State_known) (defScope s_State_known) [] [] (He.ma K (He.ga K "State") "known") fd
  f_State_value : ∃ fd, FunD K "value" "State.value" (defArgs s_State_value) (defBody s_State_value) (defScope s_State_value) [] [] (He.ma K (He.ga K "State") "value") fd
  f_State_next_superblock : ∃ fd, FunD K "next_superblock" "State.next_superblock" (defArgs s_State_next_superblock) (defBody s_State_next_superblock) (defScope s_State_next_superblock) [] [] (He.ma K (He.ga K "State") "next_superblock") fd
  f_State_put_super : ∃ fd, FunD K "put_super" "State.put_super" (defArgs s_State_put_super) (defBody s_State_put_super) (defScope s_State_put_super) [] [] (He.ma K (He.ga K "State") "put_super") fd
  f_State_go_on : ∃ fd, FunD K "go_on" "State.go_on" (defArgs s_State_go_on) (defBody s_State_go_on) (defScope s_State_go_on) [] [] (He.ma K (He.ga K "State") "go_on") fd
  f_told : ∃ fd, FunD K "told" "told" (defArgs s_told) (defBody s_told) (defScope s_told) [] [] (He.ga K "told") fd
  f_made_of : ∃ fd, FunD K "made_of" "made_of" (defArgs s_made_of) (defBody s_made_of) (defScope s_made_of) [] [] (He.ga K "made_of") fd
  f_rows_from : ∃ fd, FunD K "rows_from" "rows_from" (defArgs s_rows_from) (defBody s_rows_from) (defScope s_rows_from) [] [] (He.ga K "rows_from") fd
  f_is_over : ∃ fd, FunD K "is_over" "is_over" (defArgs s_is_over) (defBody s_is_over) (defScope s_is_over) [] [] (He.ga K "is_over") fd
  f_ended : ∃ fd, FunD K "ended" "ended" (defArgs s_ended) (defBody s_ended) (defScope s_ended) [] [] (He.ga K "ended") fd
  f_rows_in_use : ∃ fd, FunD K "rows_in_use" "rows_in_use" (defArgs s_rows_in_use) (defBody s_rows_in_use) (defScope s_rows_in_use) [] [] (He.ga K "rows_in_use") fd
  f_next_row : ∃ fd, FunD K "next_row" "next_row" (defArgs s_next_row) (defBody s_next_row) (defScope s_next_row) [] [] (He.ga K "next_row") fd
  f_front_behind : ∃ fd, FunD K "front_behind" "front_behind" (defArgs s_front_behind) (defBody s_front_behind) (defScope s_front_behind) [] [] (He.ga K "front_behind") fd
  f_is_critical : ∃ fd, FunD K "is_critical" "is_critical" (defArgs s_is_critical) (defBody s_is_critical) (defScope s_is_critical) [] [] (He.ga K "is_critical") fd
  f_stepped : ∃ fd, FunD K "stepped" "stepped" (defArgs s_stepped) (defBody s_stepped) (defScope s_stepped) [] [] (He.ga K "stepped") fd
  f_begun : ∃ fd, FunD K "begun" "begun" (defArgs s_begun) (defBody s_begun) (defScope s_begun) [] [] (He.ga K "begun") fd
  f_turned : ∃ fd, FunD K "turned" "turned" (defArgs s_turned) (defBody s_turned) (defScope s_turned) [] [] (He.ga K "turned") fd
  f_row_cells : ∃ fd, FunD K "row_cells" "row_cells" (defArgs s_row_cells) (defBody s_row_cells) (defScope s_row_cells) [] [] (He.ga K "row_cells") fd
  f_changes : ∃ fd, FunD K "changes" "changes" (defArgs s_changes) (defBody s_changes) (defScope s_changes) [] [] (He.ga K "changes") fd
  f_fields_behind : ∃ fd, FunD K "fields_behind" "fields_behind" (defArgs s_fields_behind) (defBody s_fields_behind) (defScope s_fields_behind) [] [] (He.ga K "fields_behind") fd
  f_row_values : ∃ fd, FunD K "row_values" "row_values" (defArgs s_row_values) (defBody s_row_values) (defScope s_row_values) [] [] (He.ga K "row_values") fd
  f_put_aside : ∃ fd, FunD K "put_aside" "put_aside" (defArgs s_put_aside) (defBody s_put_aside) (defScope s_put_aside) [] [] (He.ga K "put_aside") fd
  f_step : ∃ fd, FunD K "step" "step" (defArgs s_step) (defBody s_step) (defScope s_step) [] [] (He.ga K "step") fd
  f_turn : ∃ fd, FunD K "turn" "turn" (defArgs s_turn) (defBody s_turn) (defScope s_turn) [] [] (He.ga K "turn") fd
  f_change : ∃ fd, FunD K "change" "change" (defArgs s_change) (defBody s_change) (defScope s_change) [] [] (He.ga K "change") fd
  f_log_parity : ∃ fd, FunD K "log_parity" "log_parity" (defArgs s_log_parity) (defBody s_log_parity) (defScope s_log_parity) [] [] (He.ga K "log_parity") fd
  f_log_parities : ∃ fd, FunD K "log_parities" "log_parities" (defArgs s_log_parities) (defBody s_log_parities) (defScope s_log_parities) [] [] (He.ga K "log_parities") fd
  f_greatest : ∃ fd, FunD K "greatest" "greatest" (defArgs s_greatest) (defBody s_greatest) (defScope s_greatest) [] [] (He.ga K "greatest") fd
  f_away : ∃ fd, FunD K "away" "away" (defArgs s_away) (defBody s_away) (defScope s_away) [] [] (He.ga K "away") fd
  f_same_everywhere : ∃ fd, FunD K "same_everywhere" "same_everywhere" (defArgs s_same_everywhere) (defBody s_same_everywhere) (defScope s_same_everywhere) [] [] (He.ga K "same_everywhere") fd
  f_aside_values : ∃ fd, FunD K "aside_values" "aside_values" (defArgs s_aside_values) (defBody s_aside_values) (defScope s_aside_values) [] [] (He.ga K "aside_values") fd
  f_finish_row : ∃ fd, FunD K "finish_row" "finish_row" (defArgs s_finish_row) (defBody s_finish_row) (defScope s_finish_row) [] [] (He.ga K "finish_row") fd
  f_play_logs : ∃ fd, FunD K "play_logs" "play_logs" (defArgs s_play_logs) (defBody s_play_logs) (defScope s_play_logs) [] [] (He.ga K "play_logs") fd
  f_named : ∃ fd, FunD K "named" "named" (defArgs s_named) (defBody s_named) (defScope s_named) [] [] (He.ga K "named") fd
  f_later : ∃ fd, FunD K "later" "later" (defArgs s_later) (defBody s_later) (defScope s_later) [] [] (He.ga K "later") fd
  f_restart : ∃ fd, FunD K "restart" "restart" (defArgs s_restart) (defBody s_restart) (defScope s_restart) [] [] (He.ga K "restart") fd
  f_Array_init : ∃ fd, FunD K "__init__" "Array.__init__" (defArgs s_Array_init) (defBody s_Array_init) (defScope s_Array_init) [] [] (He.ma K (He.ga K "Array") "__init__") fd
  f_Array_superblock : ∃ fd, FunD K "superblock" "Array.superblock" (defArgs s_Array_superblock) (defBody s_Array_superblock) (defScope s_Array_superblock) [] [] (He.ma K (He.ga K "Array") "superblock") fd
  f_Array_trace : ∃ fd, FunD K "trace" "Array.trace" (defArgs s_Array_trace) (defBody s_Array_trace) (defScope s_Array_trace) [] [] (He.ma K (He.ga K "Array") "trace") fd
  f_Array_image : ∃ fd, FunD K "image" "Array.image" (defArgs s_Array_image) (defBody s_Array_image) (defScope s_Array_image) [] [] (He.ma K (He.ga K "Array") "image") fd
  f_Array_cut : ∃ fd, FunD K "cut" "Array.cut" (defArgs s_Array_cut) (defBody s_Array_cut) (defScope s_Array_cut) [] [] (He.ma K (He.ga K "Array") "cut") fd
  f_look_for : ∃ fd, FunD K "look_for" "look_for" (defArgs s_look_for) (defBody s_look_for) (defScope s_look_for) [] [] (He.ga K "look_for") fd
  f_made : ∃ fd, FunD K "made" "made" (defArgs s_made) (defBody s_made) (defScope s_made) [.non] [] (He.ga K "made") fd
  f_bad_disks : ∃ fd, FunD K "bad_disks" "bad_disks" (defArgs s_bad_disks) (defBody s_bad_disks) (defScope s_bad_disks) [] [] (He.ga K "bad_disks") fd
  f_look_known : ∃ fd, FunD K "look_known" "look_known" (defArgs s_look_known) (defBody s_look_known) (defScope s_look_known) [.non] [] (He.ga K "look_known") fd
  f_partial_at : ∃ fd, FunD K "partial_at" "partial_at" (defArgs s_partial_at) (defBody s_partial_at) (defScope s_partial_at) [] [] (He.ga K "partial_at") fd
  f_put_data : ∃ fd, FunD K "put_data" "put_data" (defArgs s_put_data) (defBody s_put_data) (defScope s_put_data) [] [] (He.ga K "put_data") fd
  f_put_with_parity : ∃ fd, FunD K "put_with_parity" "put_with_parity" (defArgs s_put_with_parity) (defBody s_put_with_parity) (defScope s_put_with_parity) [] [] (He.ga K "put_with_parity") fd
  f_write : ∃ fd, FunD K "write" "write" (defArgs s_write) (defBody s_write) (defScope s_write) [] [] (He.ga K "write") fd
  f_L_cell_at : ∃ fd, FunD K "_law_cell_at" "_law_cell_at" (defArgs s_L_cell_at) (defBody s_L_cell_at) (defScope s_L_cell_at) [] [] (He.ga K "_law_cell_at") fd
  f_L_box : ∃ fd, FunD K "_law_box" "_law_box" (defArgs s_L_box) (defBody s_L_box) (defScope s_L_box) [] [] (He.ga K "_law_box") fd
  f_L_take : ∃ fd, FunD K "_law_take" "_law_take" (defArgs s_L_take) (defBody s_L_take) (defScope s_L_take) [] [] (He.ga K "_law_take") fd
  f_L_pick : ∃ fd, FunD K "_law_pick" "_law_pick" (defArgs s_L_pick) (defBody s_L_pick) (defScope s_L_pick) [] [] (He.ga K "_law_pick") fd
  f_L_same : ∃ fd, FunD K "_law_same" "_law_same" (defArgs s_L_same) (defBody s_L_same) (defScope s_L_same) [] [] (He.ga K "_law_same") fd
  f_L_parity : ∃ fd, FunD K "_law_parity" "_law_parity" (defArgs s_L_parity) (defBody s_L_parity) (defScope s_L_parity) [] [] (He.ga K "_law_parity") fd
  f_L_spot : ∃ fd, FunD K "_law_spot" "_law_spot" (defArgs s_L_spot) (defBody s_L_spot) (defScope s_L_spot) [] [] (He.ga K "_law_spot") fd
  f_L_of : ∃ fd, FunD K "_law_of" "_law_of" (defArgs s_L_of) (defBody s_L_of) (defScope s_L_of) [] [] (He.ga K "_law_of") fd
  f_L_used : ∃ fd, FunD K "_law_used" "_law_used" (defArgs s_L_used) (defBody s_L_used) (defScope s_L_used) [] [] (He.ga K "_law_used") fd
  f_L_cell : ∃ fd, FunD K "_law_cell" "_law_cell" (defArgs s_L_cell) (defBody s_L_cell) (defScope s_L_cell) [] [] (He.ga K "_law_cell") fd
  f_L_known : ∃ fd, FunD K "_law_known" "_law_known" (defArgs s_L_known) (defBody s_L_known) (defScope s_L_known) [] [] (He.ga K "_law_known") fd
  f_L_told : ∃ fd, FunD K "_law_told" "_law_told" (defArgs s_L_told) (defBody s_L_told) (defScope s_L_told) [] [] (He.ga K "_law_told") fd
  f_L_room : ∃ fd, FunD K "_law_room" "_law_room" (defArgs s_L_room) (defBody s_L_room) (defScope s_L_room) [] [] (He.ga K "_law_room") fd
  f_L_shape : ∃ fd, FunD K "_law_shape" "_law_shape" (defArgs s_L_shape) (defBody s_L_shape) (defScope s_L_shape) [] [] (He.ga K "_law_shape") fd
  f_L_worth : ∃ fd, FunD K "_law_worth" "_law_worth" (defArgs s_L_worth) (defBody s_L_worth) (defScope s_L_worth) [] [] (He.ga K "_law_worth") fd
  f_L_begun : ∃ fd, FunD K "_law_begun" "_law_begun" (defArgs s_L_begun) (defBody s_L_begun) (defScope s_L_begun) [] [] (He.ga K "_law_begun") fd
  f_L_moved : ∃ fd, FunD K "_law_moved" "_law_moved" (defArgs s_L_moved) (defBody s_L_moved) (defScope s_L_moved) [] [] (He.ga K "_law_moved") fd
  f_L_kept : ∃ fd, FunD K "_law_kept" "_law_kept" (defArgs s_L_kept) (defBody s_L_kept) (defScope s_L_kept) [] [] (He.ga K "_law_kept") fd
  f_L_plain_right : ∃ fd, FunD K "_law_plain_right" "_law_plain_right" (defArgs s_L_plain_right) (defBody s_L_plain_right) (defScope s_L_plain_right) [] [] (He.ga K "_law_plain_right") fd
  f_L_aside_right : ∃ fd, FunD K "_law_aside_right" "_law_aside_right" (defArgs s_L_aside_right) (defBody s_L_aside_right) (defScope s_L_aside_right) [] [] (He.ga K "_law_aside_right") fd
  f_L_right : ∃ fd, FunD K "_law_right" "_law_right" (defArgs s_L_right) (defBody s_L_right) (defScope s_L_right) [] [] (He.ga K "_law_right") fd
  f_law : ∃ fd, FunD K "law" "law" (defArgs s_law) (defBody s_law) (defScope s_law) [] [] (He.ga K "law") fd
  t_METAS : ∀ H, SqT K H (He.ga K "METAS") [V.str "superblock", V.str "log", V.str "aside"]
  z_METAS : ∃ o, K.lookup (He.ga K "METAS") = some o ∧ o.cls = .type "tuple" ∧ o.dict = none
  t_LEFT : ∀ H, SqT K H (He.ga K "LEFT") [V.str "left-symmetric", V.str "left-asymmetric"]
  z_LEFT : ∃ o, K.lookup (He.ga K "LEFT") = some o ∧ o.cls = .type "tuple" ∧ o.dict = none
  t_SYMMETRIC : ∀ H, SqT K H (He.ga K "SYMMETRIC") [V.str "left-symmetric", V.str "right-symmetric"]
  z_SYMMETRIC : ∃ o, K.lookup (He.ga K "SYMMETRIC") = some o ∧ o.cls = .type "tuple" ∧ o.dict = none
  t_FIELDS : ∀ H, SqT K H (He.ga K "FIELDS") [V.str "number", V.str "blocks", V.str "layout", V.str "target", V.str "way", V.str "front", V.str "aside", V.str "missing", V.str "rebuilt"]
  z_FIELDS : ∃ o, K.lookup (He.ga K "FIELDS") = some o ∧ o.cls = .type "tuple" ∧ o.dict = none
theorem tx_of {K : PySem.W.Frag} {mg : Str → Option Value} {h0 h : Heap} {w : World} (X : K.In h) (G : h.Ns mainGlobals mg) (s : He.SaysX fa fn [] tf ex w h0 K) : Tx K mg := by
  have c := s.t
  have q := s.more
  unfold ex at q
  simp only [Bool.and_eq_true] at q
  obtain ⟨⟨⟨e0, e1⟩, e2⟩, e3⟩ := q
  exact {
    b_isinstance := He.free_ok X G (c.d.fact 78 (f := .free "isinstance") rfl)
    b_list := He.free_ok X G (c.d.fact 79 (f := .free "list") rfl)
    b_tuple := He.free_ok X G (c.d.fact 80 (f := .free "tuple") rfl)
    b_enumerate := He.free_ok X G (c.d.fact 81 (f := .free "enumerate") rfl)
    b_len := He.free_ok X G (c.d.fact 82 (f := .free "len") rfl)
    b_range := He.free_ok X G (c.d.fact 83 (f := .free "range") rfl)
    b_dict := He.free_ok X G (c.d.fact 84 (f := .free "dict") rfl)
    b_zip := He.free_ok X G (c.d.fact 85 (f := .free "zip") rfl)
    b_min := He.free_ok X G (c.d.fact 86 (f := .free "min") rfl)
    b_max := He.free_ok X G (c.d.fact 87 (f := .free "max") rfl)
    b_sorted := He.free_ok X G (c.d.fact 88 (f := .free "sorted") rfl)
    b_set := He.free_ok X G (c.d.fact 89 (f := .free "set") rfl)
    b_abs := He.free_ok X G (c.d.fact 90 (f := .free "abs") rfl)
    b_int := He.free_ok X G (c.d.fact 91 (f := .free "int") rfl)
    b_repr := He.free_ok X G (c.d.fact 92 (f := .free "repr") rfl)
    b_any := He.free_ok X G (c.d.fact 93 (f := .free "any") rfl)
    b_all := He.free_ok X G (c.d.fact 94 (f := .free "all") rfl)
    m_METAS := He.glo_ok X G (c.d.fact 74 (f := .glo "METAS") rfl)
    m_LEFT := He.glo_ok X G (c.d.fact 75 (f := .glo "LEFT") rfl)
    m_SYMMETRIC := He.glo_ok X G (c.d.fact 76 (f := .glo "SYMMETRIC") rfl)
    m_FIELDS := He.glo_ok X G (c.d.fact 77 (f := .glo "FIELDS") rfl)
    m_UP := He.str_ok X G (c.d.fact 95 (f := .str "UP" "up") rfl)
    m_DOWN := He.str_ok X G (c.d.fact 96 (f := .str "DOWN" "down") rfl)
    m_MOST_DISKS := He.int_ok X G (c.d.fact 97 (f := .int "MOST_DISKS" 8) rfl)
    m_Cells := He.glo_ok X G (c.d.fact 71 (f := .glo "Cells") rfl)
    c_Cells := He.cls_ok (c.d.fact 98 (f := .cls "Cells") rfl)
    k_Cells := He.mkr_ok (c.d.fact 99 (f := .mkr "Cells") rfl)
    n_Cells_begun := He.noat_ok (c.d.fact 100 (f := .noat "Cells" "begun") rfl)
    n_Cells_disks := He.noat_ok (c.d.fact 101 (f := .noat "Cells" "disks") rfl)
    n_Cells_done := He.noat_ok (c.d.fact 102 (f := .noat "Cells" "done") rfl)
    n_Cells_is_loose := He.noat_ok (c.d.fact 103 (f := .noat "Cells" "is_loose") rfl)
    m_State := He.glo_ok X G (c.d.fact 72 (f := .glo "State") rfl)
    c_State := He.cls_ok (c.d.fact 104 (f := .cls "State") rfl)
    k_State := He.mkr_ok (c.d.fact 105 (f := .mkr "State") rfl)
    n_State_cells := He.noat_ok (c.d.fact 106 (f := .noat "State" "cells") rfl)
    n_State_own_superblock := He.noat_ok (c.d.fact 107 (f := .noat "State" "own_superblock") rfl)
    m_Array := He.glo_ok X G (c.d.fact 73 (f := .glo "Array") rfl)
    c_Array := He.cls_ok (c.d.fact 108 (f := .cls "Array") rfl)
    k_Array := He.mkr_ok (c.d.fact 109 (f := .mkr "Array") rfl)
    n_Array_state := He.noat_ok (c.d.fact 110 (f := .noat "Array" "state") rfl)
    m_as_tuples := He.glo_ok X G (c.d.fact 0 (f := .glo "as_tuples") rfl)
    m_opened := He.glo_ok X G (c.d.fact 1 (f := .glo "opened") rfl)
    m_closed := He.glo_ok X G (c.d.fact 2 (f := .glo "closed") rfl)
    m_done_to := He.glo_ok X G (c.d.fact 3 (f := .glo "done_to") rfl)
    m_loose_at := He.glo_ok X G (c.d.fact 4 (f := .glo "loose_at") rfl)
    m_image_after := He.glo_ok X G (c.d.fact 5 (f := .glo "image_after") rfl)
    h_Cells_there := He.meth_ok (c.d.fact 111 (f := .meth "Cells" "there") rfl)
    h_Cells_numbers := He.meth_ok (c.d.fact 112 (f := .meth "Cells" "numbers") rfl)
    h_Cells_rows := He.meth_ok (c.d.fact 113 (f := .meth "Cells" "rows") rfl)
    h_Cells_cell := He.meth_ok (c.d.fact 114 (f := .meth "Cells" "cell") rfl)
    h_Cells_note := He.meth_ok (c.d.fact 115 (f := .meth "Cells" "note") rfl)
    h_Cells_put := He.meth_ok (c.d.fact 116 (f := .meth "Cells" "put") rfl)
    h_Cells_flush := He.meth_ok (c.d.fact 117 (f := .meth "Cells" "flush") rfl)
    h_Cells_trace := He.meth_ok (c.d.fact 118 (f := .meth "Cells" "trace") rfl)
    h_Cells_image := He.meth_ok (c.d.fact 119 (f := .meth "Cells" "image") rfl)
    m_parity_disk := He.glo_ok X G (c.d.fact 6 (f := .glo "parity_disk") rfl)
    m_data_disk := He.glo_ok X G (c.d.fact 7 (f := .glo "data_disk") rfl)
    m_place_of := He.glo_ok X G (c.d.fact 8 (f := .glo "place_of") rfl)
    m_block_at := He.glo_ok X G (c.d.fact 9 (f := .glo "block_at") rfl)
    h_State_field := He.meth_ok (c.d.fact 120 (f := .meth "State" "field") rfl)
    h_State_layout_of := He.meth_ok (c.d.fact 121 (f := .meth "State" "layout_of") rfl)
    h_State_is_open := He.meth_ok (c.d.fact 122 (f := .meth "State" "is_open") rfl)
    h_State_good := He.meth_ok (c.d.fact 123 (f := .meth "State" "good") rfl)
    h_State_others := He.meth_ok (c.d.fact 124 (f := .meth "State" "others") rfl)
    h_State_known := He.meth_ok (c.d.fact 125 (f := .meth "State" "known") rfl)
    h_State_value := He.meth_ok (c.d.fact 126 (f := .meth "State" "value") rfl)
    h_State_next_superblock := He.meth_ok (c.d.fact 127 (f := .meth "State" "next_superblock") rfl)
    h_State_put_super := He.meth_ok (c.d.fact 128 (f := .meth "State" "put_super") rfl)
    h_State_go_on := He.meth_ok (c.d.fact 129 (f := .meth "State" "go_on") rfl)
    m_told := He.glo_ok X G (c.d.fact 10 (f := .glo "told") rfl)
    m_made_of := He.glo_ok X G (c.d.fact 11 (f := .glo "made_of") rfl)
    m_rows_from := He.glo_ok X G (c.d.fact 12 (f := .glo "rows_from") rfl)
    m_is_over := He.glo_ok X G (c.d.fact 13 (f := .glo "is_over") rfl)
    m_ended := He.glo_ok X G (c.d.fact 14 (f := .glo "ended") rfl)
    m_rows_in_use := He.glo_ok X G (c.d.fact 15 (f := .glo "rows_in_use") rfl)
    m_next_row := He.glo_ok X G (c.d.fact 16 (f := .glo "next_row") rfl)
    m_front_behind := He.glo_ok X G (c.d.fact 17 (f := .glo "front_behind") rfl)
    m_is_critical := He.glo_ok X G (c.d.fact 18 (f := .glo "is_critical") rfl)
    m_stepped := He.glo_ok X G (c.d.fact 19 (f := .glo "stepped") rfl)
    m_begun := He.glo_ok X G (c.d.fact 20 (f := .glo "begun") rfl)
    m_turned := He.glo_ok X G (c.d.fact 21 (f := .glo "turned") rfl)
    m_row_cells := He.glo_ok X G (c.d.fact 22 (f := .glo "row_cells") rfl)
    m_changes := He.glo_ok X G (c.d.fact 23 (f := .glo "changes") rfl)
    m_fields_behind := He.glo_ok X G (c.d.fact 24 (f := .glo "fields_behind") rfl)
    m_row_values := He.glo_ok X G (c.d.fact 25 (f := .glo "row_values") rfl)
    m_put_aside := He.glo_ok X G (c.d.fact 26 (f := .glo "put_aside") rfl)
    m_step := He.glo_ok X G (c.d.fact 27 (f := .glo "step") rfl)
    m_turn := He.glo_ok X G (c.d.fact 28 (f := .glo "turn") rfl)
    m_change := He.glo_ok X G (c.d.fact 29 (f := .glo "change") rfl)
    m_log_parity := He.glo_ok X G (c.d.fact 30 (f := .glo "log_parity") rfl)
    m_log_parities := He.glo_ok X G (c.d.fact 31 (f := .glo "log_parities") rfl)
    m_greatest := He.glo_ok X G (c.d.fact 32 (f := .glo "greatest") rfl)
    m_away := He.glo_ok X G (c.d.fact 33 (f := .glo "away") rfl)
    m_same_everywhere := He.glo_ok X G (c.d.fact 34 (f := .glo "same_everywhere") rfl)
    m_aside_values := He.glo_ok X G (c.d.fact 35 (f := .glo "aside_values") rfl)
    m_finish_row := He.glo_ok X G (c.d.fact 36 (f := .glo "finish_row") rfl)
    m_play_logs := He.glo_ok X G (c.d.fact 37 (f := .glo "play_logs") rfl)
    m_named := He.glo_ok X G (c.d.fact 38 (f := .glo "named") rfl)
    m_later := He.glo_ok X G (c.d.fact 39 (f := .glo "later") rfl)
    m_restart := He.glo_ok X G (c.d.fact 40 (f := .glo "restart") rfl)
    h_Array_superblock := He.meth_ok (c.d.fact 130 (f := .meth "Array" "superblock") rfl)
    h_Array_trace := He.meth_ok (c.d.fact 131 (f := .meth "Array" "trace") rfl)
    h_Array_image := He.meth_ok (c.d.fact 132 (f := .meth "Array" "image") rfl)
    h_Array_cut := He.meth_ok (c.d.fact 133 (f := .meth "Array" "cut") rfl)
    m_look_for := He.glo_ok X G (c.d.fact 41 (f := .glo "look_for") rfl)
    m_made := He.glo_ok X G (c.d.fact 42 (f := .glo "made") rfl)
    m_bad_disks := He.glo_ok X G (c.d.fact 43 (f := .glo "bad_disks") rfl)
    m_look_known := He.glo_ok X G (c.d.fact 44 (f := .glo "look_known") rfl)
    m_partial_at := He.glo_ok X G (c.d.fact 45 (f := .glo "partial_at") rfl)
    m_put_data := He.glo_ok X G (c.d.fact 46 (f := .glo "put_data") rfl)
    m_put_with_parity := He.glo_ok X G (c.d.fact 47 (f := .glo "put_with_parity") rfl)
    m_write := He.glo_ok X G (c.d.fact 48 (f := .glo "write") rfl)
    m_L_cell_at := He.glo_ok X G (c.d.fact 49 (f := .glo "_law_cell_at") rfl)
    m_L_box := He.glo_ok X G (c.d.fact 50 (f := .glo "_law_box") rfl)
    m_L_take := He.glo_ok X G (c.d.fact 51 (f := .glo "_law_take") rfl)
    m_L_pick := He.glo_ok X G (c.d.fact 52 (f := .glo "_law_pick") rfl)
    m_L_same := He.glo_ok X G (c.d.fact 53 (f := .glo "_law_same") rfl)
    m_L_parity := He.glo_ok X G (c.d.fact 54 (f := .glo "_law_parity") rfl)
    m_L_spot := He.glo_ok X G (c.d.fact 55 (f := .glo "_law_spot") rfl)
    m_L_of := He.glo_ok X G (c.d.fact 56 (f := .glo "_law_of") rfl)
    m_L_used := He.glo_ok X G (c.d.fact 57 (f := .glo "_law_used") rfl)
    m_L_cell := He.glo_ok X G (c.d.fact 58 (f := .glo "_law_cell") rfl)
    m_L_known := He.glo_ok X G (c.d.fact 59 (f := .glo "_law_known") rfl)
    m_L_told := He.glo_ok X G (c.d.fact 60 (f := .glo "_law_told") rfl)
    m_L_room := He.glo_ok X G (c.d.fact 61 (f := .glo "_law_room") rfl)
    m_L_shape := He.glo_ok X G (c.d.fact 62 (f := .glo "_law_shape") rfl)
    m_L_worth := He.glo_ok X G (c.d.fact 63 (f := .glo "_law_worth") rfl)
    m_L_begun := He.glo_ok X G (c.d.fact 64 (f := .glo "_law_begun") rfl)
    m_L_moved := He.glo_ok X G (c.d.fact 65 (f := .glo "_law_moved") rfl)
    m_L_kept := He.glo_ok X G (c.d.fact 66 (f := .glo "_law_kept") rfl)
    m_L_plain_right := He.glo_ok X G (c.d.fact 67 (f := .glo "_law_plain_right") rfl)
    m_L_aside_right := He.glo_ok X G (c.d.fact 68 (f := .glo "_law_aside_right") rfl)
    m_L_right := He.glo_ok X G (c.d.fact 69 (f := .glo "_law_right") rfl)
    m_law := He.glo_ok X G (c.d.fact 70 (f := .glo "law") rfl)
    f_as_tuples := c.d.def_ 0 (d := dd_as_tuples) rfl
    f_opened := c.d.def_ 1 (d := dd_opened) rfl
    f_closed := c.d.def_ 2 (d := dd_closed) rfl
    f_done_to := c.d.def_ 3 (d := dd_done_to) rfl
    f_loose_at := c.d.def_ 4 (d := dd_loose_at) rfl
    f_image_after := c.d.def_ 5 (d := dd_image_after) rfl
    f_Cells_init := c.d.def_ 6 (d := dd_Cells_init) rfl
    f_Cells_there := c.d.def_ 7 (d := dd_Cells_there) rfl
    f_Cells_numbers := c.d.def_ 8 (d := dd_Cells_numbers) rfl
    f_Cells_rows := c.d.def_ 9 (d := dd_Cells_rows) rfl
    f_Cells_cell := c.d.def_ 10 (d := dd_Cells_cell) rfl
    f_Cells_note := c.d.def_ 11 (d := dd_Cells_note) rfl
    f_Cells_put := c.d.def_ 12 (d := dd_Cells_put) rfl
    f_Cells_flush := c.d.def_ 13 (d := dd_Cells_flush) rfl
    f_Cells_trace := c.d.def_ 14 (d := dd_Cells_trace) rfl
    f_Cells_image := c.d.def_ 15 (d := dd_Cells_image) rfl
    f_parity_disk := c.d.def_ 16 (d := dd_parity_disk) rfl
    f_data_disk := c.d.def_ 17 (d := dd_data_disk) rfl
    f_place_of := c.d.def_ 18 (d := dd_place_of) rfl
    f_block_at := c.d.def_ 19 (d := dd_block_at) rfl
    f_State_init := c.d.def_ 20 (d := dd_State_init) rfl
    f_State_field := c.d.def_ 21 (d := dd_State_field) rfl
    f_State_layout_of := c.d.def_ 22 (d := dd_State_layout_of) rfl
    f_State_is_open := c.d.def_ 23 (d := dd_State_is_open) rfl
    f_State_good := c.d.def_ 24 (d := dd_State_good) rfl
    f_State_others := c.d.def_ 25 (d := dd_State_others) rfl
    f_State_known := c.d.def_ 26 (d := dd_State_known) rfl
    f_State_value := c.d.def_ 27 (d := dd_State_value) rfl
    f_State_next_superblock := c.d.def_ 28 (d := dd_State_next_superblock) rfl
    f_State_put_super := c.d.def_ 29 (d := dd_State_put_super) rfl
    f_State_go_on := c.d.def_ 30 (d := dd_State_go_on) rfl
    f_told := c.d.def_ 31 (d := dd_told) rfl
    f_made_of := c.d.def_ 32 (d := dd_made_of) rfl
    f_rows_from := c.d.def_ 33 (d := dd_rows_from) rfl
    f_is_over := c.d.def_ 34 (d := dd_is_over) rfl
    f_ended := c.d.def_ 35 (d := dd_ended) rfl
    f_rows_in_use := c.d.def_ 36 (d := dd_rows_in_use) rfl
    f_next_row := c.d.def_ 37 (d := dd_next_row) rfl
    f_front_behind := c.d.def_ 38 (d := dd_front_behind) rfl
    f_is_critical := c.d.def_ 39 (d := dd_is_critical) rfl
    f_stepped := c.d.def_ 40 (d := dd_stepped) rfl
    f_begun := c.d.def_ 41 (d := dd_begun) rfl
    f_turned := c.d.def_ 42 (d := dd_turned) rfl
    f_row_cells := c.d.def_ 43 (d := dd_row_cells) rfl
    f_changes := c.d.def_ 44 (d := dd_changes) rfl
    f_fields_behind := c.d.def_ 45 (d := dd_fields_behind) rfl
    f_row_values := c.d.def_ 46 (d := dd_row_values) rfl
    f_put_aside := c.d.def_ 47 (d := dd_put_aside) rfl
    f_step := c.d.def_ 48 (d := dd_step) rfl
    f_turn := c.d.def_ 49 (d := dd_turn) rfl
    f_change := c.d.def_ 50 (d := dd_change) rfl
    f_log_parity := c.d.def_ 51 (d := dd_log_parity) rfl
    f_log_parities := c.d.def_ 52 (d := dd_log_parities) rfl
    f_greatest := c.d.def_ 53 (d := dd_greatest) rfl
    f_away := c.d.def_ 54 (d := dd_away) rfl
    f_same_everywhere := c.d.def_ 55 (d := dd_same_everywhere) rfl
    f_aside_values := c.d.def_ 56 (d := dd_aside_values) rfl
    f_finish_row := c.d.def_ 57 (d := dd_finish_row) rfl
    f_play_logs := c.d.def_ 58 (d := dd_play_logs) rfl
    f_named := c.d.def_ 59 (d := dd_named) rfl
    f_later := c.d.def_ 60 (d := dd_later) rfl
    f_restart := c.d.def_ 61 (d := dd_restart) rfl
    f_Array_init := c.d.def_ 62 (d := dd_Array_init) rfl
    f_Array_superblock := c.d.def_ 63 (d := dd_Array_superblock) rfl
    f_Array_trace := c.d.def_ 64 (d := dd_Array_trace) rfl
    f_Array_image := c.d.def_ 65 (d := dd_Array_image) rfl
    f_Array_cut := c.d.def_ 66 (d := dd_Array_cut) rfl
    f_look_for := c.d.def_ 67 (d := dd_look_for) rfl
    f_made := c.d.def_ 68 (d := dd_made) rfl
    f_bad_disks := c.d.def_ 69 (d := dd_bad_disks) rfl
    f_look_known := c.d.def_ 70 (d := dd_look_known) rfl
    f_partial_at := c.d.def_ 71 (d := dd_partial_at) rfl
    f_put_data := c.d.def_ 72 (d := dd_put_data) rfl
    f_put_with_parity := c.d.def_ 73 (d := dd_put_with_parity) rfl
    f_write := c.d.def_ 74 (d := dd_write) rfl
    f_L_cell_at := c.d.def_ 75 (d := dd_L_cell_at) rfl
    f_L_box := c.d.def_ 76 (d := dd_L_box) rfl
    f_L_take := c.d.def_ 77 (d := dd_L_take) rfl
    f_L_pick := c.d.def_ 78 (d := dd_L_pick) rfl
    f_L_same := c.d.def_ 79 (d := dd_L_same) rfl
    f_L_parity := c.d.def_ 80 (d := dd_L_parity) rfl
    f_L_spot := c.d.def_ 81 (d := dd_L_spot) rfl
    f_L_of := c.d.def_ 82 (d := dd_L_of) rfl
    f_L_used := c.d.def_ 83 (d := dd_L_used) rfl
    f_L_cell := c.d.def_ 84 (d := dd_L_cell) rfl
    f_L_known := c.d.def_ 85 (d := dd_L_known) rfl
    f_L_told := c.d.def_ 86 (d := dd_L_told) rfl
    f_L_room := c.d.def_ 87 (d := dd_L_room) rfl
    f_L_shape := c.d.def_ 88 (d := dd_L_shape) rfl
    f_L_worth := c.d.def_ 89 (d := dd_L_worth) rfl
    f_L_begun := c.d.def_ 90 (d := dd_L_begun) rfl
    f_L_moved := c.d.def_ 91 (d := dd_L_moved) rfl
    f_L_kept := c.d.def_ 92 (d := dd_L_kept) rfl
    f_L_plain_right := c.d.def_ 93 (d := dd_L_plain_right) rfl
    f_L_aside_right := c.d.def_ 94 (d := dd_L_aside_right) rfl
    f_L_right := c.d.def_ 95 (d := dd_L_right) rfl
    f_law := c.d.def_ 96 (d := dd_law) rfl
    t_METAS := fun H => He.tupB_ok (e0).1 H
    z_METAS := noDict_ok (e0).2
    t_LEFT := fun H => He.tupB_ok (e1).1 H
    z_LEFT := noDict_ok (e1).2
    t_SYMMETRIC := fun H => He.tupB_ok (e2).1 H
    z_SYMMETRIC := noDict_ok (e2).2
    t_FIELDS := fun H => He.tupB_ok (e3).1 H
    z_FIELDS := noDict_ok (e3).2
  }
theorem sc_as_tuples : FnScope ["thing", "part"] ["thing"] (defScope s_as_tuples) := ⟨rfl, rfl, rfl, by decide +kernel, rfl, by decide +kernel, by decide +kernel⟩
theorem sc_opened : FnScope ["disk", "found", "at", "place", "row", "value"] ["disk"] (defScope s_opened) := ⟨rfl, rfl, rfl, by decide +kernel, rfl, by decide +kernel, by decide +kernel⟩
theorem sc_closed : FnScope ["cells", "rows", "place", "row"] ["cells"] (defScope s_closed) := ⟨rfl, rfl, rfl, by decide +kernel, rfl, by decide +kernel, by decide +kernel⟩
theorem sc_done_to : FnScope ["disks", "entry", "empty", "place", "row"] ["disks", "entry"] (defScope s_done_to) := ⟨rfl, rfl, rfl, by decide +kernel, rfl, by decide +kernel, by decide +kernel⟩
theorem sc_loose_at : FnScope ["trace", "after", "found", "at", "entry"] ["trace", "after"] (defScope s_loose_at) := ⟨rfl, rfl, rfl, by decide +kernel, rfl, by decide +kernel, by decide +kernel⟩
theorem sc_image_after : FnScope ["image", "trace", "after", "kept", "disks", "entries", "at", "lost", "entry", "disk", "cells"] ["image", "trace", "after", "kept"] (defScope s_image_after) := ⟨rfl, rfl, rfl, by decide +kernel, rfl, by decide +kernel, by decide +kernel⟩
theorem sc_Cells_init : FnScope ["self", "image", "disk"] ["self", "image"] (defScope s_Cells_init) := ⟨rfl, rfl, rfl, by decide +kernel, rfl, by decide +kernel, by decide +kernel⟩
theorem sc_Cells_there : FnScope ["self", "disk"] ["self", "disk"] (defScope s_Cells_there) := ⟨rfl, rfl, rfl, by decide +kernel, rfl, by decide +kernel, by decide +kernel⟩
theorem sc_Cells_numbers : FnScope ["self", "disk"] ["self"] (defScope s_Cells_numbers) := ⟨rfl, rfl, rfl, by decide +kernel, rfl, by decide +kernel, by decide +kernel⟩
theorem sc_Cells_rows : FnScope ["self"] ["self"] (defScope s_Cells_rows) := ⟨rfl, rfl, rfl, by decide +kernel, rfl, by decide +kernel, by decide +kernel⟩
theorem sc_Cells_cell : FnScope ["self", "disk", "place"] ["self", "disk", "place"] (defScope s_Cells_cell) := ⟨rfl, rfl, rfl, by decide +kernel, rfl, by decide +kernel, by decide +kernel⟩
theorem sc_Cells_note : FnScope ["self", "entry"] ["self", "entry"] (defScope s_Cells_note) := ⟨rfl, rfl, rfl, by decide +kernel, rfl, by decide +kernel, by decide +kernel⟩
theorem sc_Cells_put : FnScope ["self", "disk", "place", "contents"] ["self", "disk", "place", "contents"] (defScope s_Cells_put) := ⟨rfl, rfl, rfl, by decide +kernel, rfl, by decide +kernel, by decide +kernel⟩
theorem sc_Cells_flush : FnScope ["self"] ["self"] (defScope s_Cells_flush) := ⟨rfl, rfl, rfl, by decide +kernel, rfl, by decide +kernel, by decide +kernel⟩
theorem sc_Cells_trace : FnScope ["self"] ["self"] (defScope s_Cells_trace) := ⟨rfl, rfl, rfl, by decide +kernel, rfl, by decide +kernel, by decide +kernel⟩
theorem sc_Cells_image : FnScope ["self", "cells"] ["self"] (defScope s_Cells_image) := ⟨rfl, rfl, rfl, by decide +kernel, rfl, by decide +kernel, by decide +kernel⟩
theorem sc_parity_disk : FnScope ["layout", "row", "disks", "rule", "turn"] ["layout", "row"] (defScope s_parity_disk) := ⟨rfl, rfl, rfl, by decide +kernel, rfl, by decide +kernel, by decide +kernel⟩
theorem sc_data_disk : FnScope ["layout", "row", "place", "disks", "rule", "parity"] ["layout", "row", "place"] (defScope s_data_disk) := ⟨rfl, rfl, rfl, by decide +kernel, rfl, by decide +kernel, by decide +kernel⟩
theorem sc_place_of : FnScope ["layout", "block", "wide", "row"] ["layout", "block"] (defScope s_place_of) := ⟨rfl, rfl, rfl, by decide +kernel, rfl, by decide +kernel, by decide +kernel⟩
theorem sc_block_at : FnScope ["layout", "row", "disk", "wide", "place"] ["layout", "row", "disk"] (defScope s_block_at) := ⟨rfl, rfl, rfl, by decide +kernel, rfl, by decide +kernel, by decide +kernel⟩
theorem sc_State_init : FnScope ["self", "cells", "superblock"] ["self", "cells", "superblock"] (defScope s_State_init) := ⟨rfl, rfl, rfl, by decide +kernel, rfl, by decide +kernel, by decide +kernel⟩
theorem sc_State_field : FnScope ["self", "name"] ["self", "name"] (defScope s_State_field) := ⟨rfl, rfl, rfl, by decide +kernel, rfl, by decide +kernel, by decide +kernel⟩
theorem sc_State_layout_of : FnScope ["self", "block", "is_moved"] ["self", "block"] (defScope s_State_layout_of) := ⟨rfl, rfl, rfl, by decide +kernel, rfl, by decide +kernel, by decide +kernel⟩
theorem sc_State_is_open : FnScope ["self", "disk", "row"] ["self", "disk", "row"] (defScope s_State_is_open) := ⟨rfl, rfl, rfl, by decide +kernel, rfl, by decide +kernel, by decide +kernel⟩
theorem sc_State_good : FnScope ["self", "disk", "row"] ["self", "disk", "row"] (defScope s_State_good) := ⟨rfl, rfl, rfl, by decide +kernel, rfl, by decide +kernel, by decide +kernel⟩
theorem sc_State_others : FnScope ["self", "layout", "row", "disk", "found", "mate"] ["self", "layout", "row", "disk"] (defScope s_State_others) := ⟨rfl, rfl, rfl, by decide +kernel, rfl, by decide +kernel, by decide +kernel⟩
theorem sc_State_known : FnScope ["self", "layout", "row", "disk"] ["self", "layout", "row", "disk"] (defScope s_State_known) := ⟨rfl, rfl, rfl, by decide +kernel, rfl, by decide +kernel, by decide +kernel⟩
theorem sc_State_value : FnScope ["self", "block", "layout", "row", "disk", "found"] ["self", "block"] (defScope s_State_value) := ⟨rfl, rfl, rfl, by decide +kernel, rfl, by decide +kernel, by decide +kernel⟩
theorem sc_State_next_superblock : FnScope ["self", "step", "fields", "found", "name"] ["self", "step", "fields"] (defScope s_State_next_superblock) := ⟨rfl, rfl, rfl, by decide +kernel, rfl, by decide +kernel, by decide +kernel⟩
theorem sc_State_put_super : FnScope ["self", "superblock", "disk"] ["self", "superblock"] (defScope s_State_put_super) := ⟨rfl, rfl, rfl, by decide +kernel, rfl, by decide +kernel, by decide +kernel⟩
theorem sc_State_go_on : FnScope ["self", "fields"] ["self", "fields"] (defScope s_State_go_on) := ⟨rfl, rfl, rfl, by decide +kernel, rfl, by decide +kernel, by decide +kernel⟩
theorem sc_told : FnScope ["superblock"] ["superblock"] (defScope s_told) := ⟨rfl, rfl, rfl, by decide +kernel, rfl, by decide +kernel, by decide +kernel⟩
theorem sc_made_of : FnScope ["found", "name"] ["found"] (defScope s_made_of) := ⟨rfl, rfl, rfl, by decide +kernel, rfl, by decide +kernel, by decide +kernel⟩
theorem sc_rows_from : FnScope ["first", "behind", "wide"] ["first", "behind", "wide"] (defScope s_rows_from) := ⟨rfl, rfl, rfl, by decide +kernel, rfl, by decide +kernel, by decide +kernel⟩
theorem sc_is_over : FnScope ["found"] ["found"] (defScope s_is_over) := ⟨rfl, rfl, rfl, by decide +kernel, rfl, by decide +kernel, by decide +kernel⟩
theorem sc_ended : FnScope ["found", "later"] ["found"] (defScope s_ended) := ⟨rfl, rfl, rfl, by decide +kernel, rfl, by decide +kernel, by decide +kernel⟩
theorem sc_rows_in_use : FnScope ["superblock", "found", "wide", "front", "blocks", "new", "low", "high"] ["superblock"] (defScope s_rows_in_use) := ⟨rfl, rfl, rfl, by decide +kernel, rfl, by decide +kernel, by decide +kernel⟩
theorem sc_next_row : FnScope ["superblock", "found", "wide", "front"] ["superblock"] (defScope s_next_row) := ⟨rfl, rfl, rfl, by decide +kernel, rfl, by decide +kernel, by decide +kernel⟩
theorem sc_front_behind : FnScope ["superblock", "found", "row", "wide"] ["superblock"] (defScope s_front_behind) := ⟨rfl, rfl, rfl, by decide +kernel, rfl, by decide +kernel, by decide +kernel⟩
theorem sc_is_critical : FnScope ["superblock"] ["superblock"] (defScope s_is_critical) := ⟨rfl, rfl, rfl, by decide +kernel, rfl, by decide +kernel, by decide +kernel⟩
theorem sc_stepped : FnScope ["superblock", "found"] ["superblock"] (defScope s_stepped) := ⟨rfl, rfl, rfl, by decide +kernel, rfl, by decide +kernel, by decide +kernel⟩
theorem sc_begun : FnScope ["superblock", "target", "found", "way", "front"] ["superblock", "target"] (defScope s_begun) := ⟨rfl, rfl, rfl, by decide +kernel, rfl, by decide +kernel, by decide +kernel⟩
theorem sc_turned : FnScope ["superblock", "found", "way"] ["superblock"] (defScope s_turned) := ⟨rfl, rfl, rfl, by decide +kernel, rfl, by decide +kernel, by decide +kernel⟩
theorem sc_row_cells : FnScope ["layout", "row", "values", "parity", "found", "place", "value"] ["layout", "row", "values"] (defScope s_row_cells) := ⟨rfl, rfl, rfl, by decide +kernel, rfl, by decide +kernel, by decide +kernel⟩
theorem sc_changes : FnScope ["superblock", "name", "value"] ["superblock"] (defScope s_changes) := ⟨rfl, rfl, rfl, by decide +kernel, rfl, by decide +kernel, by decide +kernel⟩
theorem sc_fields_behind : FnScope ["state"] ["state"] (defScope s_fields_behind) := ⟨rfl, rfl, rfl, by decide +kernel, rfl, by decide +kernel, by decide +kernel⟩
theorem sc_row_values : FnScope ["state", "row", "wide", "blocks", "block"] ["state", "row"] (defScope s_row_values) := ⟨rfl, rfl, rfl, by decide +kernel, rfl, by decide +kernel, by decide +kernel⟩
theorem sc_put_aside : FnScope ["state", "row", "values", "number", "disk"] ["state", "row", "values"] (defScope s_put_aside) := ⟨rfl, rfl, rfl, by decide +kernel, rfl, by decide +kernel, by decide +kernel⟩
theorem sc_step : FnScope ["array", "state", "row", "critical", "values", "disk", "contents"] ["array"] (defScope s_step) := ⟨rfl, rfl, rfl, by decide +kernel, rfl, by decide +kernel, by decide +kernel⟩
theorem sc_turn : FnScope ["array", "state"] ["array"] (defScope s_turn) := ⟨rfl, rfl, rfl, by decide +kernel, rfl, by decide +kernel, by decide +kernel⟩
theorem sc_change : FnScope ["array", "target", "state", "disk"] ["array", "target"] (defScope s_change) := ⟨rfl, rfl, rfl, by decide +kernel, rfl, by decide +kernel, by decide +kernel⟩
theorem sc_log_parity : FnScope ["state", "disk", "log", "number", "row", "mate", "rest"] ["state", "disk"] (defScope s_log_parity) := ⟨rfl, rfl, rfl, by decide +kernel, rfl, by decide +kernel, by decide +kernel⟩
theorem sc_log_parities : FnScope ["state", "found", "disk", "told"] ["state"] (defScope s_log_parities) := ⟨rfl, rfl, rfl, by decide +kernel, rfl, by decide +kernel, by decide +kernel⟩
theorem sc_greatest : FnScope ["cells", "found", "disk", "superblock"] ["cells"] (defScope s_greatest) := ⟨rfl, rfl, rfl, by decide +kernel, rfl, by decide +kernel, by decide +kernel⟩
theorem sc_away : FnScope ["state", "wide", "disk", "layout"] ["state"] (defScope s_away) := ⟨rfl, rfl, rfl, by decide +kernel, rfl, by decide +kernel, by decide +kernel⟩
theorem sc_same_everywhere : FnScope ["state", "disk"] ["state"] (defScope s_same_everywhere) := ⟨rfl, rfl, rfl, by decide +kernel, rfl, by decide +kernel, by decide +kernel⟩
theorem sc_aside_values : FnScope ["state", "row", "disk", "aside"] ["state"] (defScope s_aside_values) := ⟨rfl, rfl, rfl, by decide +kernel, rfl, by decide +kernel, by decide +kernel⟩
theorem sc_finish_row : FnScope ["state", "values", "row", "disk", "contents"] ["state", "values"] (defScope s_finish_row) := ⟨rfl, rfl, rfl, by decide +kernel, rfl, by decide +kernel, by decide +kernel⟩
theorem sc_play_logs : FnScope ["state", "disk", "row", "mate", "parity"] ["state"] (defScope s_play_logs) := ⟨rfl, rfl, rfl, by decide +kernel, rfl, by decide +kernel, by decide +kernel⟩
theorem sc_named : FnScope ["state", "fields", "gone", "layouts", "name", "layout"] ["state", "fields", "gone"] (defScope s_named) := ⟨rfl, rfl, rfl, by decide +kernel, rfl, by decide +kernel, by decide +kernel⟩
theorem sc_later : FnScope ["plain", "other"] ["plain", "other"] (defScope s_later) := ⟨rfl, rfl, rfl, by decide +kernel, rfl, by decide +kernel, by decide +kernel⟩
theorem sc_restart : FnScope ["image", "cells", "state", "gone", "values", "fields", "plain"] ["image"] (defScope s_restart) := ⟨rfl, rfl, rfl, by decide +kernel, rfl, by decide +kernel, by decide +kernel⟩
theorem sc_Array_init : FnScope ["self", "image"] ["self", "image"] (defScope s_Array_init) := ⟨rfl, rfl, rfl, by decide +kernel, rfl, by decide +kernel, by decide +kernel⟩
theorem sc_Array_superblock : FnScope ["self"] ["self"] (defScope s_Array_superblock) := ⟨rfl, rfl, rfl, by decide +kernel, rfl, by decide +kernel, by decide +kernel⟩
theorem sc_Array_trace : FnScope ["self"] ["self"] (defScope s_Array_trace) := ⟨rfl, rfl, rfl, by decide +kernel, rfl, by decide +kernel, by decide +kernel⟩
theorem sc_Array_image : FnScope ["self"] ["self"] (defScope s_Array_image) := ⟨rfl, rfl, rfl, by decide +kernel, rfl, by decide +kernel, by decide +kernel⟩
theorem sc_Array_cut : FnScope ["self", "after", "kept"] ["self", "after", "kept"] (defScope s_Array_cut) := ⟨rfl, rfl, rfl, by decide +kernel, rfl, by decide +kernel, by decide +kernel⟩
theorem sc_look_for : FnScope ["array", "block"] ["array", "block"] (defScope s_look_for) := ⟨rfl, rfl, rfl, by decide +kernel, rfl, by decide +kernel, by decide +kernel⟩
theorem sc_made : FnScope ["layout", "blocks", "rows", "disks", "many", "superblock", "disk"] ["layout", "blocks", "rows", "disks"] (defScope s_made) := ⟨rfl, rfl, rfl, by decide +kernel, rfl, by decide +kernel, by decide +kernel⟩
theorem sc_bad_disks : FnScope ["state", "layout", "row", "disk"] ["state", "layout", "row"] (defScope s_bad_disks) := ⟨rfl, rfl, rfl, by decide +kernel, rfl, by decide +kernel, by decide +kernel⟩
theorem sc_look_known : FnScope ["state", "layout", "row", "disk", "bad", "gone", "blocks", "mate", "block"] ["state", "layout", "row", "disk"] (defScope s_look_known) := ⟨rfl, rfl, rfl, by decide +kernel, rfl, by decide +kernel, by decide +kernel⟩
theorem sc_partial_at : FnScope ["state", "block", "layout", "row", "own", "found", "disk"] ["state", "block"] (defScope s_partial_at) := ⟨rfl, rfl, rfl, by decide +kernel, rfl, by decide +kernel, by decide +kernel⟩
theorem sc_put_data : FnScope ["state", "block", "value", "row", "disk"] ["state", "block", "value"] (defScope s_put_data) := ⟨rfl, rfl, rfl, by decide +kernel, rfl, by decide +kernel, by decide +kernel⟩
theorem sc_put_with_parity : FnScope ["state", "block", "value", "rest", "layout", "row", "disk", "parity", "many"] ["state", "block", "value", "rest"] (defScope s_put_with_parity) := ⟨rfl, rfl, rfl, by decide +kernel, rfl, by decide +kernel, by decide +kernel⟩
theorem sc_write : FnScope ["array", "block", "value", "state", "layout", "rest", "row", "many"] ["array", "block", "value"] (defScope s_write) := ⟨rfl, rfl, rfl, by decide +kernel, rfl, by decide +kernel, by decide +kernel⟩
theorem sc_L_cell_at : FnScope ["_law_script", "_law_k"] ["_law_script", "_law_k"] (defScope s_L_cell_at) := ⟨rfl, rfl, rfl, by decide +kernel, rfl, by decide +kernel, by decide +kernel⟩
theorem sc_L_box : FnScope ["_law_script", "_law_k", "_law_cell_here"] ["_law_script", "_law_k"] (defScope s_L_box) := ⟨rfl, rfl, rfl, by decide +kernel, rfl, by decide +kernel, by decide +kernel⟩
theorem sc_L_take : FnScope ["_law_box_here", "_law_many", "_law_found", "_law_once", "_law_twice"] ["_law_box_here", "_law_many"] (defScope s_L_take) := ⟨rfl, rfl, rfl, by decide +kernel, rfl, by decide +kernel, by decide +kernel⟩
theorem sc_L_pick : FnScope ["_law_box_here", "_law_some"] ["_law_box_here", "_law_some"] (defScope s_L_pick) := ⟨rfl, rfl, rfl, by decide +kernel, rfl, by decide +kernel, by decide +kernel⟩
theorem sc_L_same : FnScope ["_law_found", "_law_due"] ["_law_found", "_law_due"] (defScope s_L_same) := ⟨rfl, rfl, rfl, by decide +kernel, rfl, by decide +kernel, by decide +kernel⟩
theorem sc_L_parity : FnScope ["_law_shape_here", "_law_line", "_law_many", "_law_rule"] ["_law_shape_here", "_law_line"] (defScope s_L_parity) := ⟨rfl, rfl, rfl, by decide +kernel, rfl, by decide +kernel, by decide +kernel⟩
theorem sc_L_spot : FnScope ["_law_shape_here", "_law_its", "_law_many", "_law_rule", "_law_line", "_law_at", "_law_parity_here"] ["_law_shape_here", "_law_its"] (defScope s_L_spot) := ⟨rfl, rfl, rfl, by decide +kernel, rfl, by decide +kernel, by decide +kernel⟩
theorem sc_L_of : FnScope ["_law_head", "_law_its", "_law_target", "_law_front"] ["_law_head", "_law_its"] (defScope s_L_of) := ⟨rfl, rfl, rfl, by decide +kernel, rfl, by decide +kernel, by decide +kernel⟩
theorem sc_L_used : FnScope ["_law_head", "_law_found", "_law_its", "_law_shape_here"] ["_law_head"] (defScope s_L_used) := ⟨rfl, rfl, rfl, by decide +kernel, rfl, by decide +kernel, by decide +kernel⟩
theorem sc_L_cell : FnScope ["_law_film", "_law_head", "_law_disk", "_law_line"] ["_law_film", "_law_head", "_law_disk", "_law_line"] (defScope s_L_cell) := ⟨rfl, rfl, rfl, by decide +kernel, rfl, by decide +kernel, by decide +kernel⟩
theorem sc_L_known : FnScope ["_law_film", "_law_head", "_law_shape_here", "_law_spot_here", "_law_line", "_law_disk", "_law_own", "_law_found", "_law_mate", "_law_part"] ["_law_film", "_law_head", "_law_shape_here", "_law_spot_here"] (defScope s_L_known) := ⟨rfl, rfl, rfl, by decide +kernel, rfl, by decide +kernel, by decide +kernel⟩
theorem sc_L_told : FnScope ["_law_film", "_law_head", "_law_found", "_law_its", "_law_shape_here"] ["_law_film", "_law_head"] (defScope s_L_told) := ⟨rfl, rfl, rfl, by decide +kernel, rfl, by decide +kernel, by decide +kernel⟩
theorem sc_L_room : FnScope ["_law_host", "_law_disks", "_law_film", "_law_head", "_law_disk"] ["_law_host", "_law_disks"] (defScope s_L_room) := ⟨rfl, rfl, rfl, by decide +kernel, rfl, by decide +kernel, by decide +kernel⟩
theorem sc_L_shape : FnScope ["_law_box_here", "_law_least", "_law_most", "_law_rules"] ["_law_box_here", "_law_least", "_law_most"] (defScope s_L_shape) := ⟨rfl, rfl, rfl, by decide +kernel, rfl, by decide +kernel, by decide +kernel⟩
theorem sc_L_worth : FnScope ["_law_box_here", "_law_wide"] ["_law_box_here"] (defScope s_L_worth) := ⟨rfl, rfl, rfl, by decide +kernel, rfl, by decide +kernel, by decide +kernel⟩
theorem sc_L_begun : FnScope ["_law_box_here", "_law_most", "_law_disks", "_law_count", "_law_lines", "_law_host", "_law_worths", "_law_time", "_law_its", "_law_worth_here"] ["_law_box_here", "_law_most", "_law_disks"] (defScope s_L_begun) := ⟨rfl, rfl, rfl, by decide +kernel, rfl, by decide +kernel, by decide +kernel⟩
theorem sc_L_moved : FnScope ["_law_box_here", "_law_host", "_law_worths", "_law_disks", "_law_many", "_law_time", "_law_way", "_law_target", "_law_its", "_law_worth_here"] ["_law_box_here", "_law_host", "_law_worths", "_law_disks", "_law_many"] (defScope s_L_moved) := ⟨rfl, rfl, rfl, by decide +kernel, rfl, by decide +kernel, by decide +kernel⟩
theorem sc_L_kept : FnScope ["_law_box_here", "_law_loose", "_law_way", "_law_at"] ["_law_box_here", "_law_loose"] (defScope s_L_kept) := ⟨rfl, rfl, rfl, by decide +kernel, rfl, by decide +kernel, by decide +kernel⟩
theorem sc_L_plain_right : FnScope ["_law_box_here", "_law_host", "_law_begin", "_law_head", "_law_worths", "_law_entries", "_law_users", "_law_data", "_law_after", "_law_film", "_law_anew", "_law_entry"] ["_law_box_here", "_law_host", "_law_begin", "_law_head", "_law_worths"] (defScope s_L_plain_right) := ⟨rfl, rfl, rfl, by decide +kernel, rfl, by decide +kernel, by decide +kernel⟩
theorem sc_L_aside_right : FnScope ["_law_host", "_law_begin", "_law_line", "_law_head", "_law_worths", "_law_entries", "_law_wide", "_law_row", "_law_places", "_law_titled", "_law_asides", "_law_many", "_law_entry", "_law_its"] ["_law_host", "_law_begin", "_law_line", "_law_head", "_law_worths"] (defScope s_L_aside_right) := ⟨rfl, rfl, rfl, by decide +kernel, rfl, by decide +kernel, by decide +kernel⟩
theorem sc_L_right : FnScope ["_law_box_here", "_law_host", "_law_worths", "_law_time", "_law_head", "_law_begin", "_law_line", "_law_critical", "_law_words", "_law_entry"] ["_law_box_here"] (defScope s_L_right) := ⟨rfl, rfl, rfl, by decide +kernel, rfl, by decide +kernel, by decide +kernel⟩
theorem sc_law : FnScope ["_law_script", "_law_k", "_law_box_here", "_law_time"] ["_law_script"] (defScope s_law) := ⟨rfl, rfl, rfl, by decide +kernel, rfl, by decide +kernel, by decide +kernel⟩
end WS
set_option Elab.async false
set_option linter.all false
set_option maxRecDepth 100000
set_option maxHeartbeats 0
namespace WS
open PySem PySem.Spec PyProof.Rows L2
def nm0 : List Str := ["_wall", "__name__", "METAS", "as_tuples", "opened", "closed", "done_to", "loose_at", "image_after", "Cells", "NoBlock", "NoDisk", "Lost", "TooFew", "NoSuper", "Moving", "Resting", "TooSmall", "NoAside", "LEFT", "SYMMETRIC", "parity_disk", "data_disk", "place_of", "block_at", "FIELDS", "UP", "State", "DOWN", "told"]
def nm1 : List Str := ["made_of", "rows_from", "is_over", "ended", "rows_in_use", "next_row", "front_behind", "is_critical", "stepped", "begun", "turned", "row_cells", "changes", "fields_behind", "row_values", "put_aside", "step", "turn", "change", "log_parity", "log_parities", "greatest", "away", "same_everywhere", "aside_values", "finish_row", "play_logs", "named", "later", "restart"]
def nm2 : List Str := ["Array", "look_for", "MOST_DISKS", "made", "bad_disks", "look_known", "partial_at", "put_data", "put_with_parity", "write", "_law_cell_at", "_law_box", "_law_take", "_law_pick", "_law_same", "_law_parity", "_law_spot", "_law_of", "_law_used", "_law_cell", "_law_known", "_law_told", "_law_room", "_law_shape", "_law_worth", "_law_begun", "_law_moved", "_law_kept", "_law_plain_right", "_law_aside_right"]
def nm3 : List Str := ["_law_right"]
def nm : List Str := nm0 ++ nm1 ++ nm2 ++ nm3
abbrev R : PySem.W.OpenRow := PySem.W.OpenLaw.row PySem.Challenge.rw_widerstripes_k93_whole_plain_steps_touch
abbrev hk : PySem.W.Hook := hookW fa fn tf ex
def ob (s : PySem.W.SharedT) : He.AlX := obW fa fn tf ex (HandSHeadRun.getT s)
theorem ob_eq (s : PySem.W.SharedT) : ob s = hk.obs s.abs := obW_eq (HandSHeadRun.getT_eq s)
theorem run (w : World) : HandSHeadRun.RunEq R (PySem.W.view R.prog [104]) hk ob 30000 nm w := by
  intro os
  kernel_rfl
end WS
set_option Elab.async false
set_option linter.all false
set_option maxRecDepth 100000
set_option maxHeartbeats 0
namespace WS
open PySem PySem.W PySem.Calls PyProof.Rows
abbrev qv : Program := view R.prog [104]
abbrev lawD : DefRec := HandSHeadRun.topDef R.prog 104
theorem f_open : opening R.prog = plainProg R.prog.main.scope.names := by kernel_rfl
theorem f_fence (s : Shared) : fenceModules? R.prog s = some s := by kernel_rfl
theorem f_def : defOf qv R.name = some (lawD, []) := by kernel_rfl
theorem f_the : R.prog.theDef R.name = some (lawD.params, lawD.body, lawD.scope) := by kernel_rfl
theorem f_kw : kwWritten? lawD.params.kwonlyargs lawD.params.kw_defaults = some [] := by kernel_rfl
theorem f_name : lawD.name = ("law" : PySem.Str) := by kernel_rfl
theorem f_dfl : lawD.params.defaults = [] := by kernel_rfl
theorem f_wr : (!R.writes || R.records.isEmpty) = true := by rfl
theorem f_ok : (chainsOk qv && opensWell R.prog && (frees R.toRowW && R.within.isEmpty)) = true := by decide +kernel
theorem f_bare : R.prog.bare := ⟨rfl, rfl, rfl, rfl, rfl, by decide +kernel⟩
end WS
set_option Elab.async false
set_option linter.all false
set_option maxRecDepth 100000
set_option maxHeartbeats 4000000
namespace WS
open PySem PySem.Spec PyProof.Rows L2
/-! ### what tuples keep -/
def TK (K : PySem.W.Frag) (H H' : Hp) : Prop := ∀ a xs, SqT K H a xs → SqT K H' a xs
theorem TK.refl {K : PySem.W.Frag} {H : Hp} : TK K H H := fun _ _ h => h
theorem TK.trans {K : PySem.W.Frag} {H H1 H2 : Hp} (a : TK K H H1) (b : TK K H1 H2) : TK K H H2 := fun _ _ h => b _ _ (a _ _ h)
theorem tk_same {K : PySem.W.Frag} {H H' : Hp} (e : Same H H') : TK K H H' := fun a xs h => by
  rcases h with (h | ⟨o, h⟩) | h
  · exact .inl (.inl (e _ _ h))
  · exact .inl (.inr ⟨o, e _ _ h⟩)
  · exact .inr h
theorem same_new {H : Hp} {p : Addr} {o : HO} (h : H p = none) : Same H (upd H p o) := fun b u q => by
  rw [upd_ne (ne_of_none q h)]
  exact q
/-- all but the objects of F stay -/
def Chg (F : List Addr) (H H' : Hp) : Prop := ∀ a o, H a = some o → a ∉ F → H' a = some o
theorem Chg.refl {F : List Addr} {H : Hp} : Chg F H H := fun _ _ h _ => h
theorem Chg.trans {F : List Addr} {H H1 H2 : Hp} (a : Chg F H H1) (b : Chg F H1 H2) : Chg F H H2 := fun c o h n => b c o (a c o h n) n
theorem Chg.of_same {F : List Addr} {H H' : Hp} (e : Same H H') : Chg F H H' := fun a o h _ => e a o h
theorem Chg.upd {F : List Addr} {H : Hp} {a : Addr} {o : HO} (h : a ∈ F) : Chg F H (upd H a o) := fun b u q n => by
  rw [upd_ne (fun e => n (by rw [e]; exact h))]
  exact q
theorem Chg.sub {F G : List Addr} {H H' : Hp} (c : Chg F H H') (h : ∀ a ∈ F, a ∈ G) : Chg G H H' := fun a o q n => c a o q fun m => n (h a m)
/-- what may be changed is no tuple -/
def MutAt (H : Hp) (F : List Addr) : Prop := ∀ a ∈ F, (∃ xs, H a = some (.lst xs)) ∨ (∃ kvs, H a = some (.dK kvs)) ∨ ∃ C dx fs, H a = some (.ins C dx fs)
theorem tk_chg {K : PySem.W.Frag} {F : List Addr} {H H' : Hp} (c : Chg F H H') (m : MutAt H F) : TK K H H' := fun a xs h => by
  rcases h with (h | ⟨o, h⟩) | h
  · refine .inl (.inl (c _ _ h fun hm => ?_))
    rcases m a hm with ⟨_, q⟩ | ⟨_, q⟩ | ⟨_, _, _, q⟩ <;> (rw [h] at q; cases q)
  · refine .inl (.inr ⟨o, c _ _ h fun hm => ?_⟩)
    rcases m a hm with ⟨_, q⟩ | ⟨_, q⟩ | ⟨_, _, _, q⟩ <;> (rw [h] at q; cases q)
  · exact .inr h
theorem tk_upd {K : PySem.W.Frag} {H : Hp} {a : Addr} {o u : HO} (h : H a = some u) (n : ∀ xs, u ≠ .tup xs) (n2 : ∀ x y, u ≠ .frz x y) : TK K H (upd H a o) := fun b xs q => by
  rcases q with (q | ⟨z, q⟩) | q
  · refine .inl (.inl ?_)
    rw [upd_ne (fun e => n xs (by rw [e, h] at q; exact Option.some.inj q))]
    exact q
  · refine .inl (.inr ⟨z, ?_⟩)
    rw [upd_ne (fun e => n2 _ _ (by rw [e, h] at q; exact Option.some.inj q))]
    exact q
  · exact .inr q
/-! ### data made of tuples -/
mutual
inductive Rp (K : PySem.W.Frag) (H : Hp) : V → PyData → Prop
  | non : Rp K H .non .none
  | bl (b : Bool) : Rp K H (.bl b) (.bool b)
  | int (i : Int) : Rp K H (.int i) (.int i)
  | str (x : Str) : Rp K H (.str x) (.str x)
  | tup {a : Addr} {xs : List V} {ds : List PyData} (h : SqT K H a xs) (r : RpL K H xs ds) : Rp K H (.ref a) (.tuple ds)
inductive RpL (K : PySem.W.Frag) (H : Hp) : List V → List PyData → Prop
  | nil : RpL K H [] []
  | cons {v : V} {vs : List V} {d : PyData} {ds : List PyData} (h : Rp K H v d) (t : RpL K H vs ds) : RpL K H (v :: vs) (d :: ds)
end
section
variable {K : PySem.W.Frag} {H H' : Hp}
mutual
theorem Rp.tk (t : TK K H H') : ∀ {d : PyData} {v : V}, Rp K H v d → Rp K H' v d
  | .none, _, h => by cases h; exact .non
  | .bool _, _, h => by cases h; exact .bl _
  | .int _, _, h => by cases h; exact .int _
  | .str _, _, h => by cases h; exact .str _
  | .tuple _, _, h => by
    cases h with
    | tup hs hr => exact .tup (t _ _ hs) (RpL.tk t hr)
  | .list _, _, h => by cases h
  | .dict _, _, h => by cases h
theorem RpL.tk (t : TK K H H') : ∀ {ds : List PyData} {vs : List V}, RpL K H vs ds → RpL K H' vs ds
  | [], _, h => by cases h; exact .nil
  | _ :: _, _, h => by
    cases h with
    | cons h1 h2 => exact .cons (Rp.tk t h1) (RpL.tk t h2)
end
mutual
theorem Rp.dp : ∀ {d : PyData} {v : V}, Rp K H v d → Dp K H v d
  | .none, _, h => by cases h; exact .non
  | .bool _, _, h => by cases h; exact .bl _
  | .int _, _, h => by cases h; exact .int _
  | .str _, _, h => by cases h; exact .str _
  | .tuple _, _, h => by
    cases h with
    | tup hs hr => exact .tup hs (RpL.dp hr)
  | .list _, _, h => by cases h
  | .dict _, _, h => by cases h
theorem RpL.dp : ∀ {ds : List PyData} {vs : List V}, RpL K H vs ds → DpAll K H vs ds
  | [], _, h => by cases h; exact .nil
  | _ :: _, _, h => by
    cases h with
    | cons h1 h2 => exact .cons (Rp.dp h1) (RpL.dp h2)
end
theorem Rp.same (e : Same H H') {d : PyData} {v : V} (h : Rp K H v d) : Rp K H' v d := h.tk (tk_same e)
theorem RpL.same (e : Same H H') {ds : List PyData} {vs : List V} (h : RpL K H vs ds) : RpL K H' vs ds := h.tk (tk_same e)
theorem RpL.length : ∀ {ds : List PyData} {vs : List V}, RpL K H vs ds → vs.length = ds.length
  | [], _, h => by cases h; rfl
  | _ :: _, _, h => by
    cases h with
    | cons h1 h2 => rw [List.length_cons, List.length_cons, RpL.length h2]
theorem RpL.get : ∀ {ds : List PyData} {vs : List V} {i : Nat} {d : PyData}, RpL K H vs ds → ds[i]? = some d → ∃ v, vs[i]? = some v ∧ Rp K H v d
  | [], _, _, _, h, e => by cases h; simp at e
  | _ :: _, _, 0, _, h, e => by
    cases h with
    | cons h1 h2 => simp at e; subst e; exact ⟨_, rfl, h1⟩
  | _ :: _, _, i + 1, _, h, e => by
    cases h with
    | cons h1 h2 =>
      obtain ⟨v, q1, q2⟩ := RpL.get (i := i) h2 (by simpa using e)
      exact ⟨v, by simpa using q1, q2⟩
theorem RpL.getV : ∀ {ds : List PyData} {vs : List V} {i : Nat} {v : V}, RpL K H vs ds → vs[i]? = some v → ∃ d, ds[i]? = some d ∧ Rp K H v d
  | [], _, _, _, h, e => by cases h; simp at e
  | _ :: _, _, 0, _, h, e => by
    cases h with
    | cons h1 h2 => simp at e; subst e; exact ⟨_, rfl, h1⟩
  | _ :: _, _, i + 1, _, h, e => by
    cases h with
    | cons h1 h2 =>
      obtain ⟨v, q1, q2⟩ := RpL.getV (i := i) h2 (by simpa using e)
      exact ⟨v, by simpa using q1, q2⟩
theorem RpL.append : ∀ {ds es : List PyData} {vs us : List V}, RpL K H vs ds → RpL K H us es → RpL K H (vs ++ us) (ds ++ es)
  | [], _, _, _, h, q => by cases h; exact q
  | _ :: _, _, _, _, h, q => by
    cases h with
    | cons h1 h2 => exact .cons h1 (RpL.append h2 q)
theorem RpL.take : ∀ {ds : List PyData} {vs : List V} (n : Nat), RpL K H vs ds → RpL K H (vs.take n) (ds.take n)
  | _, _, 0, _ => by simpa using RpL.nil
  | [], _, n + 1, h => by cases h; simpa using RpL.nil
  | _ :: _, _, n + 1, h => by
    cases h with
    | cons h1 h2 => simpa using RpL.cons h1 (RpL.take n h2)
theorem RpL.drop : ∀ {ds : List PyData} {vs : List V} (n : Nat), RpL K H vs ds → RpL K H (vs.drop n) (ds.drop n)
  | _, _, 0, h => by simpa using h
  | [], _, n + 1, h => by cases h; simpa using RpL.nil
  | _ :: _, _, n + 1, h => by
    cases h with
    | cons h1 h2 => simpa using RpL.drop n h2
theorem RpL.ints : ∀ (ns : List Int), RpL K H (ns.map V.int) (ns.map PyData.int)
  | [] => .nil
  | _ :: ns => .cons (.int _) (RpL.ints ns)
theorem RpL.of_ints : ∀ {ns : List Int} {vs : List V}, RpL K H vs (ns.map PyData.int) → vs = ns.map V.int
  | [], _, h => by cases h; rfl
  | _ :: ns, _, h => by
    cases h with
    | cons h1 h2 => cases h1; rw [RpL.of_ints h2]; rfl
theorem Rp.int_eq {v : V} {i : Int} (h : Rp K H v (.int i)) : v = .int i := by cases h; rfl
theorem Rp.str_eq {v : V} {x : Str} (h : Rp K H v (.str x)) : v = .str x := by cases h; rfl
theorem Rp.non_eq {v : V} (h : Rp K H v .none) : v = .non := by cases h; rfl
theorem Rp.bl_eq {v : V} {b : Bool} (h : Rp K H v (.bool b)) : v = .bl b := by cases h; rfl
theorem Rp.tup_eq {v : V} {ds : List PyData} (h : Rp K H v (.tuple ds)) : ∃ a xs, v = .ref a ∧ SqT K H a xs ∧ RpL K H xs ds := by
  cases h with
  | tup h1 h2 => exact ⟨_, _, rfl, h1, h2⟩
theorem Rp.not_none {v : V} {d : PyData} (h : Rp K H v d) (n : d ≠ .none) : v ≠ .non := by
  intro e
  subst e
  cases h
  exact n rfl
end
/-! ### defs by name -/
/-- a def of the module keeps its promise at level k -/
structure GK (P : Program) (w : World) (K : PySem.W.Frag) (mg : Str → Option Value) (base : Heap) (x : Str) (ps : List Str) (k : Nat) (sp : Sp) (dvs : List V) : Prop where
  ex : ∃ fd ds, FnOk P w K mg base CX0 k (He.ga K x) fd ps sp ∧ Vals dvs ds ∧ Binds K fd ps ds
  kp : PySem.W.keepIn K (.ref (He.ga K x)) = true
  gl : mg x = some (.ref (He.ga K x))
  db : (x == ("__debug__" : Str)) = false
/-- a method -/
structure MK (P : Program) (w : World) (K : PySem.W.Frag) (mg : Str → Option Value) (base : Heap) (c m : Str) (ps : List Str) (k : Nat) (sp : Sp) : Prop where
  ex : ∃ fd, FnOk P w K mg base CX0 k (He.ma K (He.ga K c) m) fd ps sp ∧ Binds K fd ps []
  me : Meth K (He.ga K c) m (He.ma K (He.ga K c) m)
  cl : Cls K (He.ga K c)
/-- a class that is made -/
structure IK (P : Program) (w : World) (K : PySem.W.Frag) (mg : Str → Option Value) (base : Heap) (c : Str) (ps : List Str) (k : Nat) (sp : Sp) : Prop where
  ex : ∃ fd, FnOk P w K mg base CX0 k (He.ma K (He.ga K c) "__init__") fd ps sp ∧ Binds K fd ps []
  mke : Mk K (He.ga K c) (He.ma K (He.ga K c) "__init__")
  gl : mg c = some (.ref (He.ga K c))
  db : (c == ("__debug__" : Str)) = false
section
variable {X : Cx} {k n : Nat} {ps : List Str} {sp : Sp} {dvs : List V} {x m c : Str} {p pos apos : Pos} {e o : Expr} {es : List Expr} {ta : TE} {t : TA}
theorem pe_gk (G : GK X.prog X.w X.K X.mg X.base x ps k sp dvs) (hr : Room n X.A) (hk : k ≤ n) (ha : PA X (e :: es) t) (hg : Gl X x := by rfl)
    (he : starEach (e :: es) X.env = (false, eval e X.env) :: starEach es X.env := by rfl) (hpl : (backTo pos (starEach es X.env)).any (·.1) = false := by rfl) :
    PE X (.Call (.Name x p) (e :: es) [] pos) (tCall sp dvs E0 t) := by
  obtain ⟨fd, ds, F, hv, hb⟩ := G.ex
  exact pe_call F (hr.mono hk) hg G.gl G.kp hb hv pass0 ha G.db he hpl
theorem pe_mk {pl : Sem Bool} (G : MK X.prog X.w X.K X.mg X.base c m ps k sp) (hr : Room n X.A) (hk : k ≤ n) (he : PE X o ta) (ha : PA X (e :: es) t)
    (hst : starEach (e :: es) X.env = (false, eval e X.env) :: starEach es X.env := by rfl) (hpl : (backTo pos (starEach es X.env)).any (·.1) = false := by rfl)
    (ht : eval (.Call (.Attribute o m apos) (e :: es) [] pos) X.env = (do
      let v0 ← eval o X.env; standAt apos.atName
      let (g0, as0) ← holding [v0] (getMethod v0 m pl); callWith pos g0 as0 (backTo pos (starEach (e :: es) X.env)) (backToKw pos (keywordEach [] X.env))) := by rfl) :
    PE X (.Call (.Attribute o m apos) (e :: es) [] pos) (tMeth (He.ga X.K c) m sp [] E0 ta t) := by
  obtain ⟨fd, F, hb⟩ := G.ex
  exact pe_meth he G.cl G.me F (hr.mono hk) hb .nil pass0 ha hst hpl ht
theorem pe_mk0 {pl : Sem Bool} (G : MK X.prog X.w X.K X.mg X.base c m ps k sp) (hr : Room n X.A) (hk : k ≤ n) (he : PE X o ta)
    (ht : eval (.Call (.Attribute o m apos) [] [] pos) X.env = (do
      let v0 ← eval o X.env; standAt apos.atName
      let (g0, as0) ← holding [v0] (getMethod v0 m pl); callWith pos g0 as0 (backTo pos (starEach [] X.env)) (backToKw pos (keywordEach [] X.env))) := by rfl) :
    PE X (.Call (.Attribute o m apos) [] [] pos) (tMeth (He.ga X.K c) m sp [] E0 ta tNil) := by
  obtain ⟨fd, F, hb⟩ := G.ex
  exact pe_meth0 he G.cl G.me F (hr.mono hk) hb .nil pass0 ht
theorem pe_ik (G : IK X.prog X.w X.K X.mg X.base c ps k sp) (hr : Room n X.A) (hk : k + 1 ≤ n) (ha : PA X (e :: es) t) (hg : Gl X c := by rfl)
    (he : starEach (e :: es) X.env = (false, eval e X.env) :: starEach es X.env := by rfl) (hpl : (backTo pos (starEach es X.env)).any (·.1) = false := by rfl) :
    PE X (.Call (.Name c p) (e :: es) [] pos) (tMake (He.ga X.K c) sp [] E0 t) := by
  obtain ⟨fd, F, hb⟩ := G.ex
  exact pe_make G.mke F (hr.mono hk) hg G.gl hb .nil pass0 ha G.db he hpl
end
end WS
set_option Elab.async false
set_option linter.all false
set_option maxRecDepth 100000
set_option maxHeartbeats 4000000
namespace WS
open PySem PySem.Spec PyProof.Rows L2
section
variable {X : Cx} {e o tg : Expr} {es : List Expr} {t : TA} {te : TE} {x : Str} {p pos : Pos} {st : Stmt} {sts : List Stmt}
/-! ### what is never reached -/
theorem pe_never : PE X e (fun _ _ _ => False) := ⟨fun _ _ _ _ _ _ h => h.elim⟩
theorem pt_never : PT X e (fun _ _ _ => False) := ⟨fun _ _ _ _ _ _ h => h.elim⟩
theorem pi_never : PI X tg e (fun _ _ _ => False) := ⟨fun _ _ _ _ _ _ h => h.elim⟩
theorem pss_never : PSs X sts tNever := ⟨fun _ _ _ _ _ _ h => h.elim⟩
/-! ### names of the module -/
theorem db_no {y : Str} (h : (y == ("__debug__" : Str)) = false) : (y == ("__debug__" : Str)) = false := h
theorem pe_gs {z : Str} (h : ∃ u, X.mg x = some (.str z u)) (hg : Gl X x := by rfl) (hd : (x == ("__debug__" : Str)) = false := by decide +kernel) : PE X (.Name x pos) (tC (.str z)) := by
  obtain ⟨u, h⟩ := h
  exact pe_glob hg h ⟨_, rfl⟩ hd
theorem pe_gi {i : Int} (h : ∃ u, X.mg x = some (.int i u)) (hg : Gl X x := by rfl) (hd : (x == ("__debug__" : Str)) = false := by decide +kernel) : PE X (.Name x pos) (tC (.int i)) := by
  obtain ⟨u, h⟩ := h
  exact pe_glob hg h ⟨_, rfl⟩ hd
theorem pe_gr {a : Addr} (h : X.mg x = some (.ref a)) (hg : Gl X x := by rfl) (hd : (x == ("__debug__" : Str)) = false := by decide +kernel) : PE X (.Name x pos) (tC (.ref a)) :=
  pe_glob hg h rfl hd
theorem pe_bt_int (hm : X.mg "int" = none) (hg : Gl X "int" := by rfl) : PE X (.Name "int" pos) (tC (.ty "int")) := pe_bltn hg hm PyProof.Rows.boot_int rfl (by decide +kernel) (by decide +kernel)
theorem pe_bt_list (hm : X.mg "list" = none) (hg : Gl X "list" := by rfl) : PE X (.Name "list" pos) (tC (.ty "list")) := pe_bltn hg hm PyProof.Rows.boot_list rfl (by decide +kernel) (by decide +kernel)
theorem pe_bt_tuple (hm : X.mg "tuple" = none) (hg : Gl X "tuple" := by rfl) : PE X (.Name "tuple" pos) (tC (.ty "tuple")) := pe_bltn hg hm PyProof.Rows.boot_tuple rfl (by decide +kernel) (by decide +kernel)
/-! ### built-ins -/
abbrev rLenQ (K : PySem.W.Frag) : List V → Hp → VK → Prop := fun xs H Q => ∃ p ys, xs = [.ref p] ∧ (SqL K H p ys ∨ SqT K H p ys) ∧ Q (.int ys.length) H
theorem pb_len (hm : X.mg "len" = none) (ha : PA X (e :: es) t) (e1 : starEach (e :: es) X.env = (false, eval e X.env) :: starEach es X.env := by rfl) (e2 : (backTo pos (starEach es X.env)).any (·.1) = false := by rfl) (hg : Gl X "len" := by rfl) : PE X (.Call (.Name "len" p) (e :: es) [] pos) (tCB (rLenQ X.K) t) :=
  pe_callB call_len_seq hg hm PySem.boot_len ha (by decide +kernel) (by decide +kernel) e1 e2
abbrev rLenDQ : List V → Hp → VK → Prop := fun xs H Q => ∃ a kvs, xs = [V.ref a] ∧ H a = some (.dK kvs) ∧ Q (.int kvs.length) H
theorem pb_lenD (hm : X.mg "len" = none) (ha : PA X (e :: es) t) (e1 : starEach (e :: es) X.env = (false, eval e X.env) :: starEach es X.env := by rfl) (e2 : (backTo pos (starEach es X.env)).any (·.1) = false := by rfl) (hg : Gl X "len" := by rfl) : PE X (.Call (.Name "len" p) (e :: es) [] pos) (tCB rLenDQ t) :=
  pe_callB call_lenD hg hm PySem.boot_len ha (by decide +kernel) (by decide +kernel) e1 e2
abbrev rListQ (K : PySem.W.Frag) : List V → Hp → VK → Prop := fun xs H Q => ∃ p ys, xs = [.ref p] ∧ (SqL K H p ys ∨ SqT K H p ys) ∧ ∀ l, H l = none → Q (.ref l) (upd H l (.lst ys))
theorem pb_list (hm : X.mg "list" = none) (ha : PA X (e :: es) t) (e1 : starEach (e :: es) X.env = (false, eval e X.env) :: starEach es X.env := by rfl) (e2 : (backTo pos (starEach es X.env)).any (·.1) = false := by rfl) (hg : Gl X "list" := by rfl) : PE X (.Call (.Name "list" p) (e :: es) [] pos) (tCB (rListQ X.K) t) :=
  pe_callTy call_list_of hg hm PyProof.Rows.boot_list ha (by decide +kernel) (by decide +kernel) e1 e2
abbrev rTupQ (K : PySem.W.Frag) : List V → Hp → VK → Prop := fun xs H Q => ∃ p ys, xs = [.ref p] ∧ ((SqL K H p ys ∧ ∀ l, H l = none → Q (.ref l) (upd H l (.tup ys))) ∨ (SqT K H p ys ∧ Q (.ref p) H))
theorem pb_tuple (hm : X.mg "tuple" = none) (ha : PA X (e :: es) t) (e1 : starEach (e :: es) X.env = (false, eval e X.env) :: starEach es X.env := by rfl) (e2 : (backTo pos (starEach es X.env)).any (·.1) = false := by rfl) (hg : Gl X "tuple" := by rfl) : PE X (.Call (.Name "tuple" p) (e :: es) [] pos) (tCB (rTupQ X.K) t) :=
  pe_callTy call_tuple_of hg hm PyProof.Rows.boot_tuple ha (by decide +kernel) (by decide +kernel) e1 e2
abbrev rAbsQ : List V → Hp → VK → Prop := fun xs H Q => ∃ i, xs = [.int i] ∧ Q (.int (if i < 0 then -i else i)) H
theorem pb_abs (hm : X.mg "abs" = none) (ha : PA X (e :: es) t) (e1 : starEach (e :: es) X.env = (false, eval e X.env) :: starEach es X.env := by rfl) (e2 : (backTo pos (starEach es X.env)).any (·.1) = false := by rfl) (hg : Gl X "abs" := by rfl) : PE X (.Call (.Name "abs" p) (e :: es) [] pos) (tCB rAbsQ t) :=
  pe_callB call_abs hg hm PyProof.Rows.boot_abs ha (by decide +kernel) (by decide +kernel) e1 e2
abbrev rIntQ : List V → Hp → VK → Prop := fun xs H Q => (∃ i, xs = [.int i] ∧ Q (.int i) H) ∨ ∃ k, xs = [.bl k] ∧ Q (.int (if k then 1 else 0)) H
theorem pb_int (hm : X.mg "int" = none) (ha : PA X (e :: es) t) (e1 : starEach (e :: es) X.env = (false, eval e X.env) :: starEach es X.env := by rfl) (e2 : (backTo pos (starEach es X.env)).any (·.1) = false := by rfl) (hg : Gl X "int" := by rfl) : PE X (.Call (.Name "int" p) (e :: es) [] pos) (tCB rIntQ t) :=
  pe_callTy call_int1 hg hm PyProof.Rows.boot_int ha (by decide +kernel) (by decide +kernel) e1 e2
abbrev rMin2Q : List V → Hp → VK → Prop := fun xs H Q => ∃ i j, xs = [.int i, .int j] ∧ Q (.int (if j < i then j else i)) H
theorem pb_min2 (hm : X.mg "min" = none) (ha : PA X (e :: es) t) (e1 : starEach (e :: es) X.env = (false, eval e X.env) :: starEach es X.env := by rfl) (e2 : (backTo pos (starEach es X.env)).any (·.1) = false := by rfl) (hg : Gl X "min" := by rfl) (hc : X.calm = true := by rfl) : PE X (.Call (.Name "min" p) (e :: es) [] pos) (tCB rMin2Q t) :=
  pe_callB (call_min2 hc) hg hm PyProof.Rows.boot_min ha (by decide +kernel) (by decide +kernel) e1 e2
theorem pb_min (hm : X.mg "min" = none) (ha : PA X (e :: es) t) (e1 : starEach (e :: es) X.env = (false, eval e X.env) :: starEach es X.env := by rfl) (e2 : (backTo pos (starEach es X.env)).any (·.1) = false := by rfl) (hg : Gl X "min" := by rfl) (hc : X.calm = true := by rfl) : PE X (.Call (.Name "min" p) (e :: es) [] pos) (tCB (rMin X.K) t) :=
  pe_callB (cr_min hc) hg hm PyProof.Rows.boot_min ha (by decide +kernel) (by decide +kernel) e1 e2
theorem pb_max (hm : X.mg "max" = none) (ha : PA X (e :: es) t) (e1 : starEach (e :: es) X.env = (false, eval e X.env) :: starEach es X.env := by rfl) (e2 : (backTo pos (starEach es X.env)).any (·.1) = false := by rfl) (hg : Gl X "max" := by rfl) (hc : X.calm = true := by rfl) : PE X (.Call (.Name "max" p) (e :: es) [] pos) (tCB (rMax X.K) t) :=
  pe_callB (cr_max hc) hg hm PyProof.Rows.boot_max ha (by decide +kernel) (by decide +kernel) e1 e2
theorem pb_any (hm : X.mg "any" = none) (ha : PA X (e :: es) t) (e1 : starEach (e :: es) X.env = (false, eval e X.env) :: starEach es X.env := by rfl) (e2 : (backTo pos (starEach es X.env)).any (·.1) = false := by rfl) (hg : Gl X "any" := by rfl) (hc : X.calm = true := by rfl) : PE X (.Call (.Name "any" p) (e :: es) [] pos) (tCB (rAny X.K) t) :=
  pe_callB (cr_any hc) hg hm PyProof.Rows.boot_any ha (by decide +kernel) (by decide +kernel) e1 e2
theorem pb_all (hm : X.mg "all" = none) (ha : PA X (e :: es) t) (e1 : starEach (e :: es) X.env = (false, eval e X.env) :: starEach es X.env := by rfl) (e2 : (backTo pos (starEach es X.env)).any (·.1) = false := by rfl) (hg : Gl X "all" := by rfl) (hc : X.calm = true := by rfl) : PE X (.Call (.Name "all" p) (e :: es) [] pos) (tCB (rAll X.K) t) :=
  pe_callB (cr_all hc) hg hm PyProof.Rows.boot_all ha (by decide +kernel) (by decide +kernel) e1 e2
theorem pb_sortedS (hm : X.mg "sorted" = none) (ha : PA X (e :: es) t) (e1 : starEach (e :: es) X.env = (false, eval e X.env) :: starEach es X.env := by rfl) (e2 : (backTo pos (starEach es X.env)).any (·.1) = false := by rfl) (hg : Gl X "sorted" := by rfl) (hc : X.calm = true := by rfl) : PE X (.Call (.Name "sorted" p) (e :: es) [] pos) (tCB (rSortedSet X.w) t) :=
  pe_callB (cr_sortedSet hc) hg hm PyProof.Rows.boot_sorted ha (by decide +kernel) (by decide +kernel) e1 e2
theorem pb_sortedP (hm : X.mg "sorted" = none) (ha : PA X (e :: es) t) (e1 : starEach (e :: es) X.env = (false, eval e X.env) :: starEach es X.env := by rfl) (e2 : (backTo pos (starEach es X.env)).any (·.1) = false := by rfl) (hg : Gl X "sorted" := by rfl) : PE X (.Call (.Name "sorted" p) (e :: es) [] pos) (tCB (rSortedPO X.K) t) :=
  pe_callB cr_sortedPO hg hm PyProof.Rows.boot_sorted ha (by decide +kernel) (by decide +kernel) e1 e2
theorem pb_isi (hm : X.mg "isinstance" = none) (ha : PA X (e :: es) t) (e1 : starEach (e :: es) X.env = (false, eval e X.env) :: starEach es X.env := by rfl) (e2 : (backTo pos (starEach es X.env)).any (·.1) = false := by rfl) (hg : Gl X "isinstance" := by rfl) : PE X (.Call (.Name "isinstance" p) (e :: es) [] pos) (tCB (rIsi X.K) t) :=
  pe_callB call_isi hg hm PyProof.Rows.boot_isinstance ha (by decide +kernel) (by decide +kernel) e1 e2
theorem pb_isiT (hm : X.mg "isinstance" = none) (ha : PA X (e :: es) t) (e1 : starEach (e :: es) X.env = (false, eval e X.env) :: starEach es X.env := by rfl) (e2 : (backTo pos (starEach es X.env)).any (·.1) = false := by rfl) (hg : Gl X "isinstance" := by rfl) : PE X (.Call (.Name "isinstance" p) (e :: es) [] pos) (tCB (rIsiT X.K) t) :=
  pe_callB call_isiT hg hm PyProof.Rows.boot_isinstance ha (by decide +kernel) (by decide +kernel) e1 e2
abbrev rDictDQ : List V → Hp → VK → Prop := fun xs H Q => ∃ (a : Addr) (kvs : List (Key × V)), xs = [.ref a] ∧ Rd H a (.dK kvs) ∧ ∀ p, H p = none → Q (.ref p) (upd H p (.dK kvs))
theorem pb_dictD (hm : X.mg "dict" = none) (ha : PA X (e :: es) t) (e1 : starEach (e :: es) X.env = (false, eval e X.env) :: starEach es X.env := by rfl) (e2 : (backTo pos (starEach es X.env)).any (·.1) = false := by rfl) (hg : Gl X "dict" := by rfl) : PE X (.Call (.Name "dict" p) (e :: es) [] pos) (tCB rDictDQ t) :=
  pe_callTy call_dictD hg hm PyProof.Rows.boot_dict ha (by decide +kernel) (by decide +kernel) e1 e2
abbrev rTIxQ (K : PySem.W.Frag) : V → List V → Hp → VK → Prop := fun x xs H Q => ∃ p, ∃ ys : List Str, ∃ z j, x = .ref p ∧ xs = [.str z] ∧ SqT K H p (ys.map V.str) ∧ ys[j]? = some z ∧ (∀ m, m < j → ys[m]? ≠ some z) ∧ Q (.int (j : Nat)) H
theorem ip_xor : PIp X .BitXor (ipI fun i j => Builtin.bitXor i j) := fun pins s σ H x y v u Q I rx ry h => by
  obtain ⟨i, j, e1, e2, q⟩ := h
  exact iop_xor pins s σ H x y v u Q I rx ry ⟨i, j, e1, e2, q⟩
end
end WS
set_option Elab.async false
set_option linter.all false
set_option maxRecDepth 100000
set_option maxHeartbeats 4000000
/-! enumerate over a tuple -/
namespace PySem
open Sem (wp)
open AutoSeq1 (wpAny_loadPart')
theorem ws_enum_newT (l : Addr) (items : Array Value) (n : Nat) (dct : Option Addr) (sl : Array (Option Value)) :
    Meets (Builtin.«enumerate.__new__» ⟨[.type "enumerate", .ref l], []⟩) (fun _ R s => s.heap.get? l = some { cls := .type "tuple", dict := dct, data := .seq items n, slots := sl } ∧
      R (.ok (.ret (.ref (s.heap.push { cls := .type "tuple_iterator", data := .fields #[.ref l, .int 0 0] }).objs.size)))
        { s with heap := (s.heap.push { cls := .type "tuple_iterator", data := .fields #[.ref l, .int 0 0] }).push { cls := .type "enumerate", data := .fields #[.none, .bool false, .ref s.heap.objs.size, rawInt 0, .none, .none] } }) :=
  .of_wp fun prog w A R s hst => by
    obtain ⟨hp, g, d, tk, os⟩ := s
    obtain ⟨hl, hR⟩ := hst
    have hsub := sub_enumerate
    have hT : Heap.IsTuple (Shared.heap ⟨hp, g, d, tk, os⟩) l items := ⟨_, hl, rfl, n, rfl⟩
    wp_walk using wpAny_loadPart' hl
    refine wpAny_stack_any fun st => wpAny_pure ?_
    split
    · rename_i c _ _ _ _ _
      cases (c == Value.type "enumerate") <;> (wp_walk using wpAny_loadPart' hl, wpAny_pyIter_tuple hT; exact ⟨_, rfl, hR⟩)
    · wp_walk using wpAny_loadPart' hl, wpAny_pyIter_tuple hT
      exact ⟨_, rfl, hR⟩
section
variable {prog : Program} {w : World} {A : Around} {E : Value → Shared → Prop} {s : Shared}
theorem ws_call_enumT {l : Addr} {items : Array Value} {Q : Value → Shared → Prop} (hT : s.heap.IsTuple l items)
    (h : ∀ h', IsEnum h' (s.heap.objs.size + 1) s.heap.objs.size 0 .none → h'.IsTupleIter s.heap.objs.size l 0 →
      (∀ b o, s.heap.get? b = some o → h'.get? b = some o) → Q (.ref (s.heap.objs.size + 1)) { s with heap := h' }) :
    wpAny (model prog w) A (call (.type "enumerate") [.ref l]) Q E s := by
  obtain ⟨⟨c, dct, dt, sl⟩, hl, hc, n, hd⟩ := hT
  cases (show c = .type "tuple" from hc)
  cases (show dt = .seq items n from hd)
  refine callType_new F.called_enumerate (by decide) (F.typeCall_enumerate_1 _) (F.newCall_enumerate_1 _) (fun obj => F.args_object_init_2 obj _) F.entry_enumerate_new
    (ws_enum_newT l items n dct sl) ⟨hl, ?_⟩
  have sz : (s.heap.push { cls := .type "tuple_iterator", data := .fields #[.ref l, .int 0 0] }).objs.size = s.heap.objs.size + 1 := Heap.size_push ..
  have new := Heap.get?_push_size (s.heap.push { cls := .type "tuple_iterator", data := .fields #[.ref l, .int 0 0] })
    (o := { cls := .type "enumerate", data := .fields #[.none, .bool false, .ref s.heap.objs.size, rawInt 0, .none, .none] }) rfl
  rw [sz] at new
  show _ ∧ _
  rw [sz]
  exact ⟨⟨_, new, rfl⟩, h _ new ⟨_, Heap.get?_push_of_some _ (Heap.get?_push_size _ rfl), rfl, rfl⟩ fun b o x => Heap.get?_push_of_some _ (Heap.get?_push_of_some _ x)⟩
end
end PySem
namespace WS
open PySem PySem.Spec PyProof.Rows L2
/-- the tuple at a as it stands at each turn, each item in a new pair with its place -/
def IteT (K : PySem.W.Frag) (a : Addr) : It :=
  ⟨fun i H => ∃ (xs : List V) (x : V), SqT K H a xs ∧ xs[i]? = some x,
   fun i H v H' => ∃ T x, v = .ref T ∧ H T = none ∧ H' = upd H T (.tup [.int (i : Nat), x]) ∧ ∀ xs, SqT K H a xs → xs[i]? = some x,
   fun i H => ∃ xs : List V, SqT K H a xs ∧ xs.length ≤ i⟩
theorem tup_inj {X : Cx} {pins : List (Addr × Obj)} {σ : L2.St} {H : Hp} {s : Shared} {a : Addr} {xs ys : List V} (I : Inv X pins σ H s) (h : SqT X.K H a xs) (h' : SqT X.K H a ys) : xs = ys := by
  exact I.tuple_inj h h'
theorem turn_enumT {P : Program} {w : World} {K : PySem.W.Frag} {elts : List Expr} {kk : Nat} {tpos : Pos} (a e it : Addr) :
    Turn P w K (.Tuple elts kk tpos) (IteT K a) [e, it] e (fun i h => (∃ old, IsEnum h e it ((i : Nat) : Int) old) ∧ h.IsTupleIter it a i ∧ e ≠ it) where
  mem := by simp
  obj := fun i h st b hb => by
    obtain ⟨⟨old, he⟩, ⟨o, ho, hc, hd⟩, _⟩ := st
    rcases (by simpa using hb : b = e ∨ b = it) with rfl | rfl
    · exact ⟨_, he, fun v q => nomatch q⟩
    · exact ⟨o, ho, fun v q => by rw [hd] at q; cases q⟩
  keep := fun i h h' st k => by
    obtain ⟨⟨old, he⟩, hi, hne⟩ := st
    exact ⟨⟨old, k e (by simp) _ he⟩, hi.at fun o q => k it (by simp) o q, hne⟩
  item := by
    intro X hP hw hK hc i pins s σ H E I hf st hg
    subst hP hw hK
    obtain ⟨⟨old, he⟩, hit, hne⟩ := st
    obtain ⟨xs, x, hq, hx⟩ := hg
    obtain ⟨its, rv, tp, hz⟩ := I.tuple hq
    obtain ⟨u, hu, ru⟩ := rv.get hx
    have hel : e < s.heap.objs.size := Heap.lt_size he
    have hil : it < s.heap.objs.size := by obtain ⟨_, q, _⟩ := hit; exact Heap.lt_size q
    have hai : a ≠ it := by
      rintro rfl
      obtain ⟨o1, q1, c1, _⟩ := hit
      obtain ⟨o2, q2, c2, _⟩ := tp
      rw [q1] at q2
      cases q2
      rw [c1] at c2
      exact absurd c2 (by decide +kernel)
    have hae : e ≠ a := by
      rintro rfl
      obtain ⟨o2, q2, c2, _⟩ := tp
      rw [he] at q2
      cases q2
      exact absurd c2 (by show ¬ Value.type "enumerate" = Value.type "tuple"; decide +kernel)
    have hui : its.toArray[i]? = some u := by simpa using hu
    have hlt : i < its.toArray.size := (Array.getElem?_eq_some_iff.mp hui).1
    refine wpAny_pyNext_enum_itemD (Draws.tuple (A := X.A.in1) (I.ok.hd hc) it a hai its.toArray) he ⟨hit, tp⟩ hlt hne (by simp [hne, hae]) fun x' h' tk hP ho hst hT hsz hk => ?_
    have hP' : its.toArray[i]? = some x' := hP
    cases hui.symm.trans hP'
    refine ⟨_, rfl, wpAny_letOwnedTupleGo_enum (s := { s with heap := h', toks := tk + 1 }) ho fun h'' he' sb => ?_⟩
    have hT2 : h''.get? s.heap.objs.size = some { cls := .type "tuple", data := .seq #[.int i tk, u] } := (sb.2 _ (Nat.ne_of_gt hel)).trans hT
    have new : ObjOk X.prog X.w (upd H s.heap.objs.size (.tup [.int (i : Nat), x])) h'' s.heap.objs.size (.tup [.int (i : Nat), x]) :=
      ⟨by show 2 ≤ sizeLine; decide, [.int i tk, u], .cons ⟨_, rfl⟩ (.cons ru .nil), ⟨_, hT2, rfl, _, rfl⟩⟩
    have I1 : Inv X pins σ (upd H s.heap.objs.size (.tup [.int (i : Nat), x])) { s with heap := h'', toks := tk + 1 } :=
      I.turnedNew (ch := [e, it]) (fun b ob hb q => (sb.2 b (fun z => hb (by simp [z]))).trans (hk b ob (fun z => hb (by simp [z])) (fun z => hb (by simp [z])) q)) hf (Nat.le_refl _) new
    refine ⟨.ref s.heap.objs.size, _, I1, rfl, ⟨_, x, rfl, I.hok.fresh (Nat.le_refl _), rfl, fun ys hy => by rw [tup_inj I hy hq]; exact hx⟩, ⟨⟨u, ?_⟩, hst.1.at fun o q => (sb.2 it (Ne.symm hne)).trans q, hne⟩, fun b hb => ?_⟩
    · rw [show ((i + 1 : Nat) : Int) = (i : Int) + 1 by omega]
      exact he'
    · have hb' : b < s.heap.objs.size := by
        rcases (by simpa using hb : b = e ∨ b = it) with rfl | rfl
        · exact hel
        · exact hil
      rw [upd_ne (Nat.ne_of_lt hb')]
      exact (hf b hb).1
  done := by
    intro X hP hw hK hc i pins s σ H E I hf st hg
    subst hP hw hK
    obtain ⟨⟨old, he⟩, hit, hne⟩ := st
    obtain ⟨xs, hq, hx⟩ := hg
    obtain ⟨its, rv, tp, hz⟩ := I.tuple hq
    obtain ⟨f0, f1, f2, f3, f4, f5⟩ := hf it (by simp)
    have hl := rv.length
    have tp' : s.heap.IsTuple a its.toArray := tp
    have hT : s.TypeIs (.ref e) "enumerate" := ⟨_, he, rfl⟩
    unfold pyNext
    refine wpAny_bind (wpAny_attempt (wpAny_callSpecial?_slot (name := Str.ofString "__next__") hT F.slot_enumerate_next
      (wpAny_call_entry F.slot_enumerate_next hT F.entry_enumerate_next ?_ (F.args_enumerate_next_1 _))))
    show wpAny _ _ (field (.ref e) 2 >>= _) _ _ _
    refine wpAny_bind (wpAny_field he rfl (x := .ref it) rfl ?_)
    refine wpAny_bind (wpAny_nextOf_tuple_end (I.ok.hd hc) hit tp' (by simp; omega) fun h' ex eb hx' => ?_)
    obtain ⟨o, ho, hcl⟩ := hx'
    refine wpAny_bind (wpAny_isInstance (T := "StopIteration") (b := true) ⟨o, ho, hcl⟩ isSubtype_stop ?_)
    exact wpAny_pure ⟨rfl, I.turned (t' := s.toks) (fun b o hb q => eb b o hb q) f0 f1 f3 f4 f5⟩
  self := fun A i s Q E st h => by
    obtain ⟨⟨_, he⟩, _⟩ := st
    exact wpAny_pyIter_enum he h
def iEnumT (K : PySem.W.Frag) (ta : TA) : TI := fun σ H R => ta σ H fun vs H1 => ∃ a xs, vs = [.ref a] ∧ SqT K H1 a xs ∧ R (IteT K a) H1
theorem pi_enumT {X : Cx} {e : Expr} {ta : TA} {p pos tpos : Pos} {elts : List Expr} {kk : Nat} (hg : Gl X "enumerate") (hm : X.mg "enumerate" = none) (ha : PA X [e] ta) (hs : starEach [e] X.env = [(false, eval e X.env)] := by rfl) :
    PI X (.Tuple elts kk tpos) (.Call (.Name "enumerate" p) [e] [] pos) (iEnumT X.K ta) := by
  refine ⟨fun pins s σ H R I h => ?_⟩
  refine Call_ (ld_blt I hg hm boot_enumerate (PyProof.Rows.callWith_type1 (thn (ha.run pos pins s σ H _ I h) fun us s1 ⟨vs, H1, I1, r1, q1⟩ => ?_) hs rfl))
  obtain ⟨a, xs, rfl, hq, q⟩ := q1
  cases r1 with
  | cons r rr =>
    cases rr
    cases r
    obtain ⟨its, rv, tp, hz⟩ := I1.tuple hq
    refine ws_call_enumT tp fun h' he hit hk => wpAny_pyIter_enum he ?_
    have I2 : Inv X pins σ H1 { s1 with heap := h' } := I1.kept (t' := s1.toks) hk
    refine ⟨s1.heap.objs.size + 1, [s1.heap.objs.size + 1, s1.heap.objs.size], _, _, H1, rfl, I2, turn_enumT a (s1.heap.objs.size + 1) s1.heap.objs.size, ⟨⟨.none, he⟩, hit, Nat.succ_ne_self _⟩, fun b hb => ?_, q⟩
    have hle : s1.heap.objs.size ≤ b := by
      rcases (by simpa using hb : b = s1.heap.objs.size + 1 ∨ b = s1.heap.objs.size) with z | z
      · rw [z]; exact Nat.le_succ _
      · rw [z]; exact Nat.le_refl _
    exact I1.fpOk hle (I1.hok.fresh hle)
end WS
set_option Elab.async false
set_option linter.all false
set_option maxRecDepth 100000
set_option maxHeartbeats 8000000
/-! set(l) of a list of whole numbers, its table known (so that it can be sorted) -/
namespace RZ
open PySem PySem.Spec PyProof.Rows L2
open PySem.Sem (wp)
section
variable {P : Program} {w : World} {A : Around} {E : Value → Shared → Prop} {s : Shared}
/-- an empty set -/
abbrev noSet (w : World) : Obj := { cls := .type "set", dict := none, data := .set #[] 0 (.fresh 0 0 (!w.params.followText "set-order")) }
theorem ws_set_init {l : Addr} {items : Array Value} {ns : List Int} {hp : Heap} {g : Array GenState} {d : Drawn} {tk : Nat} {os : OsState} {R : Result → Shared → Prop} {S : Addr} (hh : A.handled = none) (hl : hp.IsList l items) (hit : IntsAre items.toList ns)
    (hb : ns.length + 1 < scanBound) (hS : hp.get? S = some (noSet w)) (hlS : l ≠ S)
    (h : ∀ (h' : Heap) (tk c : Nat), SetR w h' S (fun j => decide (j ∈ ns)) c → c ≤ ns.length → (∀ b o, b ≠ S → hp.get? b = some o → h'.get? b = some o) → R (.ok (.ret .none)) { heap := h', gens := g, drawn := d, toks := tk, os := os }) :
    wpAny (model P w) A.in1 (Builtin.«set.__init__» ⟨[.ref S, .ref l], []⟩)
      (fun fin s' => match fin with | .done f => R (.ok f) s' | .again c' => c'.quiet = true ∧ codeAny (model P w) A c' R s') (fun e s' => R (.error e) s') ⟨hp, g, d, tk, os⟩ := by
  have hisz : items.size = ns.length := by
    have q := IntsAre.length hit
    rwa [Array.length_toList] at q
  have hT : Shared.TypeIs ⟨hp, g, d, tk, os⟩ (.ref S) "set" := ⟨_, hS, rfl⟩
  obtain ⟨⟨c0, d0, t0, sl0⟩, ho, hc, n0, hd⟩ := id hl
  cases (show c0 = .type "list" from hc)
  cases (show t0 = .seq items n0 from hd)
  have e1 := F.sub_list_set
  have e2 := F.sub_list_frozenset
  have e3 : (Value.type "list" == Value.type "dict") = false := by decide
  unfold Builtin.«set.__init__» noKeywords Builtin.Frozenset.updateFrom
  generalize hPI : pyIter = PI
  wp_walk
  subst hPI
  refine wpAny_pyIter_list hl ?_
  refine wpAny_bind (wpAny_runValue ?_)
  have SL : S < hp.objs.size := Heap.lt_size hS
  have LL : l < hp.objs.size := Heap.lt_size ho
  have h3 : A.in1.in1.handled = none := by simp [hh]
  refine set_update_ints ((Walks.list h3 hp.objs.size l (Nat.ne_of_lt LL) items).toS) S (by simp only [List.mem_cons, List.not_mem_nil, or_false, not_or]; exact ⟨Nat.ne_of_lt SL, fun q => hlS q.symm⟩)
    ns hisz hb (fun i v hv => ?_) (items.size - 0) 0 _ (by omega) (Nat.zero_le _) ⟨⟨_, Heap.get?_push_size _ rfl, rfl, rfl⟩, hl.push _⟩ ⟨0, Nat.le_refl 0, setR_new_at (Heap.get?_push_of_some _ hS)⟩ fun s' c hm hc' hS' => ?_
  · have hv' : items[i]? = some v := hv
    have hi : i < ns.length := by rw [← hisz]; exact (Array.getElem?_eq_some_iff.mp hv').1
    obtain ⟨t, e⟩ := PyProof.Rows.IntsAre.int_at hit i v (by rw [Array.getElem?_toList]; exact hv')
    refine ⟨ns[i], t, List.getElem?_eq_getElem hi, ?_⟩
    rw [e, List.getD_eq_getElem?_getD, List.getElem?_eq_getElem hi] <;> rfl
  · obtain ⟨h', g2, d2, tk2, os2⟩ := s'
    cases (show g2 = g from hm.gens)
    cases (show d2 = d from hm.drawn)
    cases (show os2 = os from hm.os)
    show wpAny _ _ _ _ _ _
    refine wpAny_pure ?_
    show wpAny _ _ (ret Value.none) _ _ _
    rw [hisz] at hc'
    refine wpAny_pure (h h' tk2 c hS' hc' fun b o nb e => ?_)
    exact hm.heap b o (by simp only [List.mem_cons, List.not_mem_nil, or_false, not_or]; exact ⟨nb, Nat.ne_of_lt (Heap.lt_size e)⟩) (Heap.get?_push_of_some _ e)
theorem ws_call_set {l : Addr} {items : Array Value} (ns : List Int) {Q : Value → Shared → Prop} (hh : A.handled = none) (hl : s.heap.IsList l items) (hit : IntsAre items.toList ns) (hb : ns.length + 1 < scanBound)
    (h : ∀ (h' : Heap) (tk c : Nat), SetR w h' s.heap.objs.size (fun j => decide (j ∈ ns)) c → c ≤ ns.length → (∀ b o, s.heap.get? b = some o → h'.get? b = some o) → Q (.ref s.heap.objs.size) { s with heap := h', toks := tk }) :
    wpAny (model P w) A (call (.type "set") [.ref l]) Q E s := by
  obtain ⟨c, tl, hmro⟩ := F.called_set.mro
  have made := F.called_set.made
  have sub := F.called_set.sub
  refine wpAny_call (codeAny_of_tree ?_)
  show wpAny _ _ (callAny (.type "set") _) _ _ _
  refine wpAny_pure ⟨Code.quiet_builtin _ (by decide +kernel), codeAny_builtin F.entry_type_call ?_⟩
  rw [Around.under_plain (weight_type_call_type "set" [.ref l] []) rfl]
  have f1 := F.called_set.notType
  have f2 := F.called_set.canCreate
  have f3 := F.typeCall_set_1 (.ref l)
  repeat (any_goals (first | assumption | wp_step))
  refine codeAny_mono (code_set_led1 (.ref l) (E := E) (Q₁ := fun obj s₁ => obj = .ref s.heap.objs.size ∧ s₁ = { s with heap := s.heap.push (noSet w) }) ⟨rfl, rfl⟩) fun r s₁ hr => ?_
  cases r with
  | error e => exact hr
  | ok fl =>
    cases fl with
    | ret obj =>
      obtain ⟨rfl, rfl⟩ := hr
      have hS : (s.heap.push (noSet w)).get? s.heap.objs.size = some (noSet w) := Heap.get?_push_size _ rfl
      have hT : Shared.TypeIs { s with heap := s.heap.push (noSet w) } (.ref s.heap.objs.size) "set" := ⟨_, hS, rfl⟩
      have g1 := F.called_set.init.lookup
      have g2 := F.called_set.init.bind (.ref s.heap.objs.size)
      repeat (any_goals (first | assumption | wp_step))
      refine codeAny_mono (codeAny_call_builtin (R := wants (fun r s₂ => r = .none ∧ ∃ h' tk c, s₂ = { s with heap := h', toks := tk } ∧ SetR w h' s.heap.objs.size (fun j => decide (j ∈ ns)) c ∧ c ≤ ns.length ∧
          (∀ b o, s.heap.get? b = some o → h'.get? b = some o)) E) F.called_set.init.plain F.entry_set_init (check_set_init_1 hT ?_)) fun r₂ s₂ hr₂ => ?_
      · have LL : l < s.heap.objs.size := by obtain ⟨_, e, _⟩ := hl; exact Heap.lt_size e
        exact ws_set_init (by simp [hh]) (hl.push _) hit hb hS (Nat.ne_of_lt LL) fun h' tk c R1 hc k => ⟨rfl, h', tk, c, rfl, R1, hc, fun b o e => k b o (Nat.ne_of_lt (Heap.lt_size e)) (Heap.get?_push_of_some _ e)⟩
      · cases r₂ with
        | error e => exact hr₂
        | ok fl₂ =>
          cases fl₂ with
          | ret r =>
            obtain ⟨rfl, h', tk, c, rfl, hS', hc', hk'⟩ := hr₂
            repeat (any_goals (first | assumption | wp_step))
            exact h _ _ _ hS' hc' hk'
          | _ => exact hr₂.elim
    | _ => exact hr.elim
end
end RZ
namespace WS
open PySem PySem.Spec PyProof.Rows L2
def rSetL (w : World) (K : PySem.W.Frag) : List V → Hp → VK → Prop := fun xs H Q => ∃ (a : Addr) (ns : List Int), xs = [.ref a] ∧ SqL K H a (ns.map V.int) ∧ ns.length ≤ 1000 ∧
  ∀ p c, c ≤ ns.length → H p = none → Q (.ref p) (upd H p (SetO w p (fun j => decide (j ∈ ns)) c))
theorem cr_setL {X : Cx} (hc : X.calm = true) : CallR X (.type "set") (rSetL X.w X.K) := by
  intro pins s σ H xs us Q I r h
  obtain ⟨a, ns, rfl, hs, hl, q⟩ := h
  obtain ⟨its, rv, pl, _⟩ := I.list hs
  rw [Vals.ref1 r]
  have hit : IntsAre its.toArray.toList ns := by simpa using RZ.intsAre_vals rv
  refine RZ.ws_call_set ns (I.ok.hd hc) pl.isList hit (by unfold scanBound; omega) fun h' tk c R1 hcn k => ?_
  exact ⟨.ref _, upd H s.heap.objs.size (SetO X.w s.heap.objs.size (fun j => decide (j ∈ ns)) c), I.laid (t' := tk) k (Nat.le_refl _) (setO_new R1), rfl, q _ c hcn (I.hok.fresh (Nat.le_refl _))⟩
theorem pb_set {X : Cx} {e : Expr} {es : List Expr} {t : TA} {p pos : Pos} (hm : X.mg "set" = none) (ha : PA X (e :: es) t) (e1 : starEach (e :: es) X.env = (false, eval e X.env) :: starEach es X.env := by rfl)
    (e2 : (backTo pos (starEach es X.env)).any (·.1) = false := by rfl) (hg : Gl X "set" := by rfl) (hc : X.calm = true := by rfl) : PE X (.Call (.Name "set" p) (e :: es) [] pos) (tCB (rSetL X.w X.K) t) :=
  pe_callTy (cr_setL hc) hg hm PyProof.Rows.boot_set ha (by decide +kernel) (by decide +kernel) e1 e2
end WS
set_option Elab.async false
set_option linter.all false
set_option maxRecDepth 100000
set_option maxHeartbeats 8000000
/-! dict(zip(t, u)) of two tuples; d.update(e) -/
namespace RZ
open PySem PySem.Spec
open PySem.Sem (wp)
open PySem.W (KdxIt kdx_alive)
section
variable {prog : Program} {w : World} {A : Around} {E : Value → Shared → Prop} {s : Shared} {z TI TO T i1 i2 l1 l2 : Addr} {f : Bool} {oT : Obj} {k1 k2 : Nat} {xs ys : Array Value}
/-- zip's next while the pair given out before still stands; both walks are of tuples -/
theorem ws_zip_head {Q : Fin → Shared → Prop} (hz : IsZipHeld s.heap z TI TO T f) (hT : s.heap.get? T = some oT) (hTI : IsPair s.heap TI (.ref i1) (.ref i2))
    (h : ∀ h₁, IsZipHeld h₁ z TI TO T true → Heap.SameBut z s.heap h₁ →
      wpAny (model prog w) A (Builtin.SmallTypes.nextOf (.ref i1)) (fun v s₂ => wpAny (model prog w) A (Builtin.SmallTypes.nextOf (.ref i2)) (fun u s₃ => wpAny (model prog w) A (newTuple [v, u]) (fun r s₄ => Q (.done (.ret r)) s₄) E s₃) E s₂) E { s with heap := h₁ }) :
    wpAny (model prog w) A (Builtin.«zip.__next__» ⟨[.ref z], []⟩) Q E s := by
  show wpAny _ _ (field (.ref z) 2 >>= _) _ _ _
  refine wpAny_bind (wpAny_field hz rfl (x := .bool false) rfl ?_)
  show wpAny _ _ (field (.ref z) 3 >>= _) _ _ _
  refine wpAny_bind (wpAny_field hz rfl (x := .ref TI) rfl (wpAny_bind (wpAny_seqItems hTI rfl ?_)))
  show wpAny _ _ (Builtin.SmallTypes.ownedTupleIsFree (.ref z) >>= _) _ _ _
  refine wpAny_bind (wpAny_tupleHeld_zip hz hT fun h₁ hz₁ hs₁ => ?_)
  simp only [Bool.false_eq_true, if_false]
  refine wpAny_bind ?_
  rw [← Array.forIn_toList]
  simp only [List.forIn_cons, List.forIn_nil]
  refine wpAny_bind (wpAny_bind (wpAny_holding ?_))
  show wpAny _ _ (Builtin.SmallTypes.nextOf (.ref i1) >>= _) _ _ _
  refine wpAny_bind (wpAny_mono (h h₁ hz₁ hs₁) (fun v s₂ h2 => wpAny_pure (wpAny_pure ?_)) fun _ _ q => q)
  refine wpAny_bind (wpAny_bind (wpAny_holding ?_))
  show wpAny _ _ (Builtin.SmallTypes.nextOf (.ref i2) >>= _) _ _ _
  refine wpAny_bind (wpAny_mono h2 (fun u s₃ h3 => wpAny_pure (wpAny_pure (wpAny_pure ?_))) fun _ _ q => q)
  show wpAny _ _ (newTuple [v, u] >>= _) _ _ _
  exact wpAny_bind (wpAny_mono h3 (fun r s₄ h4 => wpAny_pure h4) fun _ _ q => q)
theorem ws_zip_item {x y : Value} {Q : Option Value → Shared → Prop} (D : ZipApart z TI TO i1 i2 l1 l2) (hz : IsZipHeld s.heap z TI TO T f) (hT : s.heap.get? T = some oT) (hTI : IsPair s.heap TI (.ref i1) (.ref i2))
    (h1 : s.heap.IsTupleIter i1 l1 k1) (h2 : s.heap.IsTupleIter i2 l2 k2) (hl1 : s.heap.IsTuple l1 xs) (hl2 : s.heap.IsTuple l2 ys) (hx : xs[k1]? = some x) (hy : ys[k2]? = some y)
    (hQ : ∀ h', IsZipHeld h' z TI TO T true → h'.IsTupleIter i1 l1 (k1 + 1) → h'.IsTupleIter i2 l2 (k2 + 1) → IsPair h' s.heap.objs.size x y →
      (∀ c o, c ≠ z → c ≠ i1 → c ≠ i2 → s.heap.get? c = some o → h'.get? c = some o) → Q (some (.ref s.heap.objs.size)) { s with heap := h' }) : wpAny (model prog w) A (pyNext (.ref z)) Q E s := by
  have ty : s.TypeIs (.ref z) "zip" := ⟨_, hz, rfl⟩
  unfold pyNext
  refine wpAny_bind (wpAny_attempt (wpAny_callSpecial?_slot (name := Str.ofString "__next__") ty F.slot_zip_next (wpAny_call_entry F.slot_zip_next ty F.entry_zip_next ?_ (F.args_zip_next_1 _))))
  refine ws_zip_head hz hT hTI fun h₁ hz₁ s1 => ?_
  refine nextOf_tuple_item (s := { s with heap := h₁ }) (h1.extBut s1.extBut D.i1z) (hl1.extBut s1.extBut D.l1z) hx fun h₂ a1 s2 => ?_
  refine nextOf_tuple_item (s := { s with heap := h₂ }) ((h2.extBut s1.extBut D.i2z).extBut s2.extBut D.i12.symm) ((hl2.extBut s1.extBut D.l2z).extBut s2.extBut D.l2i1) hy fun h₃ a2 s3 => ?_
  refine wpAny_newTuple ?_
  have sz : h₃.objs.size = s.heap.objs.size := by rw [s3.1, s2.1, s1.1]
  have hz₃ : IsZipHeld h₃ z TI TO T true := s3.extBut _ _ D.i2z.symm (s2.extBut _ _ D.i1z.symm hz₁)
  have a3 : h₃.IsTupleIter i1 l1 (k1 + 1) := a1.extBut s3.extBut D.i12
  have hp : IsPair (h₃.push { cls := .type "tuple", data := .seq #[x, y] }) h₃.objs.size x y := Heap.get?_push_size _ rfl
  refine ⟨_, rfl, wpAny_pure ?_⟩
  show Q (some (.ref h₃.objs.size)) _
  rw [sz] at hp ⊢
  exact hQ _ (Heap.get?_push_of_some _ hz₃) (a3.at fun o e => Heap.get?_push_of_some _ e) (a2.at fun o e => Heap.get?_push_of_some _ e) hp
    fun c o c1 c2 c3 e => Heap.get?_push_of_some _ (s3.extBut _ _ c3 (s2.extBut _ _ c2 (s1.extBut _ _ c1 e)))
theorem ws_zip_end {Q : Option Value → Shared → Prop} (hh : A.handled = none) (D : ZipApart z TI TO i1 i2 l1 l2) (hz : IsZipHeld s.heap z TI TO T f) (hT : s.heap.get? T = some oT) (hTI : IsPair s.heap TI (.ref i1) (.ref i2))
    (h1 : s.heap.IsTupleIter i1 l1 k1) (h2 : s.heap.IsTupleIter i2 l2 k2) (hl1 : s.heap.IsTuple l1 xs) (hl2 : s.heap.IsTuple l2 ys) (hend : xs[k1]? = none ∨ ys[k2]? = none)
    (hQ : ∀ h', (∀ c o, c ≠ z → c ≠ i1 → c ≠ i2 → s.heap.get? c = some o → h'.get? c = some o) → Q none { s with heap := h' }) : wpAny (model prog w) A (pyNext (.ref z)) Q E s := by
  have ty : s.TypeIs (.ref z) "zip" := ⟨_, hz, rfl⟩
  have fin : ∀ {h' : Heap} {e : Addr}, (∀ c o, c ≠ z → c ≠ i1 → c ≠ i2 → s.heap.get? c = some o → h'.get? c = some o) → (∃ o, h'.get? e = some o ∧ o.cls = .type "StopIteration") →
      wpAny (model prog w) A (do if ← isInstance (.ref e) (.type "StopIteration") then return none else throw (.ref e)) Q E { s with heap := h' } := fun {h' e} k ⟨o, ho, hc⟩ => by
    refine wpAny_bind (wpAny_isInstance (T := "StopIteration") (b := true) ⟨o, ho, hc⟩ isSubtype_stop ?_)
    exact wpAny_pure (hQ _ k)
  unfold pyNext
  refine wpAny_bind (wpAny_attempt (wpAny_callSpecial?_slot (name := Str.ofString "__next__") ty F.slot_zip_next (wpAny_call_entry F.slot_zip_next ty F.entry_zip_next ?_ (F.args_zip_next_1 _))))
  refine ws_zip_head hz hT hTI fun h₁ hz₁ s1 => ?_
  cases hx : xs[k1]? with
  | none =>
    refine nextOf_tuple_end (s := { s with heap := h₁ }) hh (h1.extBut s1.extBut D.i1z) (hl1.extBut s1.extBut D.l1z) hx fun h₂ e s2 he => ?_
    exact fin (fun c o c1 c2 _ q => s2 _ _ c2 (s1.extBut _ _ c1 q)) he
  | some x =>
    have hy : ys[k2]? = none := by
      rcases hend with q | q
      · rw [hx] at q; cases q
      · exact q
    refine nextOf_tuple_item (s := { s with heap := h₁ }) (h1.extBut s1.extBut D.i1z) (hl1.extBut s1.extBut D.l1z) hx fun h₂ a1 s2 => ?_
    refine nextOf_tuple_end (s := { s with heap := h₂ }) hh ((h2.extBut s1.extBut D.i2z).extBut s2.extBut D.i12.symm) ((hl2.extBut s1.extBut D.l2z).extBut s2.extBut D.l2i1) hy fun h₃ e s3 he => ?_
    exact fin (fun c o c1 c2 c3 q => s3 _ _ c3 (s2.extBut _ _ c2 (s1.extBut _ _ c1 q))) he
end
section
variable {prog : Program} {w : World}
/-- zip of two tuples as what dict() takes -/
theorem ws_zipArg (z TI TO i1 i2 l1 l2 : Addr) (D : ZipApart z TI TO i1 i2 l1 l2) (xs ys : Array Value) :
    PairArg prog w "zip" z [z, TI, TO, i1, i2, l1, l2] [z, TO, i1, i2] (min xs.size ys.size) (fun i k v => xs[i]? = some k ∧ ys[i]? = some v)
      (fun h => IsZip h z TI TO .none ∧ IsPair h TI (.ref i1) (.ref i2) ∧ (∃ a b, IsPair h TO a b) ∧ h.IsTupleIter i1 l1 0 ∧ h.IsTupleIter i2 l2 0 ∧ h.IsTuple l1 xs ∧ h.IsTuple l2 ys) where
  type := fun s ok => ⟨_, ok.1, rfl⟩
  notDict := by decide
  keep := fun h h' ⟨q1, q2, ⟨a, b, q3⟩, q4, q5, q6, q7⟩ k => ⟨k _ _ q1, k _ _ q2, ⟨a, b, k _ _ q3⟩, q4.at fun o e => k _ o e, q5.at fun o e => k _ o e, q6.at fun o e => k _ o e, q7.at fun o e => k _ o e⟩
  there := fun h ⟨q1, q2, ⟨a, c, q3⟩, ⟨_, q4, _⟩, ⟨_, q5, _⟩, ⟨_, q6, _⟩, ⟨_, q7, _⟩⟩ b hb => by
    simp only [List.mem_cons, List.not_mem_nil, or_false] at hb
    rcases hb with rfl | rfl | rfl | rfl | rfl | rfl | rfl
    all_goals first | exact ⟨_, q1⟩ | exact ⟨_, q2⟩ | exact ⟨_, q3⟩ | exact ⟨_, q4⟩ | exact ⟨_, q5⟩ | exact ⟨_, q6⟩ | exact ⟨_, q7⟩
  sub := fun b hb => by simp at hb ⊢; rcases hb with rfl | rfl | rfl | rfl <;> simp
  noKeys := fun A s Q E hA ok h => getAttrOr_miss_zip ok.1 rfl rfl rfl zip_no_keys (by decide +kernel) hA h
  iter := fun A s d Q E hA ok hd hdf h => by
    obtain ⟨hz, hTI, ⟨a, b, hTO⟩, h1, h2, hl1, hl2⟩ := ok
    simp only [List.mem_cons, List.not_mem_nil, or_false, not_or] at hdf
    obtain ⟨dz, dTI, dTO, di1, di2, dl1, dl2⟩ := hdf
    refine wpAny_pyIter_zip hz (h z [z, TO, i1, i2] (fun i h => IsPair h TI (.ref i1) (.ref i2) ∧ h.IsTupleIter i1 l1 i ∧ h.IsTupleIter i2 l2 i ∧ h.IsTuple l1 xs ∧ h.IsTuple l2 ys ∧
      ((IsZip h z TI TO .none ∧ ∃ a b, IsPair h TO a b) ∨ ∃ T f oT, IsZipHeld h z TI TO T f ∧ h.get? T = some oT ∧ T ≠ z ∧ T ≠ i1 ∧ T ≠ i2 ∧ T ≠ d)) s.heap s.toks ?_
      ⟨hTI, h1, h2, hl1, hl2, .inl ⟨hz, a, b, hTO⟩⟩ (fun _ _ e => e) fun b hb => .inl hb)
    refine ⟨fun hm => ?_, fun i g₁ g₂ st k => ?_, fun i s₁ Q₁ E₁ hi st hds hQ => ?_, fun s₁ Q₁ E₁ st hQ => ?_⟩
    · simp only [List.mem_cons, List.not_mem_nil, or_false] at hm
      rcases hm with e | e | e | e
      · exact dz e
      · exact dTO e
      · exact di1 e
      · exact di2 e
    · obtain ⟨p0, p1, p2, p3, p4, p5⟩ := st
      refine ⟨k _ _ (Ne.symm dTI) p0, p1.at fun o e => k _ o (Ne.symm di1) e, p2.at fun o e => k _ o (Ne.symm di2) e, p3.at fun o e => k _ o (Ne.symm dl1) e, p4.at fun o e => k _ o (Ne.symm dl2) e, ?_⟩
      rcases p5 with ⟨q, a, b, q'⟩ | ⟨T, f, oT, q, q', r1, r2, r3, r4⟩
      · exact .inl ⟨k _ _ (Ne.symm dz) q, a, b, k _ _ (Ne.symm dTO) q'⟩
      · exact .inr ⟨T, f, oT, k _ _ (Ne.symm dz) q, k _ _ r4 q', r1, r2, r3, r4⟩
    · obtain ⟨p0, p1, p2, p3, p4, p5⟩ := st
      have ex := Array.getElem?_eq_getElem (Nat.lt_of_lt_of_le hi (Nat.min_le_left xs.size ys.size))
      have ey := Array.getElem?_eq_getElem (Nat.lt_of_lt_of_le hi (Nat.min_le_right xs.size ys.size))
      have far : ∀ {c o}, s₁.heap.get? c = some o → s₁.heap.objs.size ≠ c := fun e => Nat.ne_of_gt (Heap.lt_size e)
      have n1 : s₁.heap.objs.size ≠ i1 := let ⟨_, e, _⟩ := p1; far e
      have n2 : s₁.heap.objs.size ≠ i2 := let ⟨_, e, _⟩ := p2; far e
      rcases p5 with ⟨q, a, b, q'⟩ | ⟨T, f, oT, q, q', r1, r2, r3, r4⟩
      · refine pyNext_zipT_item D q p0 q' p1 p2 p3 p4 ex ey fun h' a1 a2 a3 a4 a5 a6 k => ?_
        exact hQ s₁.heap.objs.size _ _ h' s₁.toks ⟨ex, ey⟩ (.inl ⟨_, a5, rfl, _, rfl⟩)
          ⟨k _ _ D.TIz D.TITO D.TIi1 D.TIi2 p0, a3, a4, p3.at fun o e => k _ o D.l1z D.l1TO D.l1i1 D.l1i2 e, p4.at fun o e => k _ o D.l2z D.l2TO D.l2i1 D.l2i2 e, .inr ⟨s₁.heap.objs.size, false, _, a1, a5, far q, n1, n2, Nat.ne_of_gt hds⟩⟩
          fun c o hc e => k c o (fun x => hc (by simp [x])) (fun x => hc (by simp [x])) (fun x => hc (by simp [x])) (fun x => hc (by simp [x])) e
      · refine ws_zip_item D q q' p0 p1 p2 p3 p4 ex ey fun h' a1 a3 a4 a5 k => ?_
        exact hQ s₁.heap.objs.size _ _ h' s₁.toks ⟨ex, ey⟩ (.inl ⟨_, a5, rfl, _, rfl⟩)
          ⟨k _ _ D.TIz D.TIi1 D.TIi2 p0, a3, a4, p3.at fun o e => k _ o D.l1z D.l1i1 D.l1i2 e, p4.at fun o e => k _ o D.l2z D.l2i1 D.l2i2 e, .inr ⟨T, true, oT, a1, k _ _ r1 r2 r3 q', r1, r2, r3, r4⟩⟩
          fun c o hc e => k c o (fun x => hc (by simp [x])) (fun x => hc (by simp [x])) (fun x => hc (by simp [x])) e
    · obtain ⟨p0, p1, p2, p3, p4, p5⟩ := st
      have hend : xs[min xs.size ys.size]? = none ∨ ys[min xs.size ys.size]? = none := by
        rcases Nat.le_total xs.size ys.size with q | q
        · exact .inl (Array.getElem?_eq_none (by rw [Nat.min_eq_left q]; exact Nat.le_refl _))
        · exact .inr (Array.getElem?_eq_none (by rw [Nat.min_eq_right q]; exact Nat.le_refl _))
      rcases p5 with ⟨q, a, b, q'⟩ | ⟨T, f, oT, q, q', r1, r2, r3, r4⟩
      · exact pyNext_zipT_end hA D q p0 q' p1 p2 p3 p4 hend fun h' k => hQ h' s₁.toks fun c o hc e => k c o (fun x => hc (by simp [x])) (fun x => hc (by simp [x])) (fun x => hc (by simp [x])) (fun x => hc (by simp [x])) e
      · exact ws_zip_end hA D q q' p0 p1 p2 p3 p4 hend fun h' k => hQ h' s₁.toks fun c o hc e => k c o (fun x => hc (by simp [x])) (fun x => hc (by simp [x])) (fun x => hc (by simp [x])) e
end
end RZ
namespace WS
open PySem PySem.Spec PyProof.Rows L2
/-- dict(zip(t, u)) of two tuples of one length, the first one's items texts or numbers -/
def tDZ (K : PySem.W.Frag) (ta : TA) : TE := fun σ H Q => ta σ H fun us H1 => ∃ (a b : Addr) (ks : List Key) (vs : List V), us = [.ref a, .ref b] ∧ SqT K H1 a (ks.map kV) ∧ SqT K H1 b vs ∧ ks.length = vs.length ∧
  ∀ p, H1 p = none → Q (.ref p) (upd H1 p (.dK (mergeK [] (ks.zip vs))))
theorem kvs_zip {ks : List Key} {vs : List V} {its its2 : List Value} (r1 : Vals (ks.map kV) its) (r2 : Vals vs its2) : ks.length = vs.length → KV (ks.zip vs) (ks.zip its2) := by
  intro hl
  induction ks generalizing vs its its2 with
  | nil =>
    cases vs with
    | nil => exact .nil
    | cons _ _ => cases hl
  | cons k ks ih =>
    cases vs with
    | nil => cases hl
    | cons v vs =>
      cases r2 with
      | cons q2 t2 =>
        cases r1 with
        | cons q1 t1 => exact .cons ⟨rfl, q2⟩ (ih t1 t2 (by simpa using hl))
theorem pb_dictZip {X : Cx} {e e2 : Expr} {ta : TA} {p p2 pos q : Pos} (hm : X.mg "dict" = none) (hm2 : X.mg "zip" = none) (ha : PA X [e, e2] ta) (hc : X.calm = true := by rfl) (hg : Gl X "dict" := by rfl) (hg2 : Gl X "zip" := by rfl)
    (hs : starEach [e, e2] X.env = (false, eval e X.env) :: starEach [e2] X.env := by rfl) (hpl : (backTo q (starEach [e2] X.env)).any (·.1) = false := by rfl)
    (na : starEach [.Call (.Name "zip" p2) [e, e2] [] q] X.env = (false, eval (.Call (.Name "zip" p2) [e, e2] [] q) X.env) :: starEach [] X.env := by rfl) :
    PE X (.Call (.Name "dict" p) [.Call (.Name "zip" p2) [e, e2] [] q] [] pos) (tDZ X.K ta) := by
  refine ⟨fun pins s σ H Q I h => ?_⟩
  refine Call_ (ld_blt I hg hm PyProof.Rows.boot_dict ?_)
  refine PyProof.Rows.callWith_type1 (PyProof.Rows.args_cons ?_ na) na rfl
  refine Call_ (ld_blt I hg2 hm2 PyProof.Rows.boot_zip (PyProof.Rows.callWith_type1 (thn (ha.run q pins s σ H _ I h) fun us s1 ⟨vs, H1, I1, r1, q1⟩ => ?_) hs hpl))
  obtain ⟨a, b, ks, vs, rfl, ka, kb, hl, q1⟩ := q1
  cases r1 with
  | cons r rr =>
    cases rr with
    | cons r' rr =>
      cases rr
      cases r
      cases r'
      obtain ⟨its, rv, t1, z1⟩ := I1.tuple ka
      obtain ⟨its2, rv2, t2, z2⟩ := I1.tuple kb
      have l1 := rv.length
      have l2 := rv2.length
      rw [List.length_map] at l1 z1
      have lt1 : a < s1.heap.objs.size := t1.lt
      have lt2 : b < s1.heap.objs.size := t2.lt
      refine RZ.call_zipT (show s1.heap.IsTuple a its.toArray from t1) (show s1.heap.IsTuple b its2.toArray from t2) fun h' hz hTI hTO h1 h2 hsz hk => ?_
      refine PyProof.Rows.args_nil ?_
      have I2 : Inv X pins σ H1 { s1 with heap := h' } := I1.kept (t' := s1.toks) hk
      have D := PySem.W.ktu_apart s1.heap.objs.size a b lt1 lt2
      have mn : min its.toArray.size its2.toArray.size = ks.length := by
        rw [List.size_toArray, List.size_toArray, ← l1, ← l2, hl, Nat.min_self]
      refine PySem.call_dict_pairs (knd := mixKind X.prog X.w) (kvs := ks.zip its2) (RZ.ws_zipArg (prog := X.prog) (w := X.w) _ _ _ _ _ a b D its.toArray its2.toArray) (I2.ok.hd hc) ⟨hz, hTI, ⟨_, _, hTO⟩, h1, h2, IsTup.keeps t1 hk, IsTup.keeps t2 hk⟩
        ⟨by rw [mn, List.length_zip, ← l2, ← hl, Nat.min_self], fun i k v hkv => ?_⟩ (by rw [mn]; exact z1) fun h'' tk hd' hk' => ?_
      · obtain ⟨e1, e2⟩ := hkv
        have e1' : its[i]? = some k := by simpa using e1
        have e2' : its2[i]? = some v := by simpa using e2
        have hi : i < ks.length := by rw [l1]; exact (List.getElem?_eq_some_iff.mp e1').1
        obtain ⟨u, hu, ru⟩ := rv.get (i := i) (x := kV ks[i]) (by rw [List.getElem?_map, List.getElem?_eq_getElem hi]; rfl)
        rw [e1'] at hu
        cases hu
        refine ⟨ks[i], ?_, kV_is (P := X.prog) (w := X.w) ru⟩
        rw [List.getElem?_zip_eq_some]
        exact ⟨List.getElem?_eq_getElem hi, e2'⟩
      · have hlen : (mergeK [] (ks.zip vs)).length ≤ sizeLine := by
          refine Nat.le_trans (length_mergeK (ks.zip vs) []) ?_
          rw [List.length_nil, Nat.zero_add, List.length_zip, ← hl, Nat.min_self]
          exact z1
        have hm' : (h'.objs.size == sysModules) = false := beq_eq_false_iff_ne.mpr (Nat.ne_of_gt I2.big)
        refine ⟨.ref h'.objs.size, upd H1 h'.objs.size (.dK (mergeK [] (ks.zip vs))), ?_, rfl, q1 _ (I2.hok.fresh (Nat.le_refl _))⟩
        have fin : ∀ c o, s1.heap.get? c = some o → h''.get? c = some o := fun c o e => hk' c o (fun hm3 => by
          have lt : c < s1.heap.objs.size := Heap.lt_size e
          simp only [List.mem_cons, List.not_mem_nil, or_false] at hm3
          rcases hm3 with z | z | z | z
          all_goals (rw [z] at lt; first | exact Nat.lt_irrefl _ lt | exact absurd (Nat.lt_of_le_of_lt (Nat.le_add_right _ _) lt) (Nat.lt_irrefl _))) (hk c o e)
        have le : s1.heap.objs.size ≤ h'.objs.size := by rw [hsz]; exact Nat.le_add_right _ _
        exact I1.laid (t' := tk) fin le ⟨hlen, hm', merged [] (ks.zip its2), KV.merge (kvs_zip rv rv2 hl) .nil, hd'⟩
/-- d.update(e) -/
def rDUpd : V → List V → Hp → VK → Prop := fun x vs H Q => ∃ (a b : Addr) (kvs more : List (Key × V)), x = .ref a ∧ vs = [.ref b] ∧ H a = some (.dK kvs) ∧ H b = some (.dK more) ∧ a ≠ b ∧ kvs.length + more.length ≤ sizeLine ∧ Q .non (upd H a (.dK (mergeK kvs more)))
theorem mtd_update {X : Cx} : MtR X "dict.update" rDUpd := by
  intro pins s σ H x vs v us Q I rx rv h
  obtain ⟨a, b, kvs, more, rfl, rfl, ea, eb, nab, hz, q⟩ := h
  obtain rfl : v = Value.ref a := rx
  rw [Vals.ref1 rv]
  obtain ⟨z1, s1, ws1, rel1, dd1⟩ := dk_of I.hok ea
  obtain ⟨z2, s2, ws2, rel2, dd2⟩ := dk_of I.hok eb
  have l1 : kvs.length = ws1.length := Paired.length rel1
  have l2 : more.length = ws2.length := Paired.length rel2
  refine call_meetsIn PySem.F.slot_dict_update dd1.typeIs PySem.F.entry_dict_update (PySem.F.args_dict_update_2 _ _) (meets_dict_update (mixKind X.prog X.w) a b nab s2) ⟨ws1, ws2, dd1, dd2, by rw [← l1, ← l2]; exact hz, fun h' d1 d2 hs => ?_⟩
  have he : ∃ q, h'.get? a = some q := let ⟨q, _, _, hq, _⟩ := d1; ⟨q, hq⟩
  have hlen : (mergeK kvs more).length ≤ sizeLine := Nat.le_trans (length_mergeK more kvs) hz
  exact ⟨.non, _, d_write I (by rw [ea]; exact True.intro) hs he (dk_new hlen s1 (KV.merge rel2 rel1) d1), rfl, q⟩
end WS
set_option Elab.async false
set_option linter.all false
set_option maxRecDepth 100000
set_option maxHeartbeats 4000000
/-! y = {k: v for ..}; loops over any iterator of a known number of turns -/
namespace WS
open PySem PySem.Spec PyProof.Rows L2
section
variable {X : Cx}
theorem ps_setDc {i : Nat} {y : Str} {py : Pos} {kx vx tg iter : Expr} {ifs : List Expr} {scope : Scope} {own : List (Str × Nat)} {pos spos : Pos} {wi : TI} {g : TG} {tt : TT} {tk tv : TE} (hc : X.calm = true) (hN : X.N.Nodup) (hy : X.N[i]? = some y)
    (hyl : X.env.scope.names.lookup y = some .local) (hsw : swapsWith (.DictComp kx vx [⟨tg, iter, ifs, 0⟩] scope pos) (some (.Name y py)) spos.line X.env = pure true) (hi : PI X tg iter wi) (ok : BlkOk X.N X.env.scope scope own)
    (hg : ∀ (s : Shared) (H : Hp) (C : Addr) (cl : List (Str × Addr)) (fp : List Addr), PG (X.blk s H scope (compEnvC scope cl C X.env) fp) tg g)
    (ht : ∀ (s : Shared) (H : Hp) (C : Addr) (cl : List (Str × Addr)) (fp : List Addr), PTs (X.blk s H scope (compEnvC scope cl C X.env) fp) ifs tt)
    (hk : ∀ (s : Shared) (H : Hp) (C : Addr) (cl : List (Str × Addr)) (fp : List Addr), PE (X.blk s H scope (compEnvC scope cl C X.env) fp) kx tk)
    (he : ∀ (s : Shared) (H : Hp) (C : Addr) (cl : List (Str × Addr)) (fp : List Addr), PE (X.blk s H scope (compEnvC scope cl C X.env) fp) vx tv) (hs : ∀ x, foldedSetIterable iter X.env x = pure x := by intro _; rfl) :
    PS X (.Assign [.Name y py] (.DictComp kx vx [⟨tg, iter, ifs, 0⟩] scope pos) spos) (tAsg (tDc wi g tt tk tv (own.map (·.2))) (gName i)) := by
  refine ⟨fun pins s σ H D I h => ?_⟩
  rw [exec_Assign_Name_used _ _ _ _ hsw]
  refine wpAny_bind (wpAny_standAt (wpAny_bind ?_))
  show wpAny _ X.A (do let _ ← comprehension (.DictComp kx vx [⟨tg, iter, ifs, 0⟩] scope pos) scope X.env _ newDict false (eval iter X.env) (some (assign (.Name y py) X.env))) _ _ s
  have h0 : tDc wi g tt tk tv (own.map (·.2)) σ H (fun x H1 => gName i x σ H1 D.nx) := h
  refine wpAny_bind (thn (dc_core (Qf := fun _ s' => SP X pins D .next s') hc hN I hi ok hg ht hk he hs h0 fun L C s' m H' I' q hn f => ?_) fun _ s' hq => wpAny_pure (wpAny_pure hq))
  show wpAny _ _ (assign (.Name y py) X.env (.ref L)) _ _ _
  refine wpAny_assign_Name (store_ok2 (v := V.ref L) I' hN hy (.inl hyl) rfl (fun s2 I2 hsb => ?_) (.inr hyl))
  obtain ⟨a, sb, ha⟩ := hsb
  obtain ⟨f0, f1, f2, f3, f4, f5⟩ := f
  have apart : C ≠ a := by
    rcases ha with z | z
    · rw [z]; exact f1
    · exact fun e => f4 y a z e.symm
  exact ⟨m, hn.sameBut sb apart, fun h3 sb3 => ⟨_, H', I2.turned (t' := s2.toks) (fun b o hb e => (sb3.2 b hb).trans e) f0 f1 f3 f4 f5, q⟩⟩
theorem sw_trueD {kx vx : Expr} {gs : List Comprehension} {scope : Scope} {pos py : Pos} {y : Str} {l : Nat} {env : Env} (hk : env.scope.kind = .function) (hy : env.scope.names.lookup y = some .local) (hl : (py.line == pos.line) = true)
    (ha : (scope.names.any fun (n, k) => n == y && (k == .local || k == .cell)) = false) : swapsWith (.DictComp kx vx gs scope pos) (some (.Name y py)) l env = pure true := by
  have k1 : env.kindOf y = some .local := hy
  have k2 : env.blockKind = .function := by unfold Env.blockKind; rw [hk]; rfl
  unfold swapsWith
  simp only [k2, k1, ha, Expr.pos, hl]
  rfl
end
/-! ### one form for all loops: an iterator J that has n turns -/
section
variable {J : It} {n : Nat} {g : TG} {tb : TS} {D : Ends} {σ : L2.St} {H H1 : Hp} {tt : TT} {te tk tv : TE} {vs : List Nat} {Dl : Addr} {Qd : Hp → Prop}
theorem for_gen (Pv : Nat → L2.St → Hp → Prop) (h0 : Pv 0 σ H) (hgo : ∀ i σ H, i < n → Pv i σ H → J.go i H) (hst : ∀ σ H, Pv n σ H → J.stop n H)
    (hs : ∀ i σ H x H', i < n → Pv i σ H → J.yld i H x H' → g x σ H' fun σ2 H2 => tb { D with nx := Pv (i + 1), ct := Pv (i + 1), bk := D.nx } σ2 H2) (hd : ∀ σ H, Pv n σ H → D.nx σ H) :
    ∃ W : Nat → Nat → L2.St → Hp → Prop, (∃ m, W 0 m σ H) ∧ ∀ i m σ H, W i m σ H →
      (J.stop i H ∧ D.nx σ H) ∨ (J.go i H ∧ ∃ N : L2.St → Hp → Prop, (∀ σ' H', N σ' H' → ∃ m', m' < m ∧ W (i + 1) m' σ' H') ∧ ∀ x H', J.yld i H x H' → g x σ H' fun σ2 H2 => tb { D with nx := N, ct := N, bk := D.nx } σ2 H2) := by
  refine ⟨fun i m σ H => m = n - i ∧ i ≤ n ∧ Pv i σ H, ⟨n, by simp, Nat.zero_le _, h0⟩, ?_⟩
  rintro i m σ H ⟨rfl, hi, p⟩
  rcases Nat.lt_or_ge i n with hlt | hge
  · exact .inr ⟨hgo i σ H hlt p, Pv (i + 1), fun σ' H' p' => ⟨n - (i + 1), by omega, rfl, hlt, p'⟩, fun x H' y => hs i σ H x H' hlt p y⟩
  · obtain rfl : i = n := by omega
    exact .inl ⟨hst σ H p, hd σ H p⟩
theorem lc_gen (Pv : Nat → Hp → Prop) (h0 : Pv 0 (upd H1 Dl (.lst []))) (hgo : ∀ i H, i < n → Pv i H → J.go i H) (hst : ∀ H, Pv n H → J.stop n H)
    (hs : ∀ i H x H', i < n → Pv i H → J.yld i H x H' → g x (wipe σ vs) H' fun σ2 H2 => wipe σ2 vs = wipe σ vs ∧ tt σ2 H2 fun b H3 =>
      if b = true then te σ2 H3 fun y H4 => ∃ acc, H4 Dl = some (.lst acc) ∧ acc.length < sizeLine ∧ Pv (i + 1) (upd H4 Dl (.lst (acc ++ [y]))) else Pv (i + 1) H3) (hd : ∀ H, Pv n H → Qd H) :
    ∃ W : Nat → Nat → Hp → Prop, (∃ m, W 0 m (upd H1 Dl (.lst []))) ∧ ∀ i m H, W i m H →
      (J.stop i H ∧ Qd H) ∨ (J.go i H ∧ ∃ Nx : Hp → Prop, (∀ H', Nx H' → ∃ m', m' < m ∧ W (i + 1) m' H') ∧ ∀ x H', J.yld i H x H' → g x (wipe σ vs) H' fun σ2 H2 => wipe σ2 vs = wipe σ vs ∧ tt σ2 H2 fun b H3 =>
        if b = true then te σ2 H3 fun y H4 => ∃ acc, H4 Dl = some (.lst acc) ∧ acc.length < sizeLine ∧ Nx (upd H4 Dl (.lst (acc ++ [y]))) else Nx H3) := by
  refine ⟨fun i m H => m = n - i ∧ i ≤ n ∧ Pv i H, ⟨n, by simp, Nat.zero_le _, h0⟩, ?_⟩
  rintro i m H ⟨rfl, hi, p⟩
  rcases Nat.lt_or_ge i n with hlt | hge
  · exact .inr ⟨hgo i H hlt p, Pv (i + 1), fun H' p' => ⟨n - (i + 1), by omega, rfl, hlt, p'⟩, fun x H' y => hs i H x H' hlt p y⟩
  · obtain rfl : i = n := by omega
    exact .inl ⟨hst H p, hd H p⟩
theorem dc_gen (Pv : Nat → Hp → Prop) (h0 : Pv 0 (upd H1 Dl (.dK []))) (hgo : ∀ i H, i < n → Pv i H → J.go i H) (hst : ∀ H, Pv n H → J.stop n H)
    (hs : ∀ i H x H', i < n → Pv i H → J.yld i H x H' → g x (wipe σ vs) H' fun σ2 H2 => wipe σ2 vs = wipe σ vs ∧ tt σ2 H2 fun b H3 =>
      if b = true then tk σ2 H3 fun y H4 => tv σ2 H4 fun z H5 => ∃ kvs k, y = kV k ∧ H5 Dl = some (.dK kvs) ∧ kvs.length < sizeLine ∧ Pv (i + 1) (upd H5 Dl (.dK (putK kvs k z))) else Pv (i + 1) H3) (hd : ∀ H, Pv n H → Qd H) :
    ∃ W : Nat → Nat → Hp → Prop, (∃ m, W 0 m (upd H1 Dl (.dK []))) ∧ ∀ i m H, W i m H →
      (J.stop i H ∧ Qd H) ∨ (J.go i H ∧ ∃ Nx : Hp → Prop, (∀ H', Nx H' → ∃ m', m' < m ∧ W (i + 1) m' H') ∧ ∀ x H', J.yld i H x H' → g x (wipe σ vs) H' fun σ2 H2 => wipe σ2 vs = wipe σ vs ∧ tt σ2 H2 fun b H3 =>
        if b = true then tk σ2 H3 fun y H4 => tv σ2 H4 fun z H5 => ∃ kvs k, y = kV k ∧ H5 Dl = some (.dK kvs) ∧ kvs.length < sizeLine ∧ Nx (upd H5 Dl (.dK (putK kvs k z))) else Nx H3) := by
  refine ⟨fun i m H => m = n - i ∧ i ≤ n ∧ Pv i H, ⟨n, by simp, Nat.zero_le _, h0⟩, ?_⟩
  rintro i m H ⟨rfl, hi, p⟩
  rcases Nat.lt_or_ge i n with hlt | hge
  · exact .inr ⟨hgo i H hlt p, Pv (i + 1), fun H' p' => ⟨n - (i + 1), by omega, rfl, hlt, p'⟩, fun x H' y => hs i H x H' hlt p y⟩
  · obtain rfl : i = n := by omega
    exact .inl ⟨hst H p, hd H p⟩
end
end WS
set_option Elab.async false
set_option linter.all false
set_option maxRecDepth 100000
set_option maxHeartbeats 4000000
/-! the rules with the written part told from outside: within a comprehension's block nothing of the block stands in a reading -/
namespace WS
open PySem PySem.Spec PyProof.Rows L2
section
variable {X : Cx} {K : PySem.W.Frag} {e o tg l a b : Expr} {es : List Expr} {t : TA} {te to ta tb tl tv : TE} {x f c m name id : Str} {p pos pos' apos cpos : Pos} {k n : Nat} {ps : List Str} {sp : Sp}
theorem op_inK (K : PySem.W.Frag) (h : X.K = K := by rfl) : OpR X (compareOp .In) (rIn K false) := h ▸ op_in_seq
theorem op_notInK (K : PySem.W.Frag) (h : X.K = K := by rfl) : OpR X (compareOp .NotIn) (rIn K true) := h ▸ op_notIn_seq
theorem op_eqDK (K : PySem.W.Frag) (hu : X.A.units + 64 < cLine) (h : X.K = K := by rfl) : OpR X (compareOp .Eq) (rEqD K) := h ▸ op_eqD hu
theorem op_neDK (K : PySem.W.Frag) (hu : X.A.units + 64 < cLine) (h : X.K = K := by rfl) : OpR X (compareOp .NotEq) (rNeD K) := h ▸ op_neD hu
theorem op_catTK (K : PySem.W.Frag) (h : X.K = K := by rfl) : OpR X (binaryOp .Add) (rCatT K) := h ▸ op_catT
theorem op_repTK (K : PySem.W.Frag) (h : X.K = K := by rfl) : OpR X (binaryOp .Mult) (rRepT K) := h ▸ op_repT
theorem ix_listK (K : PySem.W.Frag) (h : X.K = K := by rfl) : IxR X (rIxL K) := h ▸ ix_list
theorem ix_tupK (K : PySem.W.Frag) (h : X.K = K := by rfl) : IxR X (rIxT K) := h ▸ ix_tup
theorem sl_listK (K : PySem.W.Frag) (h : X.K = K := by rfl) : SlR X (rSlL K) := h ▸ sl_list
theorem sl_tupK (K : PySem.W.Frag) (h : X.K = K := by rfl) : SlR X (rSlA K) := h ▸ sl_tupA
theorem pi_listK (K : PySem.W.Frag) (hl : PE X l tl) (h : X.K = K := by rfl) : PI X tg l (iList K tl) := h ▸ pi_list hl
theorem pi_tupK (K : PySem.W.Frag) (hl : PE X l tl) (h : X.K = K := by rfl) : PI X tg l (iTup K tl) := h ▸ pi_tup hl
theorem pg_tupK {es : List Expr} {k : Nat} {t : TGs} (K : PySem.W.Frag) (n : Nat) (hc : X.calm = true) (hg : PGs X es t) (hn : (assignEach es X.env).length = n := by rfl) (hs : (assignEach es X.env).findIdx? (·.1) = none := by rfl)
    (h : X.K = K := by rfl) : PG X (.Tuple es k pos) (gTup K n t) := h ▸ pg_tup hc hg hn hs
theorem pe_fldK (K : PySem.W.Frag) (he : PE X e te) (hb : attributeBase e f X.env (eval e X.env) = eval e X.env := by rfl) (h : X.K = K := by rfl) : PE X (.Attribute e f pos) (tFld K te f) := h ▸ pe_fld he hb
theorem pe_mkK {pl : Sem Bool} {P : Program} {w : World} {mg : Str → Option Value} {base : Heap} (G : MK P w K mg base c m ps k sp) (hr : Room n X.A) (hk : k ≤ n) (he : PE X o ta) (ha : PA X (e :: es) t)
    (h1 : X.prog = P := by rfl) (h2 : X.w = w := by rfl) (h3 : X.K = K := by rfl) (h4 : X.mg = mg := by rfl) (h5 : X.base = base := by rfl)
    (hst : starEach (e :: es) X.env = (false, eval e X.env) :: starEach es X.env := by rfl) (hpl : (backTo pos (starEach es X.env)).any (·.1) = false := by rfl)
    (ht : eval (.Call (.Attribute o m apos) (e :: es) [] pos) X.env = (do
      let v0 ← eval o X.env; standAt apos.atName
      let (g0, as0) ← holding [v0] (getMethod v0 m pl); callWith pos g0 as0 (backTo pos (starEach (e :: es) X.env)) (backToKw pos (keywordEach [] X.env))) := by rfl) :
    PE X (.Call (.Attribute o m apos) (e :: es) [] pos) (tMeth (He.ga K c) m sp [] E0 ta t) := by
  subst h1 h2 h3 h4 h5
  exact pe_mk G hr hk he ha hst hpl ht
theorem pe_mk0K {pl : Sem Bool} {P : Program} {w : World} {mg : Str → Option Value} {base : Heap} (G : MK P w K mg base c m ps k sp) (hr : Room n X.A) (hk : k ≤ n) (he : PE X o ta)
    (h1 : X.prog = P := by rfl) (h2 : X.w = w := by rfl) (h3 : X.K = K := by rfl) (h4 : X.mg = mg := by rfl) (h5 : X.base = base := by rfl)
    (ht : eval (.Call (.Attribute o m apos) [] [] pos) X.env = (do
      let v0 ← eval o X.env; standAt apos.atName
      let (g0, as0) ← holding [v0] (getMethod v0 m pl); callWith pos g0 as0 (backTo pos (starEach [] X.env)) (backToKw pos (keywordEach [] X.env))) := by rfl) :
    PE X (.Call (.Attribute o m apos) [] [] pos) (tMeth (He.ga K c) m sp [] E0 ta tNil) := by
  subst h1 h2 h3 h4 h5
  exact pe_mk0 G hr hk he ht
theorem pe_gkK {P : Program} {w : World} {mg : Str → Option Value} {base : Heap} {dvs : List V} (G : GK P w K mg base x ps k sp dvs) (hr : Room n X.A) (hk : k ≤ n) (ha : PA X (e :: es) t) (hg : Gl X x := by rfl)
    (h1 : X.prog = P := by rfl) (h2 : X.w = w := by rfl) (h3 : X.K = K := by rfl) (h4 : X.mg = mg := by rfl) (h5 : X.base = base := by rfl)
    (he : starEach (e :: es) X.env = (false, eval e X.env) :: starEach es X.env := by rfl) (hpl : (backTo pos (starEach es X.env)).any (·.1) = false := by rfl) : PE X (.Call (.Name x p) (e :: es) [] pos) (tCall sp dvs E0 t) := by
  subst h1 h2 h3 h4 h5
  exact pe_gk G hr hk ha hg he hpl
theorem pb_lenK (K : PySem.W.Frag) (hm : X.mg "len" = none) (ha : PA X (e :: es) t) (h : X.K = K := by rfl) (e1 : starEach (e :: es) X.env = (false, eval e X.env) :: starEach es X.env := by rfl) (e2 : (backTo pos (starEach es X.env)).any (·.1) = false := by rfl)
    (hg : Gl X "len" := by rfl) : PE X (.Call (.Name "len" p) (e :: es) [] pos) (tCB (rLenQ K) t) := h ▸ pb_len hm ha e1 e2 hg
theorem pb_tupleK (K : PySem.W.Frag) (hm : X.mg "tuple" = none) (ha : PA X (e :: es) t) (h : X.K = K := by rfl) (e1 : starEach (e :: es) X.env = (false, eval e X.env) :: starEach es X.env := by rfl) (e2 : (backTo pos (starEach es X.env)).any (·.1) = false := by rfl)
    (hg : Gl X "tuple" := by rfl) : PE X (.Call (.Name "tuple" p) (e :: es) [] pos) (tCB (rTupQ K) t) := h ▸ pb_tuple hm ha e1 e2 hg
theorem pb_isiK (K : PySem.W.Frag) (hm : X.mg "isinstance" = none) (ha : PA X (e :: es) t) (h : X.K = K := by rfl) (e1 : starEach (e :: es) X.env = (false, eval e X.env) :: starEach es X.env := by rfl) (e2 : (backTo pos (starEach es X.env)).any (·.1) = false := by rfl)
    (hg : Gl X "isinstance" := by rfl) : PE X (.Call (.Name "isinstance" p) (e :: es) [] pos) (tCB (rIsi K) t) := h ▸ pb_isi hm ha e1 e2 hg
end
end WS
set_option Elab.async false
set_option linter.all false
set_option maxRecDepth 100000
set_option maxHeartbeats 4000000
namespace WS
open PySem PySem.Spec PyProof.Rows L2
/-! ### a def keeps its promise: one opening for all -/
section
variable {P : Program} {w : World} {K : PySem.W.Frag} {mg : Str → Option Value} {base : Heap} {x c m q : Str} {params : Arguments} {body : List Stmt} {scope : Scope} {N ps : List Str} {k : Nat} {sp : Sp} {dvs : List V}
abbrev BodyOk (P : Program) (w : World) (K : PySem.W.Frag) (mg : Str → Option Value) (base : Heap) (N : List Str) (q : Str) (body : List Stmt) (scope : Scope) (f : Addr) (k : Nat) (sp : Sp) : Prop :=
  ∀ (cdv : Value) (A : Around) (outer : List Env) (s : Shared) (H : Hp) (vs : List V) (Q : VK) (E : XK), Room k (A.deeper (envOfC q scope s.heap.objs.size f cdv)) → sp vs H Q E →
    ∃ t, PSs (cxOf CX0 P w K mg base N q scope f cdv A outer s H E).nox body t ∧ t { nx := fun _ H' => Q .non H', rt := Q } (start N vs) H
theorem gk_mk (F : ∃ fd, FunD K x x params body scope [] [] (He.ga K x) fd) (gl : mg x = some (.ref (He.ga K x))) (db : (x == ("__debug__" : Str)) = false) (S : FnScope N ps scope)
    (hb : ∀ (kV doc pm : Value) (an : Option Addr) (cdv ct : Value) (us : List Value), us.length = ps.length → bindArgs (PySem.W.fnOf x x params body scope .none kV doc pm an cdv ct) ⟨us, []⟩ = pure (ps.zip us))
    (len : ∀ vs H Q E, sp vs H Q E → vs.length = ps.length) (hbody : BodyOk P w K mg base N x body scope (He.ga K x) k sp) : GK P w K mg base x ps (k + 1) sp [] := by
  obtain ⟨fd, F⟩ := F
  refine ⟨⟨fd, [], F.ok S len fun cdv A outer s H vs Q E hr h => ?_, .nil, FunD.bindsN F hb⟩, F.kp, gl, db⟩
  obtain ⟨t, ht, hq⟩ := hbody cdv A outer s H vs Q E hr h
  exact ⟨t, PSs.nox ht, hq⟩
theorem mk_mk (F : ∃ fd, FunD K m q params body scope [] [] (He.ma K (He.ga K c) m) fd) (me : Meth K (He.ga K c) m (He.ma K (He.ga K c) m)) (cl : Cls K (He.ga K c)) (S : FnScope N ps scope)
    (hb : ∀ (kV doc pm : Value) (an : Option Addr) (cdv ct : Value) (us : List Value), us.length = ps.length → bindArgs (PySem.W.fnOf m q params body scope .none kV doc pm an cdv ct) ⟨us, []⟩ = pure (ps.zip us))
    (len : ∀ vs H Q E, sp vs H Q E → vs.length = ps.length) (hbody : BodyOk P w K mg base N q body scope (He.ma K (He.ga K c) m) k sp) : MK P w K mg base c m ps (k + 1) sp := by
  obtain ⟨fd, F⟩ := F
  refine ⟨⟨fd, F.ok S len fun cdv A outer s H vs Q E hr h => ?_, FunD.bindsN F hb⟩, me, cl⟩
  obtain ⟨t, ht, hq⟩ := hbody cdv A outer s H vs Q E hr h
  exact ⟨t, PSs.nox ht, hq⟩
theorem ik_mk (F : ∃ fd, FunD K "__init__" q params body scope [] [] (He.ma K (He.ga K c) "__init__") fd) (mk : Mk K (He.ga K c) (He.ma K (He.ga K c) "__init__")) (gl : mg c = some (.ref (He.ga K c))) (db : (c == ("__debug__" : Str)) = false) (S : FnScope N ps scope)
    (hb : ∀ (kV doc pm : Value) (an : Option Addr) (cdv ct : Value) (us : List Value), us.length = ps.length → bindArgs (PySem.W.fnOf "__init__" q params body scope .none kV doc pm an cdv ct) ⟨us, []⟩ = pure (ps.zip us))
    (len : ∀ vs H Q E, sp vs H Q E → vs.length = ps.length) (hbody : BodyOk P w K mg base N q body scope (He.ma K (He.ga K c) "__init__") k sp) : IK P w K mg base c ps (k + 1) sp := by
  obtain ⟨fd, F⟩ := F
  refine ⟨⟨fd, F.ok S len fun cdv A outer s H vs Q E hr h => ?_, FunD.bindsN F hb⟩, mk, gl, db⟩
  obtain ⟨t, ht, hq⟩ := hbody cdv A outer s H vs Q E hr h
  exact ⟨t, PSs.nox ht, hq⟩
/-- a def with one default: n places are given, the default is used (j = 0) or not (j = 1) -/
theorem gk_mk1 {d : V} (n j : Nat) (hj : j ≤ 1) (F : ∃ fd, FunD K x x params body scope [d] [] (He.ga K x) fd) (gl : mg x = some (.ref (He.ga K x))) (db : (x == ("__debug__" : Str)) = false) (S : FnScope N ps scope) (hn : n + (1 - j) = ps.length)
    (hb : ∀ (T : Addr) (kV doc pm : Value) (an : Option Addr) (cdv ct : Value) (us its : List Value), us.length = n → its.length = 1 →
      ∃ k, bindArgs (PySem.W.fnOf x x params body scope (.ref T) kV doc pm an cdv ct) ⟨us, []⟩ = seqItems? (.ref T) >>= k ∧ k (some its.toArray) = pure (ps.zip (us ++ its.drop j)))
    (len : ∀ vs H Q E, sp vs H Q E → vs.length = ps.length) (hbody : BodyOk P w K mg base N x body scope (He.ga K x) k sp) : GK P w K mg base x ps (k + 1) sp ([d].drop j) := by
  obtain ⟨fd, F⟩ := F
  obtain ⟨ds, hv, hbd⟩ := F.binds1 n j (List.cons_ne_nil _ _) (by simpa using hn) hb
  refine ⟨⟨fd, ds, F.ok S len fun cdv A outer s H vs Q E hr h => ?_, hv, hbd⟩, F.kp, gl, db⟩
  obtain ⟨t, ht, hq⟩ := hbody cdv A outer s H vs Q E hr h
  exact ⟨t, PSs.nox ht, hq⟩
end
end WS
set_option Elab.async false
set_option linter.all false
set_option maxRecDepth 100000
set_option maxHeartbeats 4000000
/-! the plain data of the array, and how it stands in the heap -/
namespace WS
open PySem PySem.Spec PyProof.Rows L2
/-! ### layouts, superblocks -/
inductive Rule where
  | ls | la | rs | ra
def Rule.s : Rule → Str
  | .ls => "left-symmetric" | .la => "left-asymmetric" | .rs => "right-symmetric" | .ra => "right-asymmetric"
def Rule.left : Rule → Bool
  | .ls | .la => true
  | _ => false
def Rule.sym : Rule → Bool
  | .ls | .rs => true
  | _ => false
structure Lay where
  n : Int
  r : Rule
def Lay.d (l : Lay) : PyData := .tuple [.int l.n, .str l.r.s]
def Lay.ok (l : Lay) : Prop := 3 ≤ l.n ∧ l.n ≤ 6
def par (l : Lay) (row : Int) : Int := if l.r.left then l.n - 1 - row % l.n else row % l.n
def dat (l : Lay) (row place : Int) : Int := if l.r.sym then (par l row + 1 + place) % l.n else if place < par l row then place else place + 1
def rowOf (l : Lay) (b : Int) : Int := b / (l.n - 1)
def dskOf (l : Lay) (b : Int) : Int := dat l (b / (l.n - 1)) (b - b / (l.n - 1) * (l.n - 1))
structure SB where
  num : Int
  blocks : Int
  lay : Lay
  mv : Option (Lay × Bool)
  front : Int
  aside : Option Int
def optI : Option Int → PyData
  | none => .none
  | some i => .int i
def optV : Option Int → V
  | none => .non
  | some i => .int i
def SB.tgt (s : SB) : PyData := match s.mv with
  | none => .none
  | some (t, _) => t.d
def wayS (up : Bool) : Str := if up then "up" else "down"
def SB.way (s : SB) : PyData := match s.mv with
  | none => .none
  | some (_, up) => .str (wayS up)
def SB.wayV (s : SB) : V := match s.mv with
  | none => .non
  | some (_, up) => .str (wayS up)
def SB.l (s : SB) : List PyData := [.int s.num, .int s.blocks, s.lay.d, s.tgt, s.way, .int s.front, optI s.aside, .none, .int 0]
def SB.d (s : SB) : PyData := .tuple s.l
structure SB.ok (s : SB) : Prop where
  lay : s.lay.ok
  tgt : ∀ t up, s.mv = some (t, up) → t.ok
  b0 : 3 ≤ s.blocks
  b1 : s.blocks ≤ 30
  f0 : 0 ≤ s.front
  f1 : s.front ≤ s.blocks
def layAt (s : SB) (b : Int) : Lay := match s.mv with
  | none => s.lay
  | some (t, up) => if (decide (b < s.front) == up) = true then t else s.lay
/-! ### disks and what is done to them -/
structure DiskS where
  m0 : PyData
  m1 : PyData
  m2 : PyData
  cells : List Int
def DiskS.d (d : DiskS) : PyData := .tuple [d.m0, d.m1, d.m2, .tuple (d.cells.map PyData.int)]
def imgL (ds : List DiskS) : List PyData := ds.map DiskS.d ++ [.none, .none]
def imgD (ds : List DiskS) : PyData := .tuple (imgL ds)
inductive Mt where
  | sb | lg | as
def Mt.s : Mt → Str
  | .sb => "superblock"
  | .lg => "log"
  | .as => "aside"
inductive En where
  | data (k r : Nat) (x : Int)
  | meta_ (k : Nat) (m : Mt) (c : PyData)
  | flush
  | bg (b v : Int)
  | dn (b : Int)
def En.d : En → PyData
  | .data k r x => .tuple [.str "cell", .int k, .int r, .int x]
  | .meta_ k m c => .tuple [.str "cell", .int k, .str m.s, c]
  | .flush => .tuple [.str "flush"]
  | .bg b v => .tuple [.str "begin", .int b, .int v]
  | .dn b => .tuple [.str "done", .int b]
def DiskS.putM (d : DiskS) (m : Mt) (c : PyData) : DiskS := match m with
  | .sb => { d with m0 := c }
  | .lg => { d with m1 := c }
  | .as => { d with m2 := c }
def DiskS.putC (d : DiskS) (r : Nat) (x : Int) : DiskS := { d with cells := d.cells.set r x }
def DiskS.m (d : DiskS) : Mt → PyData
  | .sb => d.m0
  | .lg => d.m1
  | .as => d.m2
def ap1 (ds : List DiskS) : En → List DiskS
  | .data k r x => ds.modify k fun d => d.putC r x
  | .meta_ k m c => ds.modify k fun d => d.putM m c
  | _ => ds
def ap (ds : List DiskS) (es : List En) : List DiskS := es.foldl ap1 ds
/-- data of at most n levels, no tuple of it long -/
def fits : Nat → PyData → Prop
  | 0, _ => False
  | n + 1, .tuple ds => ds.length ≤ 10000 ∧ ∀ d ∈ ds, fits n d
  | _ + 1, .list _ => False
  | _ + 1, .dict _ => False
  | _ + 1, _ => True
theorem fits.up : ∀ {n : Nat} {d : PyData}, fits n d → fits (n + 1) d
  | 0, _, h => h.elim
  | n + 1, .tuple ds, h => ⟨h.1, fun d hd => fits.up (h.2 d hd)⟩
  | _ + 1, .none, _ => trivial
  | _ + 1, .bool _, _ => trivial
  | _ + 1, .int _, _ => trivial
  | _ + 1, .str _, _ => trivial
theorem fits.le {n m : Nat} {d : PyData} (h : fits n d) (e : n ≤ m) : fits m d := by
  induction m with
  | zero => have : n = 0 := by omega
            subst this; exact h
  | succ m ih =>
    by_cases q : n = m + 1
    · subst q; exact h
    · exact (ih (by omega)).up
/-- an entry is one that may be done to six disks of R rows -/
def En.ok (R : Nat) : En → Prop
  | .data k r _ => k < 6 ∧ r < R
  | .meta_ k _ c => k < 6 ∧ fits 3 c
  | _ => True
structure DiskS.ok (R : Nat) (d : DiskS) : Prop where
  n : d.cells.length = R
  d0 : fits 3 d.m0
  d1 : fits 3 d.m1
  d2 : fits 3 d.m2
/-- the cells, with all that was done to them -/
structure CeS where
  begun : List DiskS
  disks : List DiskS
  done : List En
  loose : Bool
structure CeS.ok (c : CeS) (R : Nat) : Prop where
  nb : c.begun.length = 6
  nd : c.disks.length = 6
  ob : ∀ d ∈ c.begun, d.ok R
  od : ∀ d ∈ c.disks, d.ok R
  oe : ∀ e ∈ c.done, e.ok R
  run : c.disks = ap c.begun c.done
  r0 : 2 ≤ R
  r1 : R ≤ 20
def CeS.note (c : CeS) (e : En) : CeS := { c with disks := ap1 c.disks e, done := c.done ++ [e] }
def CeS.put (c : CeS) (e : En) : CeS := { c with disks := ap1 c.disks e, done := c.done ++ [e], loose := true }
def CeS.puts (c : CeS) (es : List En) : CeS := es.foldl CeS.put c
def CeS.flush (c : CeS) : CeS := { c with done := if c.loose = true then c.done ++ [.flush] else c.done, loose := false }
structure ArrS where
  sb : SB
  ce : CeS
def cellAt (ds : List DiskS) (k r : Nat) : Int := match ds[k]? with
  | some d => d.cells.getD r 0
  | none => 0
def valAt (s : SB) (ds : List DiskS) (b : Int) : Int := cellAt ds (dskOf (layAt s b) b).toNat (rowOf (layAt s b) b).toNat
/-! ### how they stand in the heap -/
def cellKv : Nat → List Int → List (Key × V)
  | _, [] => []
  | i, c :: cs => (.inl (i : Int), .int c) :: cellKv (i + 1) cs
def diskKv (x0 x1 x2 : V) (cs : List Int) : List (Key × V) := (.inr "superblock", x0) :: (.inr "log", x1) :: (.inr "aside", x2) :: cellKv 0 cs
structure DAt (K : PySem.W.Frag) (H : Hp) (a : Addr) (d : DiskS) : Prop where
  ex : ∃ x0 x1 x2, H a = some (.dK (diskKv x0 x1 x2 d.cells)) ∧ Rp K H x0 d.m0 ∧ Rp K H x1 d.m1 ∧ Rp K H x2 d.m2
/-- the list of the disks: six that are there, two that are not -/
structure DsAt (K : PySem.W.Frag) (H : Hp) (dl : Addr) (as : List Addr) (ds : List DiskS) : Prop where
  dl : H dl = some (.lst (as.map V.ref ++ [.non, .non]))
  n6 : as.length = 6
  m6 : ds.length = 6
  nd : as.Nodup
  ds : ∀ (i : Nat) (a : Addr) (d : DiskS), as[i]? = some a → ds[i]? = some d → DAt K H a d
/-- where an array lies -/
structure Ad where
  arr : Addr
  dxa : Addr
  st : Addr
  dxs : Addr
  cs : Addr
  dxc : Addr
  dl : Addr
  dn : Addr
  ds : List Addr
  bv : V
/-- what of it may change -/
def Ad.F (A : Ad) : List Addr := A.st :: A.cs :: A.dn :: A.ds
def Ad.G (A : Ad) : List Addr := A.cs :: A.dn :: A.ds
structure CellsAt (K : PySem.W.Frag) (H : Hp) (A : Ad) (c : CeS) : Prop where
  cs : H A.cs = some (.ins (He.ga K "Cells") A.dxc [("begun", A.bv), ("disks", .ref A.dl), ("done", .ref A.dn), ("is_loose", .bl c.loose)])
  ds : DsAt K H A.dl A.ds c.disks
  dn : ∃ es, H A.dn = some (.lst es) ∧ RpL K H es (c.done.map En.d)
  bv : Rp K H A.bv (imgD c.begun)
  ne : A.dl ≠ A.dn
structure StateAt (K : PySem.W.Frag) (H : Hp) (A : Ad) (S : ArrS) : Prop where
  st : ∃ v, H A.st = some (.ins (He.ga K "State") A.dxs [("cells", .ref A.cs), ("own_superblock", v)]) ∧ Rp K H v S.sb.d
  ce : CellsAt K H A S.ce
  ne : A.st ≠ A.cs
structure ArrAt (K : PySem.W.Frag) (H : Hp) (A : Ad) (S : ArrS) : Prop where
  arr : H A.arr = some (.ins (He.ga K "Array") A.dxa [("state", .ref A.st)])
  sa : StateAt K H A S
  n1 : A.arr ≠ A.st
  n2 : A.arr ≠ A.cs
/-! ### all but F stays -/
structure Mv (K : PySem.W.Frag) (F : List Addr) (H H' : Hp) : Prop where
  c : Chg F H H'
  t : TK K H H'
  x : ∀ b f, H b = some (.ext f) → H' b = some (.ext f)
section
variable {K : PySem.W.Frag} {F G : List Addr} {H H1 H2 H' : Hp} {a p : Addr} {o u : HO} {v : V} {d : PyData} {xs : List V}
theorem Mv.refl : Mv K F H H := ⟨.refl, .refl, fun _ _ h => h⟩
theorem Mv.trans (a : Mv K F H H1) (b : Mv K F H1 H2) : Mv K F H H2 := ⟨a.c.trans b.c, a.t.trans b.t, fun c f h => b.x c f (a.x c f h)⟩
theorem Mv.of_same (e : Same H H') : Mv K F H H' := ⟨.of_same e, tk_same e, fun b _ h => e b _ h⟩
theorem Mv.sub (c : Mv K F H H') (h : ∀ a ∈ F, a ∈ G) : Mv K G H H' := ⟨c.c.sub h, c.t, c.x⟩
theorem Mv.upd (h : H a = some u) (n : ∀ xs, u ≠ .tup xs) (n2 : ∀ x y, u ≠ .frz x y) (n3 : ∀ f, u ≠ .ext f) (m : a ∈ F) : Mv K F H (upd H a o) := ⟨.upd m, tk_upd h n n2, fun b f q => by
  rw [upd_ne (fun e => n3 f (by rw [e, h] at q; exact Option.some.inj q))]
  exact q⟩
theorem Mv.lst {xs : List V} (h : H a = some (.lst xs)) (m : a ∈ F) : Mv K F H (L2.upd H a o) := .upd h (fun _ z => by cases z) (fun _ _ z => by cases z) (fun _ z => by cases z) m
theorem Mv.dK {kvs : List (Key × V)} (h : H a = some (.dK kvs)) (m : a ∈ F) : Mv K F H (L2.upd H a o) := .upd h (fun _ z => by cases z) (fun _ _ z => by cases z) (fun _ z => by cases z) m
theorem Mv.ins {C dx : Addr} {fs : List (Str × V)} (h : H a = some (.ins C dx fs)) (m : a ∈ F) : Mv K F H (L2.upd H a o) := .upd h (fun _ z => by cases z) (fun _ _ z => by cases z) (fun _ z => by cases z) m
theorem Mv.at (m : Mv K F H H') (h : H a = some u) (n : a ∉ F) : H' a = some u := m.c _ _ h n
theorem at_new (hp : H p = none) (h : H a = some u) : upd H p o a = some u := same_new hp _ _ h
theorem at_ne (n : a ≠ p) (h : H a = some u) : upd H p o a = some u := by rw [upd_ne n]; exact h
theorem Rp.mv (h : Rp K H v d) (m : Mv K F H H') : Rp K H' v d := h.tk m.t
theorem SqT.tk (h : SqT K H a xs) (t : TK K H H') : SqT K H' a xs := t _ _ h
theorem SqL.sm (h : SqL K H a xs) (e : Same H H') : SqL K H' a xs := by
  rcases h with (h | ⟨o, h⟩) | h
  · exact .inl (.inl (e _ _ h))
  · exact .inl (.inr ⟨o, e _ _ h⟩)
  · exact .inr h
theorem SqL.of (h : H a = some (.lst xs)) : SqL K H a xs := .inl (.inl h)
theorem SqT.of (h : H a = some (.tup xs)) : SqT K H a xs := .inl (.inl h)
theorem SqT.new (h : H p = none) : SqT K (L2.upd H p (.tup xs)) p xs := .of upd_same
/-! ### what the short tactics lean on -/
theorem same_up (h : H1 p = none) (e : Same H H1) : Same H (upd H1 p o) := e.trans (same_new h)
theorem same_by (e2 : Same H1 H2) (e : Same H H1) : Same H H2 := e.trans e2
theorem tk_up (h : H1 p = none) (e : TK K H H1) : TK K H (upd H1 p o) := e.trans (tk_same (same_new h))
theorem tk_by (e2 : Same H1 H2) (e : TK K H H1) : TK K H H2 := e.trans (tk_same e2)
theorem tk_mv (e2 : Mv K F H1 H2) (e : TK K H H1) : TK K H H2 := e.trans e2.t
theorem mv_up (h : H1 p = none) (e : Mv K F H H1) : Mv K F H (upd H1 p o) := e.trans (.of_same (same_new h))
theorem mv_by (e2 : Same H1 H2) (e : Mv K F H H1) : Mv K F H H2 := e.trans (.of_same e2)
theorem mv_mv (e2 : Mv K F H1 H2) (e : Mv K F H H1) : Mv K F H H2 := e.trans e2
theorem at_same (e : Same H H') (h : H a = some u) : H' a = some u := e _ _ h
theorem at_mv (e : Mv K F H H') (n : a ∉ F) (h : H a = some u) : H' a = some u := e.at h n
theorem no_by (h : H' p = none) (e : Same H H') : H p = none := e.free h
theorem rp_tk (h : Rp K H v d) (t : TK K H H') : Rp K H' v d := h.tk t
theorem sqt_tk (h : SqT K H a xs) (t : TK K H H') : SqT K H' a xs := SqT.tk h t
theorem sql_sm (h : SqL K H a xs) (t : Same H H') : SqL K H' a xs := SqL.sm h t
theorem same_own (h : H p = none) (e : Same H H1) : Same H (upd H1 p o) := fun b u q => by
  rw [upd_ne (fun z => by rw [z, h] at q; cases q)]
  exact e _ _ q
theorem ty_d {kvs : List (Key × V)} {R : Prop} (h : H p = some (.dK kvs)) (q : R) : tyV K "dict" (.ref p) H ∧ R := ⟨.inr (.inr (.inl ⟨rfl, .inl ⟨_, h⟩⟩)), q⟩
theorem ty_l {R : Prop} (h : SqL K H p xs) (q : R) : tyV K "list" (.ref p) H ∧ R := ⟨.inl ⟨rfl, _, h⟩, q⟩
theorem ty_t {R : Prop} (h : ∃ o, K.lookup p = some o ∧ o.cls = .type "tuple" ∧ o.dict = none) (q : R) : tyV K "tuple" (.ref p) H ∧ R := ⟨.inr (.inl ⟨rfl, h⟩), q⟩
/-! ### the array's parts, later -/
theorem DAt.to {d : DiskS} (h : DAt K H a d) (e : ∀ kvs, H a = some (.dK kvs) → H' a = some (.dK kvs)) (t : TK K H H') : DAt K H' a d := by
  obtain ⟨x0, x1, x2, h0, h1, h2, h3⟩ := h.ex
  exact ⟨x0, x1, x2, e _ h0, h1.tk t, h2.tk t, h3.tk t⟩
theorem DsAt.to {dl : Addr} {as : List Addr} {ds : List DiskS} (h : DsAt K H dl as ds) (e : Mv K F H H') (n : dl ∉ F) (m : ∀ a ∈ as, a ∉ F) : DsAt K H' dl as ds :=
  ⟨e.at h.dl n, h.n6, h.m6, h.nd, fun i a d ha hd => (h.ds i a d ha hd).to (fun _ q => e.at q (m a (List.mem_of_getElem? ha))) e.t⟩
theorem DsAt.same {dl : Addr} {as : List Addr} {ds : List DiskS} (h : DsAt K H dl as ds) (e : Same H H') : DsAt K H' dl as ds := h.to (F := []) (.of_same e) (by simp) (by simp)
theorem CellsAt.to {A : Ad} {c : CeS} (h : CellsAt K H A c) (e : Mv K F H H') (n : A.dl ∉ F) (m : ∀ a ∈ A.G, a ∉ F) : CellsAt K H' A c := by
  obtain ⟨es, h1, h2⟩ := h.dn
  exact ⟨e.at h.cs (m _ (by simp [Ad.G])), h.ds.to e n fun a ha => m a (by simp [Ad.G, ha]), ⟨es, e.at h1 (m _ (by simp [Ad.G])), h2.tk e.t⟩, h.bv.tk e.t, h.ne⟩
theorem CellsAt.same {A : Ad} {c : CeS} (h : CellsAt K H A c) (e : Same H H') : CellsAt K H' A c := h.to (F := []) (.of_same e) (by simp) (by simp)
theorem StateAt.to {A : Ad} {S : ArrS} (h : StateAt K H A S) (e : Mv K F H H') (n : A.dl ∉ F) (m : ∀ a ∈ A.F, a ∉ F) : StateAt K H' A S := by
  obtain ⟨v, h1, h2⟩ := h.st
  exact ⟨⟨v, e.at h1 (m _ (by simp [Ad.F])), h2.tk e.t⟩, h.ce.to e n fun a ha => m a (by simp only [Ad.G, List.mem_cons] at ha; simp only [Ad.F, List.mem_cons]; exact .inr ha), h.ne⟩
theorem StateAt.same {A : Ad} {S : ArrS} (h : StateAt K H A S) (e : Same H H') : StateAt K H' A S := h.to (F := []) (.of_same e) (by simp) (by simp)
theorem ArrAt.to {A : Ad} {S : ArrS} (h : ArrAt K H A S) (e : Mv K F H H') (n0 : A.arr ∉ F) (n : A.dl ∉ F) (m : ∀ a ∈ A.F, a ∉ F) : ArrAt K H' A S := ⟨e.at h.arr n0, h.sa.to e n m, h.n1, h.n2⟩
theorem ArrAt.same {A : Ad} {S : ArrS} (h : ArrAt K H A S) (e : Same H H') : ArrAt K H' A S := h.to (F := []) (.of_same e) (by simp) (by simp) (by simp)
end
end WS
set_option Elab.async false
set_option linter.all false
set_option maxRecDepth 100000
set_option maxHeartbeats 4000000
/-! one form for the list comprehensions that change nothing but their own list -/
namespace WS
open PySem PySem.Spec PyProof.Rows L2
/-! ### the walks of a list, a dict, a loop, named -/
def LcG (J : It) (g : TG) (tt : TT) (te : TE) (vs : List Nat) (σ : L2.St) (Q : VK) (H1 : Hp) : Prop := ∀ D, H1 D = none → ∃ W : Nat → Nat → Hp → Prop, (∃ m, W 0 m (upd H1 D (.lst []))) ∧ ∀ i m H, W i m H →
      (J.stop i H ∧ Q (.ref D) H) ∨ (J.go i H ∧ ∃ Nx : Hp → Prop, (∀ H', Nx H' → ∃ m', m' < m ∧ W (i + 1) m' H') ∧ ∀ x H', J.yld i H x H' → g x (wipe σ vs) H' fun σ2 H2 => wipe σ2 vs = wipe σ vs ∧ tt σ2 H2 fun b H3 =>
        if b = true then te σ2 H3 fun y H4 => ∃ acc, H4 D = some (.lst acc) ∧ acc.length < sizeLine ∧ Nx (upd H4 D (.lst (acc ++ [y]))) else Nx H3)
def DcG (J : It) (g : TG) (tt : TT) (tk tv : TE) (vs : List Nat) (σ : L2.St) (Q : VK) (H1 : Hp) : Prop := ∀ D, H1 D = none → ∃ W : Nat → Nat → Hp → Prop, (∃ m, W 0 m (upd H1 D (.dK []))) ∧ ∀ i m H, W i m H →
      (J.stop i H ∧ Q (.ref D) H) ∨ (J.go i H ∧ ∃ Nx : Hp → Prop, (∀ H', Nx H' → ∃ m', m' < m ∧ W (i + 1) m' H') ∧ ∀ x H', J.yld i H x H' → g x (wipe σ vs) H' fun σ2 H2 => wipe σ2 vs = wipe σ vs ∧ tt σ2 H2 fun b H3 =>
        if b = true then tk σ2 H3 fun y H4 => tv σ2 H4 fun z H5 => ∃ kvs k, y = kV k ∧ H5 D = some (.dK kvs) ∧ kvs.length < sizeLine ∧ Nx (upd H5 D (.dK (putK kvs k z))) else Nx H3)
def ForG (J : It) (g : TG) (tb : TS) (D : Ends) (σ : L2.St) (H1 : Hp) : Prop := ∃ W : Nat → Nat → L2.St → Hp → Prop, (∃ m, W 0 m σ H1) ∧ ∀ i m σ H, W i m σ H →
      (J.stop i H ∧ D.nx σ H) ∨ (J.go i H ∧ ∃ N : L2.St → Hp → Prop, (∀ σ' H', N σ' H' → ∃ m', m' < m ∧ W (i + 1) m' σ' H') ∧ ∀ x H', J.yld i H x H' → g x σ H' fun σ2 H2 => tb { D with nx := N, ct := N, bk := D.nx } σ2 H2)
def tLcW (wi : TI) (g : TG) (tt : TT) (te : TE) (vs : List Nat) : TE := fun σ H Q => wi σ H fun J H1 => LcG J g tt te vs σ Q H1
def tDcW (wi : TI) (g : TG) (tt : TT) (tk tv : TE) (vs : List Nat) : TE := fun σ H Q => wi σ H fun J H1 => DcG J g tt tk tv vs σ Q H1
def tForW (wi : TI) (g : TG) (tb : TS) : TS := fun D σ H => wi σ H fun J H1 => ForG J g tb D σ H1
section
variable {X : Cx} {e : Expr} {st : Stmt} {wi : TI} {g g2 : TG} {tt : TT} {te tk tv : TE} {tb : TS} {vs : List Nat}
theorem pe_w (h : PE X e (tLc wi g tt te vs)) : PE X e (tLcW wi g tt te vs) := h
theorem pe_wd (h : PE X e (tDc wi g tt tk tv vs)) : PE X e (tDcW wi g tt tk tv vs) := h
theorem ps_w (h : PS X st (tAsg (tLc wi g tt te vs) g2)) : PS X st (tAsg (tLcW wi g tt te vs) g2) := h
theorem ps_wd (h : PS X st (tAsg (tDc wi g tt tk tv vs) g2)) : PS X st (tAsg (tDcW wi g tt tk tv vs) g2) := h
theorem ps_wf (h : PS X st (tFor wi g tb)) : PS X st (tForW wi g tb) := h
end
theorem forG {J : It} {n : Nat} {g : TG} {tb : TS} {D : Ends} {σ : L2.St} {H : Hp} (Pv : Nat → L2.St → Hp → Prop) (h0 : Pv 0 σ H) (hgo : ∀ i σ H, i < n → Pv i σ H → J.go i H) (hst : ∀ σ H, Pv n σ H → J.stop n H)
    (hs : ∀ i σ H x H', i < n → Pv i σ H → J.yld i H x H' → g x σ H' fun σ2 H2 => tb { D with nx := Pv (i + 1), ct := Pv (i + 1), bk := D.nx } σ2 H2) (hd : ∀ σ H, Pv n σ H → D.nx σ H) : ForG J g tb D σ H := for_gen Pv h0 hgo hst hs hd
theorem dcG {J : It} {n : Nat} {g : TG} {tt : TT} {tk tv : TE} {vs : List Nat} {σ : L2.St} {Q : VK} {H1 : Hp} (Pv : Addr → Nat → Hp → Prop) (h0 : ∀ D, H1 D = none → Pv D 0 (upd H1 D (.dK []))) (hgo : ∀ D i H, i < n → Pv D i H → J.go i H) (hst : ∀ D H, Pv D n H → J.stop n H)
    (hs : ∀ D i H x H', H1 D = none → i < n → Pv D i H → J.yld i H x H' → g x (wipe σ vs) H' fun σ2 H2 => wipe σ2 vs = wipe σ vs ∧ tt σ2 H2 fun b H3 =>
      if b = true then tk σ2 H3 fun y H4 => tv σ2 H4 fun z H5 => ∃ kvs k, y = kV k ∧ H5 D = some (.dK kvs) ∧ kvs.length < sizeLine ∧ Pv D (i + 1) (upd H5 D (.dK (putK kvs k z))) else Pv D (i + 1) H3) (hd : ∀ D H, H1 D = none → Pv D n H → Q (.ref D) H) : DcG J g tt tk tv vs σ Q H1 :=
  fun D hD => dc_gen (Pv D) (h0 D hD) (hgo D) (hst D) (fun i H x H' hi => hs D i H x H' hD hi) fun H => hd D H hD
/-- all that is no list stays -/
def NL (H H' : Hp) : Prop := ∀ b o, H b = some o → (∀ l, o ≠ .lst l) → H' b = some o
section
variable {K : PySem.W.Frag} {H H1 H' : Hp}
theorem NL.of_same (e : Same H H') : NL H H' := fun b o h _ => e b o h
theorem NL.upd {a : Addr} {l : List V} {o : HO} (h : H a = some (.lst l)) : NL H (upd H a o) := fun b u q n => by
  rw [upd_ne (fun e => by rw [e, h] at q; exact n l (Option.some.inj q).symm)]
  exact q
theorem NL.tk (e : NL H H') : TK K H H' := fun a xs h => by
  rcases h with (h | ⟨o, h⟩) | h
  · exact .inl (.inl (e _ _ h fun _ z => by cases z))
  · exact .inl (.inr ⟨o, e _ _ h fun _ z => by cases z⟩)
  · exact .inr h
theorem NL.rp {v : V} {d : PyData} (e : NL H H') (h : Rp K H v d) : Rp K H' v d := h.tk e.tk
theorem NL.dat {a : Addr} {d : DiskS} (e : NL H H') (h : DAt K H a d) : DAt K H' a d := h.to (fun _ q => e _ _ q fun _ z => by cases z) e.tk
theorem pmono {α β : Type} {F G : α → β → Prop} (m : ∀ a b, F a b → G a b) : ∀ {xs : List α} {ys : List β}, PySem.Paired F xs ys → PySem.Paired G xs ys
  | _, _, .nil => .nil
  | _, _, .cons h t => .cons (m _ _ h) (pmono m t)
theorem plen {α β : Type} {F : α → β → Prop} : ∀ {xs : List α} {ys : List β}, PySem.Paired F xs ys → ys.length = xs.length
  | _, _, .nil => rfl
  | _, _, .cons h t => by simp [plen t]
theorem pget {α β : Type} {F : α → β → Prop} : ∀ {xs : List α} {ys : List β} {i : Nat} {x : α} {y : β}, PySem.Paired F xs ys → xs[i]? = some x → ys[i]? = some y → F x y
  | _, _, _, _, _, .nil, h, _ => by simp at h
  | _, _, 0, _, _, .cons h t, e, f => by simp at e f; subst e f; exact h
  | _, _, i + 1, _, _, .cons h t, e, f => pget t (by simpa using e) (by simpa using f)
theorem prp {ι : Type} {f : ι → PyData} : ∀ {is : List ι} {ys : List V}, PySem.Paired (fun i y => Rp K H y (f i)) is ys → RpL K H ys (is.map f)
  | _, _, .nil => .nil
  | _, _, .cons h t => .cons h (prp t)
theorem peq {ι : Type} {f : ι → V} : ∀ {is : List ι} {ys : List V}, PySem.Paired (fun i y => y = f i) is ys → ys = is.map f
  | _, _, .nil => rfl
  | _, _, .cons h t => by rw [h, peq t]; rfl
theorem rp_get {vs : List V} {ds : List PyData} (h : RpL K H vs ds) {i : Nat} {v : V} {d : PyData} (hv : vs[i]? = some v) (hd : ds[i]? = some d) : Rp K H v d := by
  obtain ⟨v2, q1, q2⟩ := h.get hd
  rw [hv] at q1
  cases q1
  exact q2
theorem range_get {α : Type} (ds : List α) (z : α) : (List.range ds.length).map (fun i => ds.getD i z) = ds := by
  apply List.ext_getElem
  · simp
  · intro i h1 h2
    simp [List.getElem?_eq_getElem h2]
theorem pds {ds : List PyData} {n : Nat} {ys : List V} (hn : n = ds.length) (h : PySem.Paired (fun i y => ∃ d, ds[i]? = some d ∧ Rp K H y d) (List.range n) ys) : RpL K H ys ds := by
  subst hn
  have h4 : PySem.Paired (fun i y => Rp K H y (ds.getD i .none)) (List.range ds.length) ys := pmono (fun i y ⟨d, q1, q2⟩ => by rw [List.getD_eq_getElem?_getD, q1]; exact q2) h
  have h5 := prp h4
  rw [range_get] at h5
  exact h5
theorem pvs {xs ys : List V} {n : Nat} (hn : n = xs.length) (h : PySem.Paired (fun i y => xs[i]? = some y) (List.range n) ys) : ys = xs := by
  subst hn
  have h4 : PySem.Paired (fun i y => y = xs.getD i .non) (List.range xs.length) ys := pmono (fun i y q => by rw [List.getD_eq_getElem?_getD, q]; rfl) h
  rw [peq h4, range_get]
/-! ### iterators over what stands -/
theorem itl_go {a : Addr} {xs : List V} {i : Nat} (h : SqL K H a xs) (hi : i < xs.length) : (Itl K a).go i H := ⟨xs, _, h, List.getElem?_eq_getElem hi⟩
theorem itl_stop {a : Addr} {xs : List V} (h : SqL K H a xs) : (Itl K a).stop xs.length H := ⟨xs, h, Nat.le_refl _⟩
theorem itl_yld {a : Addr} {xs : List V} {i : Nat} {x : V} (h : SqL K H a xs) (y : (Itl K a).yld i H x H') : H' = H ∧ xs[i]? = some x := ⟨y.1, y.2 _ h⟩
theorem itt_go {a : Addr} {xs : List V} {i : Nat} (h : SqT K H a xs) (hi : i < xs.length) : (Itt K a).go i H := ⟨xs, _, h, List.getElem?_eq_getElem hi⟩
theorem itt_stop {a : Addr} {xs : List V} (h : SqT K H a xs) : (Itt K a).stop xs.length H := ⟨xs, h, Nat.le_refl _⟩
theorem itt_yld {a : Addr} {xs : List V} {i : Nat} {x : V} (h : SqT K H a xs) (y : (Itt K a).yld i H x H') : H' = H ∧ xs[i]? = some x := ⟨y.1, y.2 _ h⟩
theorem ite_go {a : Addr} {xs : List V} {i : Nat} (h : SqT K H a xs) (hi : i < xs.length) : (IteT K a).go i H := ⟨xs, _, h, List.getElem?_eq_getElem hi⟩
theorem ite_stop {a : Addr} {xs : List V} (h : SqT K H a xs) : (IteT K a).stop xs.length H := ⟨xs, h, Nat.le_refl _⟩
theorem ite_yld {a : Addr} {xs : List V} {i : Nat} {x : V} (h : SqT K H a xs) (y : (IteT K a).yld i H x H') : ∃ T z, x = .ref T ∧ H T = none ∧ H' = upd H T (.tup [.int (i : Nat), z]) ∧ xs[i]? = some z := by
  obtain ⟨T, z, e1, e2, e3, e4⟩ := y
  exact ⟨T, z, e1, e2, e3, e4 _ h⟩
theorem iel_go {a : Addr} {xs : List V} {i : Nat} (h : SqL K H a xs) (hi : i < xs.length) : (Ite K a).go i H := ⟨xs, _, h, List.getElem?_eq_getElem hi⟩
theorem iel_stop {a : Addr} {xs : List V} (h : SqL K H a xs) : (Ite K a).stop xs.length H := ⟨xs, h, Nat.le_refl _⟩
theorem iel_yld {a : Addr} {xs : List V} {i : Nat} {x : V} (h : SqL K H a xs) (y : (Ite K a).yld i H x H') : ∃ T z, x = .ref T ∧ H T = none ∧ H' = upd H T (.tup [.int (i : Nat), z]) ∧ xs[i]? = some z := by
  obtain ⟨T, z, e1, e2, e3, e4⟩ := y
  exact ⟨T, z, e1, e2, e3, e4 _ h⟩
/-! ### [.. for .. in .. if ..] -/
theorem lcK {J : It} {n : Nat} {g : TG} {tt : TT} {te : TE} {vs : List Nat} {σ : L2.St} {Q : VK} (keep : Nat → Bool) (PP : Nat → V → Hp → Prop) (hn : n ≤ 10000)
    (stb : ∀ i y H H', NL H H' → PP i y H → PP i y H') (hgo : ∀ i H, i < n → Same H1 H → J.go i H) (hst : ∀ H, Same H1 H → J.stop n H)
    (hs : ∀ i H x H', i < n → Same H1 H → J.yld i H x H' → ∀ (R : VK) (Z : Hp → Prop), (keep i = true → ∀ y H4, Same H H4 → PP i y H4 → R y H4) → (keep i = false → ∀ H4, Same H H4 → Z H4) →
      g x (wipe σ vs) H' fun σ2 H2 => wipe σ2 vs = wipe σ vs ∧ tt σ2 H2 fun b H3 => if b = true then te σ2 H3 R else Z H3)
    (hd : ∀ p ys H, H1 p = none → H p = some (.lst ys) → Same H1 H → PySem.Paired (fun i y => PP i y H) ((List.range n).filter keep) ys → Q (.ref p) H) :
    LcG J g tt te vs σ Q H1 := by
  intro D hD
  refine lc_gen (n := n) (fun i H => Same H1 H ∧ ∃ acc, H D = some (.lst acc) ∧ PySem.Paired (fun i y => PP i y H) ((List.range i).filter keep) acc) ⟨same_new hD, [], upd_same, .nil⟩ (fun i H hi h => hgo i H hi h.1) (fun H h => hst H h.1) ?_
    fun H ⟨e, acc, ha, hp⟩ => hd D acc H hD ha e hp
  intro i H x H' hi ⟨e, acc, ha, hp⟩ hy
  refine hs i H x H' hi e hy _ _ (fun hk y H4 e4 py => ⟨acc, e4 _ _ ha, ?_, ?_, acc ++ [y], upd_same, ?_⟩) fun hk H4 e4 => ⟨e.trans e4, acc, e4 _ _ ha, ?_⟩
  · have h1 := plen hp
    have h2 : ((List.range i).filter keep).length ≤ i := by simpa using List.length_filter_le keep (List.range i)
    have h3 : (10000 : Nat) < sizeLine := by decide
    omega
  · intro b o hb
    have hne : b ≠ D := fun z => by rw [z, hD] at hb; cases hb
    rw [upd_ne hne]
    exact e4 _ _ (e _ _ hb)
  · have nl : NL H4 (upd H4 D (.lst (acc ++ [y]))) := NL.upd (e4 _ _ ha)
    rw [List.range_succ, List.filter_append]
    have e1 : [i].filter keep = [i] := by simp [hk]
    rw [e1]
    exact PySem.Paired.snoc (pmono (fun a b q => stb _ _ _ _ nl (stb _ _ _ _ (.of_same e4) q)) hp) (stb _ _ _ _ nl py)
  · rw [List.range_succ, List.filter_append]
    have e1 : [i].filter keep = [] := by simp [hk]
    rw [e1, List.append_nil]
    exact pmono (fun a b q => stb _ _ _ _ (.of_same e4) q) hp
theorem keep_all (n : Nat) : (List.range n).filter (fun _ => true) = List.range n := by simp
/-- every item is taken -/
theorem lcA {J : It} {n : Nat} {g : TG} {te : TE} {vs : List Nat} {σ : L2.St} {Q : VK} (PP : Nat → V → Hp → Prop) (hn : n ≤ 10000)
    (stb : ∀ i y H H', NL H H' → PP i y H → PP i y H') (hgo : ∀ i H, i < n → Same H1 H → J.go i H) (hst : ∀ H, Same H1 H → J.stop n H)
    (hs : ∀ i H x H', i < n → Same H1 H → J.yld i H x H' → ∀ (R : VK), (∀ y H4, Same H H4 → PP i y H4 → R y H4) → g x (wipe σ vs) H' fun σ2 H2 => wipe σ2 vs = wipe σ vs ∧ te σ2 H2 R)
    (hd : ∀ p ys H, H1 p = none → H p = some (.lst ys) → Same H1 H → PySem.Paired (fun i y => PP i y H) (List.range n) ys → Q (.ref p) H) :
    LcG J g tYes te vs σ Q H1 :=
  lcK (fun _ => true) PP hn stb hgo hst (fun i H x H' hi e hy R Z hR hZ => hs i H x H' hi e hy R fun y H4 e4 p => hR rfl y H4 e4 p) fun p ys H h0 h1 h2 h3 => hd p ys H h0 h1 h2 (by rw [keep_all] at h3; exact h3)
end
end WS
set_option Elab.async false
set_option linter.all false
set_option maxRecDepth 100000
set_option maxHeartbeats 4000000
namespace WS
open PySem PySem.Spec PyProof.Rows L2
local macro_rules | `(tactic| walk_at "tdg") => `(tactic| first | (apply tdg0; walk_at "at") | (apply tdg1; walk_at "at") | (apply tdg2; walk_at "at") | (apply tdg3; walk_at "at") | (apply tdg4; walk_at "at") | (apply tdg5; walk_at "at") | (apply tdg6; walk_at "at") | (apply tdg7; walk_at "at") | (apply tdg8; walk_at "at"))
local macro_rules | `(tactic| walk_at "no") => `(tactic| first | assumption | (apply no_by; assumption; walk_at "sm"))
local macro_rules | `(tactic| walk_at "sm") => `(tactic| first | exact Same.refl _ | assumption | (apply same_up; walk_at "no"; walk_at "sm") | (apply same_by; assumption; walk_at "sm"))
local macro_rules | `(tactic| walk_at "tk") => `(tactic| first | exact TK.refl | assumption | (apply tk_up; walk_at "no"; walk_at "tk") | (apply tk_by; assumption; walk_at "tk") | (apply tk_mv; assumption; walk_at "tk"))
local macro_rules | `(tactic| walk_at "mv") => `(tactic| first | exact Mv.refl | assumption | (apply mv_up; walk_at "no"; walk_at "mv") | (apply mv_mv; assumption; walk_at "mv") | (apply mv_by; assumption; walk_at "mv"))
local macro_rules | `(tactic| walk_at "ne") => `(tactic| first | assumption | (refine Ne.symm ?_; assumption))
local macro_rules | `(tactic| walk_at "at") => `(tactic| first | assumption | exact upd_same | (apply at_new; walk_at "no"; walk_at "at") | (apply at_ne; walk_at "ne"; walk_at "at") | (apply at_same; assumption; walk_at "at") | (apply at_mv; assumption; assumption; walk_at "at"))
local macro_rules | `(tactic| walk_at "rp") => `(tactic| first | assumption | exact Rp.non | exact Rp.int _ | exact Rp.str _ | (apply rp_tk; assumption; walk_at "tk"))
local macro_rules | `(tactic| walk_at "sq") => `(tactic| first | assumption | exact (‹Tx _ _›).t_METAS _ | exact (‹Tx _ _›).t_FIELDS _ | exact (‹Tx _ _›).t_LEFT _ | exact (‹Tx _ _›).t_SYMMETRIC _ | (apply SqT.of; walk_at "at") | (apply SqL.of; walk_at "at") | (apply sqt_tk; assumption; walk_at "tk") | (apply sql_sm; assumption; walk_at "sm"))
local macro_rules | `(tactic| walk_at "sd") => `(tactic| first | rfl | omega | assumption | decide)
local macro_rules | `(tactic| walk_at "fld") => `(tactic| first | refine ⟨_, _, _, _, _, rfl, (by walk_at "at" : _ = some _), (‹Tx _ _›).c_Cells, (‹Tx _ _›).n_Cells_disks, rfl, ?_⟩ | refine ⟨_, _, _, _, _, rfl, (by walk_at "at" : _ = some _), (‹Tx _ _›).c_Cells, (‹Tx _ _›).n_Cells_done, rfl, ?_⟩ | refine ⟨_, _, _, _, _, rfl, (by walk_at "at" : _ = some _), (‹Tx _ _›).c_Cells, (‹Tx _ _›).n_Cells_begun, rfl, ?_⟩ | refine ⟨_, _, _, _, _, rfl, (by walk_at "at" : _ = some _), (‹Tx _ _›).c_Cells, (‹Tx _ _›).n_Cells_is_loose, rfl, ?_⟩ | refine ⟨_, _, _, _, _, rfl, (by walk_at "at" : _ = some _), (‹Tx _ _›).c_State, (‹Tx _ _›).n_State_cells, rfl, ?_⟩ | refine ⟨_, _, _, _, _, rfl, (by walk_at "at" : _ = some _), (‹Tx _ _›).c_State, (‹Tx _ _›).n_State_own_superblock, rfl, ?_⟩ | refine ⟨_, _, _, _, _, rfl, (by walk_at "at" : _ = some _), (‹Tx _ _›).c_Array, (‹Tx _ _›).n_Array_state, rfl, ?_⟩)
local macro_rules | `(tactic| walk_at "w") => `(tactic| first | refine ⟨_, rfl, ⟨_, (by walk_at "sq" : SqT _ _ _ _)⟩, ?_⟩ | refine ⟨_, rfl, ⟨_, (by walk_at "sq" : SqL _ _ _ _)⟩, ?_⟩ | refine ⟨_, rfl, ?_⟩ | refine ⟨_, _, rfl, rfl, ?_⟩ | refine ⟨rfl, ?_⟩ | refine ⟨_, _, rfl, (by walk_at "sq" : SqT _ _ _ _), rfl, ?_⟩ | refine ⟨_, _, rfl, (by walk_at "sq" : SqT _ _ _ _), ?_⟩ | refine ⟨_, _, rfl, (by walk_at "sq" : SqL _ _ _ _), ?_⟩ | refine ⟨_, _, rfl, (by walk_at "tdg" : DGet _ _ _ _), ?_⟩ | refine ⟨_, _, rfl, ?_⟩ | refine ⟨_, _, _, _, rfl, rfl, (by walk_at "sq" : SqT _ _ _ _), rfl, ?_⟩ | refine ⟨_, _, rfl, .inl (by walk_at "sq" : SqL _ _ _ _), rfl, rfl, ?_⟩ | refine ⟨_, _, rfl, .inr (by walk_at "sq" : SqT _ _ _ _), rfl, rfl, ?_⟩ | refine ⟨_, _, rfl, .inl (by walk_at "sq" : SqL _ _ _ _), ?_⟩ | refine ⟨_, _, rfl, .inr (by walk_at "sq" : SqT _ _ _ _), ?_⟩ | refine ⟨_, _, rfl, (by walk_at "at" : _ = some (HO.dK _)), ?_⟩ | refine ⟨_, _, _, _, rfl, rfl, (by walk_at "sq" : SqL _ _ _ _), rfl, ?_⟩ | refine ⟨_, _, _, rfl, (by walk_at "at" : _ = some _), rfl, ?_⟩ | refine ⟨_, _, _, rfl, ?_⟩ | walk_at "fld" | refine ty_d (by walk_at "at") ?_ | refine ty_l (by walk_at "sq") ?_ | refine ty_t (‹Tx _ _›).z_FIELDS ?_ | refine And.intro (by first | omega | decide | exact Nat.le_of_ble_eq_true rfl | (unfold CDiv; omega) | (unfold CMul; omega)) ?_)
local macro_rules | `(tactic| walk_at "go") => `(tactic| repeat walk_at "w")
section
variable {P : Program} {w : World} {K : PySem.W.Frag} {mg : Str → Option Value} {base : Heap}

theorem pi_or {X : Cx} {tg e : Expr} {w1 w2 : TI} (h1 : PI X tg e w1) (h2 : PI X tg e w2) : PI X tg e (fun σ H R => w1 σ H R ∨ w2 σ H R) :=
  ⟨fun pins s σ H R I h => h.elim (h1.run pins s σ H R I) (h2.run pins s σ H R I)⟩
theorem cut_to {xs : List V} {n : Nat} : cutV xs none (some (n : Int)) = xs.take n := by
  unfold cutV
  rw [HT.sIx_none, HT.sIx_nat, List.drop_zero, Nat.sub_zero]
  by_cases h : n ≤ xs.length
  · rw [Nat.min_eq_left h]
  · rw [Nat.min_eq_right (by omega), List.take_length, List.take_of_length_le (by omega)]
theorem cut_from {xs : List V} {n : Nat} : cutV xs (some (n : Int)) none = xs.drop n := by
  unfold cutV
  rw [HT.sIx_none, HT.sIx_nat]
  by_cases h : n ≤ xs.length
  · rw [Nat.min_eq_left h, List.take_of_length_le (by simp)]
  · rw [Nat.min_eq_right (by omega), List.drop_length, List.drop_eq_nil_of_le (by omega)]
    simp
theorem inV_int (i : Int) : ∀ (l : List Int), inV (.int i) (l.map V.int) = decide (i ∈ l)
  | [] => rfl
  | x :: l => by
    have h := inV_int i l
    unfold inV at h ⊢
    rw [List.map_cons, List.any_cons, h]
    show ((x == i) || decide (i ∈ l)) = _
    by_cases e : x = i
    · subst e; simp
    · have e2 : ¬ i = x := fun z => e z.symm
      simp [e, e2]
theorem flat_ints (l : List Int) : (l.map V.int).all flatV = true := by
  rw [List.all_map]
  exact List.all_eq_true.mpr fun _ _ => rfl
/-- i in a list or a tuple of ints -/
def rInI (K : PySem.W.Frag) (neg : Bool) : R2 := fun x y H Q => ∃ i p, x = .int i ∧ y = .ref p ∧ ∃ l : List Int, (SqL K H p (l.map V.int) ∨ SqT K H p (l.map V.int)) ∧ ∀ b, (b = true ↔ (i ∈ l ↔ neg = false)) → Q (.bl b) H
theorem rInI_to {H : Hp} {x y : V} {neg : Bool} {Q : VK} (h : rInI K neg x y H Q) : rIn K neg x y H Q := by
  obtain ⟨i, p, rfl, rfl, l, hs, q⟩ := h
  refine ⟨p, _, rfl, hs, rfl, flat_ints l, q _ ?_⟩
  rw [inV_int]
  cases neg <;> by_cases hm : i ∈ l <;> simp [hm]
theorem op_inI {X : Cx} (K : PySem.W.Frag) (h : X.K = K := by rfl) : OpR X (compareOp .In) (rInI K false) := fun pins s σ H x y v u Q I rx ry q => op_inK K h pins s σ H x y v u Q I rx ry (rInI_to q)
theorem op_notInI {X : Cx} (K : PySem.W.Frag) (h : X.K = K := by rfl) : OpR X (compareOp .NotIn) (rInI K true) := fun pins s σ H x y v u Q I rx ry q => op_notInK K h pins s σ H x y v u Q I rx ry (rInI_to q)
/-- a part of a tuple, itself or a new one -/
def rSlB (K : PySem.W.Frag) : V → Option Int → Option Int → Hp → VK → Prop := fun x lo hi H Q => ∃ a xs, x = .ref a ∧ SqT K H a xs ∧ ∀ b H5, Same H H5 → SqT K H5 b (cutV xs lo hi) → Q (.ref b) H5
theorem sl_tupB {X : Cx} (K : PySem.W.Frag) (h : X.K = K := by rfl) : SlR X (rSlB K) := fun pins s σ H x v vl vu lo hi sl Q I rx hs pl pu q => by
  obtain ⟨a, xs, ex, ha, q⟩ := q
  refine sl_tupK K h pins s σ H x v vl vu lo hi sl Q I rx hs pl pu ⟨a, xs, ex, ha, fun hw => ?_, fun _ p hp => q p _ (same_new hp) (SqT.new hp)⟩
  refine q a H (Same.refl _) ?_
  have e : cutV xs lo hi = xs := by
    unfold cutV
    rw [hw.1, hw.2]
    simp
  rw [e]
  exact ha
/-- a list or a tuple of data, or a scalar -/
def Rq (K : PySem.W.Frag) (H : Hp) (v : V) (d : PyData) : Prop := Rp K H v d ∨ ∃ a xs ds, v = .ref a ∧ H a = some (.lst xs) ∧ RpL K H xs ds ∧ d = .tuple ds
def sp_as (K : PySem.W.Frag) (n : Nat) : Sp := fun vs H Q _ => ∃ x d, vs = [x] ∧ Rq K H x d ∧ fits n d ∧ ∀ v H', Same H H' → Rp K H' v d → Q v H'
def sp_as_tuples (K : PySem.W.Frag) : Sp := sp_as K 7
theorem sqt_ty {H : Hp} {a : Addr} {xs : List V} (h : SqT K H a xs) : TyX K H (.ref a) (.type "tuple") := by
  rcases h with (h | ⟨o, h⟩) | ⟨o, its, n, h, c, _⟩
  · exact .base (.tup h)
  · exact .fTuple h
  · exact .kTuple h c
theorem as_base (T : Tx K mg) : GK P w K mg base "as_tuples" ["thing"] 1 (sp_as K 0) [] :=
  gk_mk T.f_as_tuples T.m_as_tuples (by decide +kernel) sc_as_tuples (fun _ _ _ _ _ _ us hl => match us, hl with | [_], _ => rfl) (fun _ _ _ _ h => by obtain ⟨_, _, rfl, _⟩ := h; rfl) fun cdv A outer s H vs Q E hr h => by
  obtain ⟨x, d, rfl, hx, hd, q⟩ := h
  exact ⟨_, pss_never, hd.elim⟩
theorem as_step (T : Tx K mg) (n : Nat) (g_as_tuples : GK P w K mg base "as_tuples" ["thing"] (n + 1) (sp_as K n) []) : GK P w K mg base "as_tuples" ["thing"] (n + 2) (sp_as K (n + 1)) [] :=
  gk_mk T.f_as_tuples T.m_as_tuples (by decide +kernel) sc_as_tuples (fun _ _ _ _ _ _ us hl => match us, hl with | [_], _ => rfl) (fun _ _ _ _ h => by obtain ⟨_, _, rfl, _⟩ := h; rfl) fun cdv A outer s H vs Q E hr h => by
  have nd := sc_as_tuples.nd
  have le : n + 1 ≤ n + 1 := Nat.le_refl _
  refine ⟨_, (pss_one (ps_ret (pe_ifExp (pt_val (pb_isiT T.b_isinstance (pa_cons (pv 0) (pa_cons (pe_tup (pa_cons (pe_bt_list T.b_list) (pa_cons (pe_bt_tuple T.b_tuple) pa_nil))) pa_nil)))) (pb_tupleK K T.b_tuple (pa_cons (pe_w (pe_lc (own := [("part", 1)]) (g := gName 1) (tt := tYes) rfl nd (pi_or (pi_listK K (pv 0)) (pi_tupK K (pv 0))) (blkOk_by (N := ["thing", "part"]) (sc := defScope s_as_tuples) (by decide +kernel)) (fun _ _ _ _ _ => (pg_name (i := 1) nd rfl (Or.inl rfl))) (fun _ _ _ _ _ => pts_nil) (fun _ _ _ _ _ => (pe_gkK g_as_tuples hr le (pa_cons (pv 1) pa_nil))))) pa_nil)) (pv 0)))), ?_⟩
  obtain ⟨x, d, rfl, hx, hd, q⟩ := h
  walk_at "go"
  intro tp htp
  have e1 : Same H (upd H tp (HO.tup [V.ty "list", V.ty "tuple"])) := same_new htp
  have e2 : ∀ {a o}, H a = some o → upd H tp (HO.tup [V.ty "list", V.ty "tuple"]) a = some o := fun h => e1 _ _ h
  have sc : ∀ (t : Value), PySem.W.kitAny K t [.type "list", .type "tuple"] = some false → TyX K (upd H tp (HO.tup [V.ty "list", V.ty "tuple"])) x t → Rp K H x d → _ := fun t hk ht hp => (⟨x, tp, _, t, _, false, rfl, upd_same, .cons (.ty _) (.cons (.ty _) .nil), ht, hk, _, rfl, _, rfl, q _ _ e1 (hp.same e1)⟩ : rIsiT K [x, V.ref tp] (upd H tp (HO.tup [V.ty "list", V.ty "tuple"])) fun x_1 H1 => ∃ c, x_1 = V.bl c ∧ if c = true then tCB (rTupQ K) (tCons (tLcW (fun σ H R => iList K (tVar 0) σ H R ∨ iTup K (tVar 0) σ H R) (gName 1) tYes (tCall (sp_as K n) [] E0 (tCons (tVar 1) tNil)) (List.map (fun x => x.snd) [(("part" : Str), 1)])) tNil) (L2.start ["thing", "part"] [x]) H1 Q else tVar 0 (L2.start ["thing", "part"] [x]) H1 Q)
  rcases hx with hx | ⟨a, xs, ds, rfl, hs, hrp, rfl⟩
  · cases hx with
    | non => exact sc (.type "NoneType") rfl (.base .non) .non
    | bl b => exact sc (.type "bool") rfl (.base (.bl b)) (.bl b)
    | int b => exact sc (.type "int") rfl (.base (.int b)) (.int b)
    | str b => exact sc (.type "str") rfl (.base (.str b)) (.str b)
    | @tup a xs ds hs hrp =>
      have hlen := hrp.length
      refine ⟨_, tp, _, (.type "tuple"), _, true, rfl, upd_same, .cons (.ty _) (.cons (.ty _) .nil), sqt_ty (SqT.tk hs (tk_same e1)), rfl, _, rfl, ?_⟩
      refine .inr ⟨_, rfl, _, rfl, ⟨xs, SqT.tk hs (tk_same e1)⟩, ?_⟩
      refine lcA (n := xs.length) (fun i y H' => ∃ d, ds[i]? = some d ∧ Rp K H' y d) (by have := hd.1; omega) (fun i y H1 H2 nl h => by obtain ⟨d, h1, h2⟩ := h; exact ⟨d, h1, nl.rp h2⟩) (fun i H' hi e => itt_go (SqT.tk hs (tk_same (e1.trans e))) hi) (fun H' e => itt_stop (SqT.tk hs (tk_same (e1.trans e)))) ?_ ?_
      · intro i H' y H2 hi e hy R hR
        obtain ⟨rfl, hx⟩ := itt_yld (SqT.tk hs (tk_same (e1.trans e))) hy
        obtain ⟨dd, hd1, hd2⟩ := hrp.getV hx
        exact ⟨rfl, _, rfl, ⟨_, _, rfl, .inl (hd2.same (e1.trans e)), hd.2 _ (List.mem_of_getElem? hd1), fun v H4 e4 r => hR v H4 e4 ⟨dd, hd1, r⟩⟩⟩
      · intro p ys H' h0 h1 h2 h3
        have h5 := pds hlen h3
        exact ⟨p, ys, rfl, .inl ⟨SqL.of h1, fun l hl => q _ _ (by walk_at "sm") (.tup (SqT.new hl) (h5.same (same_new hl)))⟩⟩
  · have hlen := hrp.length
    have hs := SqL.of (K := K) hs
    refine ⟨_, tp, _, (.type "list"), _, true, rfl, upd_same, .cons (.ty _) (.cons (.ty _) .nil), .base (.lst (e2 (by assumption))), rfl, _, rfl, ?_⟩
    refine .inl ⟨_, rfl, _, rfl, ⟨xs, SqL.sm hs e1⟩, ?_⟩
    refine lcA (n := xs.length) (fun i y H' => ∃ d, ds[i]? = some d ∧ Rp K H' y d) (by have := hd.1; omega) (fun i y H1 H2 nl h => by obtain ⟨d, h1, h2⟩ := h; exact ⟨d, h1, nl.rp h2⟩) (fun i H' hi e => itl_go (SqL.sm hs (e1.trans e)) hi) (fun H' e => itl_stop (SqL.sm hs (e1.trans e))) ?_ ?_
    · intro i H' y H2 hi e hy R hR
      obtain ⟨rfl, hx⟩ := itl_yld (SqL.sm hs (e1.trans e)) hy
      obtain ⟨dd, hd1, hd2⟩ := hrp.getV hx
      exact ⟨rfl, _, rfl, ⟨_, _, rfl, .inl (hd2.same (e1.trans e)), hd.2 _ (List.mem_of_getElem? hd1), fun v H4 e4 r => hR v H4 e4 ⟨dd, hd1, r⟩⟩⟩
    · intro p ys H' h0 h1 h2 h3
      have h5 := pds hlen h3
      exact ⟨p, ys, rfl, .inl ⟨SqL.of h1, fun l hl => q _ _ (by walk_at "sm") (.tup (SqT.new hl) (h5.same (same_new hl)))⟩⟩
theorem as_n (T : Tx K mg) : ∀ n, GK P w K mg base "as_tuples" ["thing"] (n + 1) (sp_as K n) []
  | 0 => as_base T
  | n + 1 => as_step T n (as_n T n)
theorem ok_as_tuples (T : Tx K mg) : GK P w K mg base "as_tuples" ["thing"] 8 (sp_as_tuples K) [] := as_n T 7

end
end WS
set_option Elab.async false
set_option linter.all false
set_option maxRecDepth 100000
set_option maxHeartbeats 4000000
/-! the dict of a disk -/
namespace WS
open PySem PySem.Spec PyProof.Rows L2
theorem cellKv_snoc (c : Int) : ∀ (as : List Int) (j : Nat), cellKv j (as ++ [c]) = cellKv j as ++ [(.inl ((j + as.length : Nat) : Int), .int c)]
  | [], j => by simp [cellKv]
  | a :: as, j => by
    simp only [List.cons_append, cellKv, List.length_cons]
    rw [cellKv_snoc c as (j + 1)]
    have : j + 1 + as.length = j + (as.length + 1) := by omega
    rw [this]
theorem cellKv_length : ∀ (as : List Int) (j : Nat), (cellKv j as).length = as.length
  | [], _ => rfl
  | a :: as, j => by simp [cellKv, cellKv_length as (j + 1)]
theorem valV_cons {kv : Key × V} {kvs : List (Key × V)} {k : Key} : valV (kv :: kvs) k = if kv.1 = k then some kv.2 else valV kvs k := by
  unfold valV
  rw [List.find?_cons]
  by_cases h : kv.1 = k <;> simp [h]
theorem valV_cell : ∀ (as : List Int) (j k : Nat), valV (cellKv j as) (.inl (k : Int)) = if j ≤ k then (as[k - j]?).map V.int else none
  | [], j, k => by simp [cellKv, valV]
  | a :: as, j, k => by
    rw [cellKv, valV_cons, valV_cell as (j + 1) k]
    by_cases h : j = k
    · subst h; simp
    · have h1 : ¬ ((Sum.inl ((j : Nat) : Int) : Key) = .inl (k : Int)) := fun e => h (by have := Sum.inl.inj e; omega)
      rw [if_neg h1]
      by_cases h2 : j + 1 ≤ k
      · have h3 : j ≤ k := by omega
        have h4 : k - j = (k - (j + 1)) + 1 := by omega
        rw [if_pos h2, if_pos h3, h4, List.getElem?_cons_succ]
      · have h3 : ¬ j ≤ k := by omega
        rw [if_neg h2, if_neg h3]
theorem valV_cellS : ∀ (as : List Int) (j : Nat) (s : Str), valV (cellKv j as) (.inr s) = none
  | [], j, k => by simp [cellKv, valV]
  | a :: as, j, k => by
    rw [cellKv, valV_cons, valV_cellS as (j + 1) k]
    simp
theorem map_cell (x : Int) : ∀ (as : List Int) (j k : Nat), (cellKv j as).map (fun kv => if kv.1 = (.inl (k : Int) : Key) then (kv.1, V.int x) else kv) = cellKv j (if j ≤ k then as.set (k - j) x else as)
  | [], j, k => by simp [cellKv]
  | a :: as, j, k => by
    rw [cellKv, List.map_cons, map_cell x as (j + 1) k]
    by_cases h : j = k
    · subst h
      have h3 : ¬ j + 1 ≤ j := by omega
      simp [h3, cellKv]
    · have h1 : ¬ ((Sum.inl ((j : Nat) : Int) : Key) = .inl (k : Int)) := fun e => h (by have := Sum.inl.inj e; omega)
      rw [if_neg h1]
      by_cases h2 : j + 1 ≤ k
      · have h3 : j ≤ k := by omega
        have h4 : k - j = (k - (j + 1)) + 1 := by omega
        rw [if_pos h2, if_pos h3, h4, List.set_cons_succ, cellKv]
      · have h3 : ¬ j ≤ k := by omega
        rw [if_neg h2, if_neg h3, cellKv]
theorem map_cellS (v : V) : ∀ (as : List Int) (j : Nat) (s : Str), (cellKv j as).map (fun kv => if kv.1 = (.inr s : Key) then (kv.1, v) else kv) = cellKv j as
  | [], j, s => by simp [cellKv]
  | a :: as, j, s => by
    rw [cellKv, List.map_cons, map_cellS v as (j + 1) s]
    simp
theorem put_cell {x0 x1 x2 : V} {cs : List Int} {r : Nat} (x : Int) (h : r < cs.length) : putK (diskKv x0 x1 x2 cs) (.inl (r : Int)) (.int x) = diskKv x0 x1 x2 (cs.set r x) := by
  unfold putK
  have h1 : ((diskKv x0 x1 x2 cs).any fun kv => decide (kv.1 = (.inl (r : Int) : Key))) = true := by
    rw [valV_any]
    unfold diskKv
    rw [valV_neg (by simp), valV_neg (by simp), valV_neg (by simp), valV_cell, if_pos (Nat.zero_le _)]
    simp [List.getElem?_eq_getElem h]
  rw [if_pos h1]
  unfold diskKv
  rw [List.map_cons, List.map_cons, List.map_cons, map_cell, if_pos (Nat.zero_le _)]
  simp
theorem put_sb {x0 x1 x2 : V} {cs : List Int} (x : V) : putK (diskKv x0 x1 x2 cs) (.inr Mt.sb.s) x = diskKv x x1 x2 cs := by
  have h0 : ((Sum.inr "superblock" : Key) = .inr Mt.sb.s) = True := eq_true rfl
  have h1 : ((Sum.inr "log" : Key) = .inr Mt.sb.s) = False := eq_false (by decide)
  have h2 : ((Sum.inr "aside" : Key) = .inr Mt.sb.s) = False := eq_false (by decide)
  unfold putK diskKv
  simp only [List.any_cons, List.map_cons, map_cellS, h0, h1, h2, decide_true, decide_false, Bool.true_or, if_true, if_false]
theorem put_lg {x0 x1 x2 : V} {cs : List Int} (x : V) : putK (diskKv x0 x1 x2 cs) (.inr Mt.lg.s) x = diskKv x0 x x2 cs := by
  have h0 : ((Sum.inr "superblock" : Key) = .inr Mt.lg.s) = False := eq_false (by decide)
  have h1 : ((Sum.inr "log" : Key) = .inr Mt.lg.s) = True := eq_true rfl
  have h2 : ((Sum.inr "aside" : Key) = .inr Mt.lg.s) = False := eq_false (by decide)
  unfold putK diskKv
  simp only [List.any_cons, List.map_cons, map_cellS, h0, h1, h2, decide_true, decide_false, Bool.true_or, Bool.false_or, if_true, if_false]
theorem put_as {x0 x1 x2 : V} {cs : List Int} (x : V) : putK (diskKv x0 x1 x2 cs) (.inr Mt.as.s) x = diskKv x0 x1 x cs := by
  have h0 : ((Sum.inr "superblock" : Key) = .inr Mt.as.s) = False := eq_false (by decide)
  have h1 : ((Sum.inr "log" : Key) = .inr Mt.as.s) = False := eq_false (by decide)
  have h2 : ((Sum.inr "aside" : Key) = .inr Mt.as.s) = True := eq_true rfl
  unfold putK diskKv
  simp only [List.any_cons, List.map_cons, map_cellS, h0, h1, h2, decide_true, decide_false, Bool.true_or, Bool.false_or, if_true, if_false]
theorem get_sb {x0 x1 x2 : V} {cs : List Int} : valV (diskKv x0 x1 x2 cs) (.inr "superblock") = some x0 := valV_pos rfl
theorem get_lg {x0 x1 x2 : V} {cs : List Int} : valV (diskKv x0 x1 x2 cs) (.inr "log") = some x1 := by
  unfold diskKv
  rw [valV_neg (show ¬ ((.inr "superblock" : Key) = .inr "log") from by decide), valV_pos rfl]
theorem get_as {x0 x1 x2 : V} {cs : List Int} : valV (diskKv x0 x1 x2 cs) (.inr "aside") = some x2 := by
  unfold diskKv
  rw [valV_neg (show ¬ ((.inr "superblock" : Key) = .inr "aside") from by decide), valV_neg (show ¬ ((.inr "log" : Key) = .inr "aside") from by decide), valV_pos rfl]
theorem get_cell {x0 x1 x2 : V} {cs : List Int} {r : Nat} {c : Int} (h : cs[r]? = some c) : valV (diskKv x0 x1 x2 cs) (.inl (r : Int)) = some (.int c) := by
  unfold diskKv
  rw [valV_neg (by simp), valV_neg (by simp), valV_neg (by simp), valV_cell, if_pos (Nat.zero_le _), Nat.sub_zero, h]
  rfl
theorem merge_cell (x : List (Key × V)) (hx : ∀ k : Int, valV x (.inl k) = none) : ∀ (as bs : List Int), mergeK (x ++ cellKv 0 bs) (cellKv bs.length as) = x ++ cellKv 0 (bs ++ as)
  | [], bs => by simp [cellKv, mergeK]
  | a :: as, bs => by
    unfold mergeK
    rw [cellKv, List.foldl_cons]
    have h1 : valV (x ++ cellKv 0 bs) (.inl ((bs.length : Nat) : Int)) = none := by
      unfold valV
      rw [List.find?_append]
      have h2 : x.find? (fun kv => decide (kv.1 = (.inl ((bs.length : Nat) : Int) : Key))) = none := by
        have := hx (bs.length : Nat)
        unfold valV at this
        simpa using this
      have h3 : (cellKv 0 bs).find? (fun kv => decide (kv.1 = (.inl ((bs.length : Nat) : Int) : Key))) = none := by
        have := valV_cell bs 0 bs.length
        rw [if_pos (Nat.zero_le _)] at this
        unfold valV at this
        simpa using this
      rw [h2, h3]
      rfl
    rw [putK_new _ h1, List.append_assoc, show cellKv 0 bs ++ [((.inl ((bs.length : Nat) : Int) : Key), V.int a)] = cellKv 0 (bs ++ [a]) from by rw [cellKv_snoc]; simp]
    have := merge_cell x hx as (bs ++ [a])
    unfold mergeK at this
    rw [List.length_append, List.length_singleton] at this
    rw [this]
    simp
theorem merge_disk {x0 x1 x2 : V} {cs : List Int} : mergeK [(.inr "superblock", x0), (.inr "log", x1), (.inr "aside", x2)] (cellKv 0 cs) = diskKv x0 x1 x2 cs := by
  have := merge_cell [(.inr "superblock", x0), (.inr "log", x1), (.inr "aside", x2)] (fun k => by rw [valV_neg (by simp), valV_neg (by simp), valV_neg (by simp)]; rfl) cs []
  unfold diskKv
  simpa [cellKv] using this
theorem diskKv_length {x0 x1 x2 : V} {cs : List Int} : (diskKv x0 x1 x2 cs).length = cs.length + 3 := by
  unfold diskKv
  simp [cellKv_length]
end WS
set_option Elab.async false
set_option linter.all false
set_option maxRecDepth 100000
set_option maxHeartbeats 4000000
namespace WS
open PySem PySem.Spec PyProof.Rows L2
local macro_rules | `(tactic| walk_at "tdg") => `(tactic| first | (apply tdg0; walk_at "at") | (apply tdg1; walk_at "at") | (apply tdg2; walk_at "at") | (apply tdg3; walk_at "at") | (apply tdg4; walk_at "at") | (apply tdg5; walk_at "at") | (apply tdg6; walk_at "at") | (apply tdg7; walk_at "at") | (apply tdg8; walk_at "at"))
local macro_rules | `(tactic| walk_at "no") => `(tactic| first | assumption | (apply no_by; assumption; walk_at "sm"))
local macro_rules | `(tactic| walk_at "sm") => `(tactic| first | exact Same.refl _ | assumption | (apply same_up; walk_at "no"; walk_at "sm") | (apply same_by; assumption; walk_at "sm"))
local macro_rules | `(tactic| walk_at "tk") => `(tactic| first | exact TK.refl | assumption | (apply tk_up; walk_at "no"; walk_at "tk") | (apply tk_by; assumption; walk_at "tk") | (apply tk_mv; assumption; walk_at "tk"))
local macro_rules | `(tactic| walk_at "mv") => `(tactic| first | exact Mv.refl | assumption | (apply mv_up; walk_at "no"; walk_at "mv") | (apply mv_mv; assumption; walk_at "mv") | (apply mv_by; assumption; walk_at "mv"))
local macro_rules | `(tactic| walk_at "ne") => `(tactic| first | assumption | (refine Ne.symm ?_; assumption))
local macro_rules | `(tactic| walk_at "at") => `(tactic| first | assumption | exact upd_same | (apply at_new; walk_at "no"; walk_at "at") | (apply at_ne; walk_at "ne"; walk_at "at") | (apply at_same; assumption; walk_at "at") | (apply at_mv; assumption; assumption; walk_at "at"))
local macro_rules | `(tactic| walk_at "rp") => `(tactic| first | assumption | exact Rp.non | exact Rp.int _ | exact Rp.str _ | (apply rp_tk; assumption; walk_at "tk"))
local macro_rules | `(tactic| walk_at "sq") => `(tactic| first | assumption | exact (‹Tx _ _›).t_METAS _ | exact (‹Tx _ _›).t_FIELDS _ | exact (‹Tx _ _›).t_LEFT _ | exact (‹Tx _ _›).t_SYMMETRIC _ | (apply SqT.of; walk_at "at") | (apply SqL.of; walk_at "at") | (apply sqt_tk; assumption; walk_at "tk") | (apply sql_sm; assumption; walk_at "sm"))
local macro_rules | `(tactic| walk_at "sd") => `(tactic| first | rfl | omega | assumption | decide)
local macro_rules | `(tactic| walk_at "fld") => `(tactic| first | refine ⟨_, _, _, _, _, rfl, (by walk_at "at" : _ = some _), (‹Tx _ _›).c_Cells, (‹Tx _ _›).n_Cells_disks, rfl, ?_⟩ | refine ⟨_, _, _, _, _, rfl, (by walk_at "at" : _ = some _), (‹Tx _ _›).c_Cells, (‹Tx _ _›).n_Cells_done, rfl, ?_⟩ | refine ⟨_, _, _, _, _, rfl, (by walk_at "at" : _ = some _), (‹Tx _ _›).c_Cells, (‹Tx _ _›).n_Cells_begun, rfl, ?_⟩ | refine ⟨_, _, _, _, _, rfl, (by walk_at "at" : _ = some _), (‹Tx _ _›).c_Cells, (‹Tx _ _›).n_Cells_is_loose, rfl, ?_⟩ | refine ⟨_, _, _, _, _, rfl, (by walk_at "at" : _ = some _), (‹Tx _ _›).c_State, (‹Tx _ _›).n_State_cells, rfl, ?_⟩ | refine ⟨_, _, _, _, _, rfl, (by walk_at "at" : _ = some _), (‹Tx _ _›).c_State, (‹Tx _ _›).n_State_own_superblock, rfl, ?_⟩ | refine ⟨_, _, _, _, _, rfl, (by walk_at "at" : _ = some _), (‹Tx _ _›).c_Array, (‹Tx _ _›).n_Array_state, rfl, ?_⟩)
local macro_rules | `(tactic| walk_at "w") => `(tactic| first | refine ⟨_, rfl, ⟨_, (by walk_at "sq" : SqT _ _ _ _)⟩, ?_⟩ | refine ⟨_, rfl, ⟨_, (by walk_at "sq" : SqL _ _ _ _)⟩, ?_⟩ | refine ⟨_, rfl, ?_⟩ | refine ⟨_, _, rfl, rfl, ?_⟩ | refine ⟨rfl, ?_⟩ | refine ⟨_, _, rfl, (by walk_at "sq" : SqT _ _ _ _), rfl, ?_⟩ | refine ⟨_, _, rfl, (by walk_at "sq" : SqT _ _ _ _), ?_⟩ | refine ⟨_, _, rfl, (by walk_at "sq" : SqL _ _ _ _), ?_⟩ | refine ⟨_, _, rfl, (by walk_at "tdg" : DGet _ _ _ _), ?_⟩ | refine ⟨_, _, rfl, ?_⟩ | refine ⟨_, _, _, _, rfl, rfl, (by walk_at "sq" : SqT _ _ _ _), rfl, ?_⟩ | refine ⟨_, _, rfl, .inl (by walk_at "sq" : SqL _ _ _ _), rfl, rfl, ?_⟩ | refine ⟨_, _, rfl, .inr (by walk_at "sq" : SqT _ _ _ _), rfl, rfl, ?_⟩ | refine ⟨_, _, rfl, .inl (by walk_at "sq" : SqL _ _ _ _), ?_⟩ | refine ⟨_, _, rfl, .inr (by walk_at "sq" : SqT _ _ _ _), ?_⟩ | refine ⟨_, _, rfl, (by walk_at "at" : _ = some (HO.dK _)), ?_⟩ | refine ⟨_, _, _, _, rfl, rfl, (by walk_at "sq" : SqL _ _ _ _), rfl, ?_⟩ | refine ⟨_, _, _, rfl, (by walk_at "at" : _ = some _), rfl, ?_⟩ | refine ⟨_, _, _, rfl, ?_⟩ | walk_at "fld" | refine ty_d (by walk_at "at") ?_ | refine ty_l (by walk_at "sq") ?_ | refine ty_t (‹Tx _ _›).z_FIELDS ?_ | refine And.intro (by first | omega | decide | exact Nat.le_of_ble_eq_true rfl | (unfold CDiv; omega) | (unfold CMul; omega)) ?_)
local macro_rules | `(tactic| walk_at "go") => `(tactic| repeat walk_at "w")
section
variable {P : Program} {w : World} {K : PySem.W.Frag} {mg : Str → Option Value} {base : Heap}

def dOpt : Option DiskS → PyData
  | none => .none
  | some d => d.d
/-- what stands for a disk: None, or its dict -/
def OAt (K : PySem.W.Frag) (H : Hp) (v : V) : Option DiskS → Prop
  | none => v = .non
  | some d => ∃ a, v = .ref a ∧ DAt K H a d
theorem disk_open {H : Hp} {v : V} {d : DiskS} (h : Rp K H v d.d) : ∃ a x0 x1 x2 c, v = .ref a ∧ SqT K H a [x0, x1, x2, .ref c] ∧ Rp K H x0 d.m0 ∧ Rp K H x1 d.m1 ∧ Rp K H x2 d.m2 ∧ SqT K H c (d.cells.map V.int) := by
  obtain ⟨a, xs, rfl, hs, hr⟩ := Rp.tup_eq h
  cases hr with
  | cons h0 t =>
  cases t with
  | cons h1 t =>
  cases t with
  | cons h2 t =>
  cases t with
  | cons h3 t =>
  cases t
  obtain ⟨c, ys, rfl, hc, hy⟩ := Rp.tup_eq h3
  rw [RpL.of_ints hy] at hc
  exact ⟨a, _, _, _, c, rfl, hs, h0, h1, h2, hc⟩
def sp_opened (K : PySem.W.Frag) : Sp := fun vs H Q _ => ∃ (x : V) (o : Option DiskS), vs = [x] ∧ Rp K H x (dOpt o) ∧ (∀ d, o = some d → d.cells.length ≤ 1000) ∧
  ∀ v H', Same H H' → OAt K H' v o → (∀ a, v = .ref a → H a = none) → Q v H'

theorem ok_opened (T : Tx K mg)  : GK P w K mg base "opened" ["disk"] 1 (sp_opened K) [] := gk_mk T.f_opened T.m_opened (by decide +kernel) sc_opened (fun _ _ _ _ _ _ us hl => match us, hl with | [_], _ => rfl) (fun _ _ _ _ h => by obtain ⟨_, _, rfl, _⟩ := h; rfl) fun cdv A outer s H vs Q E hr h => by
  have nd := sc_opened.nd
  refine ⟨_, (pss_cons (ps_if (pt_cmpR op_isN (pv 0) pe_non (nomark _)) (pss_one (ps_ret pe_non)) pss_nil)
  (pss_cons (ps_wd (ps_setDc (i := 1) (own := [("at", 2), ("place", 3)]) (g := gTup K 2 (gCons (gName 2) (gCons (gName 3) gNil))) (tt := tYes) rfl nd rfl rfl (sw_trueD rfl rfl rfl (by decide +kernel)) (pi_enumT rfl T.b_enumerate (pa_cons (pe_gr T.m_METAS) pa_nil)) (blkOk_by (N := ["disk", "found", "at", "place", "row", "value"]) (sc := defScope s_opened) (by decide +kernel)) (fun _ _ _ _ _ => (pg_tupK K 2 rfl (pgs_cons (pg_name (i := 2) nd rfl (Or.inl rfl)) (pgs_cons (pg_name (i := 3) nd rfl (Or.inl rfl)) pgs_nil)))) (fun _ _ _ _ _ => pts_nil) (fun _ _ _ _ _ => (pv 3)) (fun _ _ _ _ _ => (pe_ix (ix_tupK K) (pv 0) (pv 2) (fun _ _ => rfl)))))
  (pss_cons (ps_expr (pe_bm PySem.F.plainAttrs_dict PySem.F.slot_dict_update PySem.F.type_dict_update mtd_update (pv 1) (pa_cons (pe_wd (pe_dc (own := [("row", 4), ("value", 5)]) (g := gTup K 2 (gCons (gName 4) (gCons (gName 5) gNil))) (tt := tYes) rfl nd (pi_enumT rfl T.b_enumerate (pa_cons (pe_ix (ix_tupK K) (pv 0) pe_int (fun _ _ => rfl)) pa_nil)) (blkOk_by (N := ["disk", "found", "at", "place", "row", "value"]) (sc := defScope s_opened) (by decide +kernel)) (fun _ _ _ _ _ => (pg_tupK K 2 rfl (pgs_cons (pg_name (i := 4) nd rfl (Or.inl rfl)) (pgs_cons (pg_name (i := 5) nd rfl (Or.inl rfl)) pgs_nil)))) (fun _ _ _ _ _ => pts_nil) (fun _ _ _ _ _ => (pv 4)) (fun _ _ _ _ _ => (pv 5)))) pa_nil)))
  (pss_one (ps_ret (pv 1)))))), ?_⟩
  obtain ⟨x, o, rfl, hx, hz, q⟩ := h
  cases o with
  | none =>
    cases hx
    walk_at "go"
    exact q _ _ (Same.refl _) rfl (fun _ z => by cases z)
  | some d =>
    obtain ⟨a, x0, x1, x2, c, rfl, hs, h0, h1, h2, hc⟩ := disk_open hx
    have hz := hz d rfl
    walk_at "go"
    refine dcG (n := 3) (fun D i H' => Same H H' ∧ H' D = some (.dK ([((.inr "superblock" : Key), x0), (.inr "log", x1), (.inr "aside", x2)].take i))) (fun D hD => ⟨same_new hD, upd_same⟩) (fun D i H' hi h => ite_go (T.t_METAS _) hi) (fun D H' h => ite_stop (T.t_METAS _)) ?_ ?_
    · intro D i H' y H2 hD hi ⟨e, hk⟩ hy
      obtain ⟨t, z, rfl, ht, rfl, hz⟩ := ite_yld (T.t_METAS _) hy
      have e2 : Same H (upd H' t (.tup [.int (i : Nat), z])) := e.trans (same_new ht)
      have hkD : D ≠ t := fun z => by rw [z, ht] at hk; cases hk
      refine ⟨_, _, rfl, SqT.new ht, rfl, ?_⟩
      match i, hi with
      | 0, _ =>
        cases hz
        walk_at "go"
        exact ⟨_, .inr "superblock", rfl, by walk_at "at", Nat.le_of_ble_eq_true rfl, same_own hD e2, upd_same⟩
      | 1, _ =>
        cases hz
        walk_at "go"
        exact ⟨_, .inr "log", rfl, by walk_at "at", Nat.le_of_ble_eq_true rfl, same_own hD e2, upd_same⟩
      | 2, _ =>
        cases hz
        walk_at "go"
        exact ⟨_, .inr "aside", rfl, by walk_at "at", Nat.le_of_ble_eq_true rfl, same_own hD e2, upd_same⟩
    · intro D H' hD ⟨e, hk⟩
      have hk : H' D = some (.dK [((.inr "superblock" : Key), x0), (.inr "log", x1), (.inr "aside", x2)]) := hk
      walk_at "go"
      refine dcG (n := d.cells.length) (fun D2 i H2 => Same H' H2 ∧ H2 D2 = some (.dK (cellKv 0 (d.cells.take i)))) (fun D hD => ⟨same_new hD, upd_same⟩) (fun D2 i H2 hi ⟨e2, _⟩ => ite_go (by walk_at "sq" : SqT K H2 c (d.cells.map V.int)) (by simpa using hi)) (fun D2 H2 h => ?_) ?_ ?_
      · obtain ⟨e2, _⟩ := h
        have := ite_stop (by walk_at "sq" : SqT K H2 c (d.cells.map V.int))
        rw [List.length_map] at this
        exact this
      · intro D2 i H2 y H3 hD2 hi ⟨e2, hk2⟩ hy
        obtain ⟨t, z, rfl, ht, rfl, hz2⟩ := ite_yld (by walk_at "sq" : SqT K H2 c (d.cells.map V.int)) hy
        have hc2 : d.cells[i]? = some d.cells[i] := List.getElem?_eq_getElem hi
        rw [List.getElem?_map, hc2] at hz2
        cases hz2
        refine ⟨_, _, rfl, SqT.new ht, rfl, ?_⟩
        walk_at "go"
        have hkt : D2 ≠ t := fun z => by rw [z, ht] at hk2; cases hk2
        refine ⟨_, .inl i, rfl, by walk_at "at", ?_, same_own hD2 (by walk_at "sm"), ?_⟩
        · rw [cellKv_length]
          have h3 : (1000 : Nat) < sizeLine := by decide
          have := List.length_take_le i d.cells
          omega
        · rw [upd_same, List.take_succ, hc2]
          have := cellKv_snoc d.cells[i] (d.cells.take i) 0
          have hl : (d.cells.take i).length = i := by simp; omega
          rw [hl, Nat.zero_add] at this
          rw [Option.toList_some, this, putK_new]
          rw [valV_cell, if_pos (Nat.zero_le _)]
          simp
          omega
      · intro D2 H2 hD2 ⟨e2, hk2⟩
        rw [List.take_length] at hk2
        have hne : D ≠ D2 := fun z => by rw [z, hD2] at hk; cases hk
        walk_at "go"
        refine ⟨_, _, _, _, rfl, rfl, by walk_at "at", hk2, hne, ?_, ?_⟩
        · rw [cellKv_length]
          have h3 : (2000 : Nat) < sizeLine := by decide
          simp only [List.length_cons, List.length_nil]
          omega
        rw [merge_disk]
        walk_at "go"
        have e4 : Same H H2 := by walk_at "sm"
        have e5 : Same H (upd H2 D (.dK (diskKv x0 x1 x2 d.cells))) := same_own hD e4
        exact q _ _ e5 ⟨D, rfl, _, _, _, upd_same, h0.same e5, h1.same e5, h2.same e5⟩ (fun b z => by cases z; exact hD)

def sp_closed (K : PySem.W.Frag) : Sp := fun vs H Q _ => ∃ (x : V) (o : Option DiskS), vs = [x] ∧ OAt K H x o ∧ (∀ d, o = some d → d.cells.length ≤ 1000) ∧
  ∀ v H', Same H H' → Rp K H' v (dOpt o) → Q v H'

theorem ok_closed (T : Tx K mg)  : GK P w K mg base "closed" ["cells"] 1 (sp_closed K) [] := gk_mk T.f_closed T.m_closed (by decide +kernel) sc_closed (fun _ _ _ _ _ _ us hl => match us, hl with | [_], _ => rfl) (fun _ _ _ _ h => by obtain ⟨_, _, rfl, _⟩ := h; rfl) fun cdv A outer s H vs Q E hr h => by
  have nd := sc_closed.nd
  refine ⟨_, (pss_cons (ps_if (pt_cmpR op_isN (pv 0) pe_non (nomark _)) (pss_one (ps_ret pe_non)) pss_nil)
  (pss_cons (ps_set (i := 1) nd rfl (Or.inl rfl) (pe_op op_sub (pb_lenD T.b_len (pa_cons (pv 0) pa_nil)) (pb_lenK K T.b_len (pa_cons (pe_gr T.m_METAS) pa_nil))))
  (pss_one (ps_ret (pe_op (op_catTK K) (pb_tupleK K T.b_tuple (pa_cons (pe_w (pe_lc (own := [("place", 2)]) (g := gName 2) (tt := tYes) rfl nd (pi_tupK K (pe_gr T.m_METAS)) (blkOk_by (N := ["cells", "rows", "place", "row"]) (sc := defScope s_closed) (by decide +kernel)) (fun _ _ _ _ _ => (pg_name (i := 2) nd rfl (Or.inl rfl))) (fun _ _ _ _ _ => pts_nil) (fun _ _ _ _ _ => (pe_dget (hu_of hr) (pv 0) (pv 2) (fun _ _ => rfl))))) pa_nil)) (pe_tup (pa_cons (pb_tupleK K T.b_tuple (pa_cons (pe_w (pe_lc (own := [("row", 3)]) (g := gName 3) (tt := tYes) rfl nd (pi_range1 rfl T.b_range (pa_cons (pv 1) pa_nil)) (blkOk_by (N := ["cells", "rows", "place", "row"]) (sc := defScope s_closed) (by decide +kernel)) (fun _ _ _ _ _ => (pg_name (i := 3) nd rfl (Or.inl rfl))) (fun _ _ _ _ _ => pts_nil) (fun _ _ _ _ _ => (pe_dget (hu_of hr) (pv 0) (pv 3) (fun _ _ => rfl))))) pa_nil)) pa_nil))))))), ?_⟩
  obtain ⟨x, o, rfl, hx, hz, q⟩ := h
  cases o with
  | none =>
    cases hx
    walk_at "go"
    exact q _ _ (Same.refl _) .non
  | some d =>
    obtain ⟨a, rfl, x0, x1, x2, ha, h0, h1, h2⟩ := hx
    have hz := hz d rfl
    walk_at "go"
    refine lcA (n := 3) (fun i y _ => [x0, x1, x2][i]? = some y) (by decide) (fun _ _ _ _ _ h => h) (fun i H' hi e => itt_go (T.t_METAS _) hi) (fun H' e => itt_stop (T.t_METAS _)) ?_ ?_
    · intro i H' y H2 hi e hy R hR
      obtain ⟨rfl, hx⟩ := itt_yld (T.t_METAS _) hy
      have ha2 := e _ _ ha
      match i, hi with
      | 0, _ => cases hx; exact ⟨rfl, _, rfl, _, rfl, _, _, rfl, .inl ⟨_, .inr "superblock", .inl ha2, rfl, get_sb.symm⟩, hR _ _ (Same.refl _) rfl⟩
      | 1, _ => cases hx; exact ⟨rfl, _, rfl, _, rfl, _, _, rfl, .inl ⟨_, .inr "log", .inl ha2, rfl, get_lg.symm⟩, hR _ _ (Same.refl _) rfl⟩
      | 2, _ => cases hx; exact ⟨rfl, _, rfl, _, rfl, _, _, rfl, .inl ⟨_, .inr "aside", .inl ha2, rfl, get_as.symm⟩, hR _ _ (Same.refl _) rfl⟩
    · intro p ys H' hp hy e hq
      rw [pvs rfl hq] at hy
      refine ⟨_, _, rfl, .inl ⟨SqL.of hy, fun l hl => ?_⟩⟩
      have hn : ((diskKv x0 x1 x2 d.cells).length : Int) - ([V.str "superblock", V.str "log", V.str "aside"].length : Nat) = d.cells.length := by
        rw [diskKv_length]; simp
      walk_at "go"
      have e3 : Same H (upd H' l (.tup [x0, x1, x2])) := by walk_at "sm"
      refine lcA (n := d.cells.length) (fun i y _ => (d.cells.map V.int)[i]? = some y) (by omega) (fun _ _ _ _ _ h => h) (fun i H' hi e => ?_) (fun H' e => ?_) ?_ ?_
      · show i < _
        omega
      · show _ ≤ _
        omega
      · rintro i H2 y H3 hi e2 ⟨rfl, rfl⟩ R hR
        have hc : d.cells[i]? = some d.cells[i] := List.getElem?_eq_getElem hi
        have hg := get_cell (x0 := x0) (x1 := x1) (x2 := x2) hc
        rw [← Int.zero_add (i : Int)] at hg
        exact ⟨rfl, _, rfl, _, rfl, _, _, rfl, .inl ⟨_, .inl (0 + (i : Int)), .inl (e2 _ _ (e3 _ _ ha)), rfl, hg.symm⟩, hR _ _ (Same.refl _) (by rw [List.getElem?_map, hc]; rfl)⟩
      · intro p2 ys2 H2 hp2 hy2 e2 hq2
        rw [pvs (by simp) hq2] at hy2
        have hl2 : H2 l = some (.tup [x0, x1, x2]) := e2 _ _ upd_same
        have hsq : SqL K H2 p2 (d.cells.map V.int) := SqL.of hy2
        refine ⟨_, _, rfl, .inl ⟨hsq, fun l2 hl3 => ?_⟩⟩
        walk_at "go"
        intro l4 hl4
        have hA : SqT K (upd (upd H2 l2 (.tup (d.cells.map V.int))) l4 (.tup [.ref l2])) l [x0, x1, x2] := by walk_at "sq"
        refine ⟨_, _, _, _, rfl, rfl, hA, SqT.new hl4, by simp, Nat.le_of_ble_eq_true rfl, fun z => (by cases z), fun _ l5 hl5 => ?_⟩
        have t1 : TK K H (upd (upd (upd H2 l2 (.tup (d.cells.map V.int))) l4 (.tup [.ref l2])) l5 (.tup ([x0, x1, x2] ++ [.ref l2]))) := by walk_at "tk"
        refine q _ _ (by walk_at "sm") (.tup (SqT.new hl5) (.cons (h0.tk t1) (.cons (h1.tk t1) (.cons (h2.tk t1) (.cons (.tup (by walk_at "sq") (RpL.ints d.cells)) .nil)))))


end
end WS
set_option Elab.async false
set_option linter.all false
set_option maxRecDepth 100000
set_option maxHeartbeats 4000000
namespace WS
open PySem PySem.Spec PyProof.Rows L2
local macro_rules | `(tactic| walk_at "tdg") => `(tactic| first | (apply tdg0; walk_at "at") | (apply tdg1; walk_at "at") | (apply tdg2; walk_at "at") | (apply tdg3; walk_at "at") | (apply tdg4; walk_at "at") | (apply tdg5; walk_at "at") | (apply tdg6; walk_at "at") | (apply tdg7; walk_at "at") | (apply tdg8; walk_at "at"))
local macro_rules | `(tactic| walk_at "no") => `(tactic| first | assumption | (apply no_by; assumption; walk_at "sm"))
local macro_rules | `(tactic| walk_at "sm") => `(tactic| first | exact Same.refl _ | assumption | (apply same_up; walk_at "no"; walk_at "sm") | (apply same_by; assumption; walk_at "sm"))
local macro_rules | `(tactic| walk_at "tk") => `(tactic| first | exact TK.refl | assumption | (apply tk_up; walk_at "no"; walk_at "tk") | (apply tk_by; assumption; walk_at "tk") | (apply tk_mv; assumption; walk_at "tk"))
local macro_rules | `(tactic| walk_at "mv") => `(tactic| first | exact Mv.refl | assumption | (apply mv_up; walk_at "no"; walk_at "mv") | (apply mv_mv; assumption; walk_at "mv") | (apply mv_by; assumption; walk_at "mv"))
local macro_rules | `(tactic| walk_at "ne") => `(tactic| first | assumption | (refine Ne.symm ?_; assumption))
local macro_rules | `(tactic| walk_at "at") => `(tactic| first | assumption | exact upd_same | (apply at_new; walk_at "no"; walk_at "at") | (apply at_ne; walk_at "ne"; walk_at "at") | (apply at_same; assumption; walk_at "at") | (apply at_mv; assumption; assumption; walk_at "at"))
local macro_rules | `(tactic| walk_at "rp") => `(tactic| first | assumption | exact Rp.non | exact Rp.int _ | exact Rp.str _ | (apply rp_tk; assumption; walk_at "tk"))
local macro_rules | `(tactic| walk_at "sq") => `(tactic| first | assumption | exact (‹Tx _ _›).t_METAS _ | exact (‹Tx _ _›).t_FIELDS _ | exact (‹Tx _ _›).t_LEFT _ | exact (‹Tx _ _›).t_SYMMETRIC _ | (apply SqT.of; walk_at "at") | (apply SqL.of; walk_at "at") | (apply sqt_tk; assumption; walk_at "tk") | (apply sql_sm; assumption; walk_at "sm"))
local macro_rules | `(tactic| walk_at "sd") => `(tactic| first | rfl | omega | assumption | decide)
local macro_rules | `(tactic| walk_at "fld") => `(tactic| first | refine ⟨_, _, _, _, _, rfl, (by walk_at "at" : _ = some _), (‹Tx _ _›).c_Cells, (‹Tx _ _›).n_Cells_disks, rfl, ?_⟩ | refine ⟨_, _, _, _, _, rfl, (by walk_at "at" : _ = some _), (‹Tx _ _›).c_Cells, (‹Tx _ _›).n_Cells_done, rfl, ?_⟩ | refine ⟨_, _, _, _, _, rfl, (by walk_at "at" : _ = some _), (‹Tx _ _›).c_Cells, (‹Tx _ _›).n_Cells_begun, rfl, ?_⟩ | refine ⟨_, _, _, _, _, rfl, (by walk_at "at" : _ = some _), (‹Tx _ _›).c_Cells, (‹Tx _ _›).n_Cells_is_loose, rfl, ?_⟩ | refine ⟨_, _, _, _, _, rfl, (by walk_at "at" : _ = some _), (‹Tx _ _›).c_State, (‹Tx _ _›).n_State_cells, rfl, ?_⟩ | refine ⟨_, _, _, _, _, rfl, (by walk_at "at" : _ = some _), (‹Tx _ _›).c_State, (‹Tx _ _›).n_State_own_superblock, rfl, ?_⟩ | refine ⟨_, _, _, _, _, rfl, (by walk_at "at" : _ = some _), (‹Tx _ _›).c_Array, (‹Tx _ _›).n_Array_state, rfl, ?_⟩)
local macro_rules | `(tactic| walk_at "w") => `(tactic| first | refine ⟨_, rfl, ⟨_, (by walk_at "sq" : SqT _ _ _ _)⟩, ?_⟩ | refine ⟨_, rfl, ⟨_, (by walk_at "sq" : SqL _ _ _ _)⟩, ?_⟩ | refine ⟨_, rfl, ?_⟩ | refine ⟨_, _, rfl, rfl, ?_⟩ | refine ⟨rfl, ?_⟩ | refine ⟨_, _, rfl, (by walk_at "sq" : SqT _ _ _ _), rfl, ?_⟩ | refine ⟨_, _, rfl, (by walk_at "sq" : SqT _ _ _ _), ?_⟩ | refine ⟨_, _, rfl, (by walk_at "sq" : SqL _ _ _ _), ?_⟩ | refine ⟨_, _, rfl, (by walk_at "tdg" : DGet _ _ _ _), ?_⟩ | refine ⟨_, _, rfl, ?_⟩ | refine ⟨_, _, _, _, rfl, rfl, (by walk_at "sq" : SqT _ _ _ _), rfl, ?_⟩ | refine ⟨_, _, rfl, .inl (by walk_at "sq" : SqL _ _ _ _), rfl, rfl, ?_⟩ | refine ⟨_, _, rfl, .inr (by walk_at "sq" : SqT _ _ _ _), rfl, rfl, ?_⟩ | refine ⟨_, _, rfl, .inl (by walk_at "sq" : SqL _ _ _ _), ?_⟩ | refine ⟨_, _, rfl, .inr (by walk_at "sq" : SqT _ _ _ _), ?_⟩ | refine ⟨_, _, rfl, (by walk_at "at" : _ = some (HO.dK _)), ?_⟩ | refine ⟨_, _, _, _, rfl, rfl, (by walk_at "sq" : SqL _ _ _ _), rfl, ?_⟩ | refine ⟨_, _, _, rfl, (by walk_at "at" : _ = some _), rfl, ?_⟩ | refine ⟨_, _, _, rfl, ?_⟩ | walk_at "fld" | refine ty_d (by walk_at "at") ?_ | refine ty_l (by walk_at "sq") ?_ | refine ty_t (‹Tx _ _›).z_FIELDS ?_ | refine And.intro (by first | omega | decide | exact Nat.le_of_ble_eq_true rfl | (unfold CDiv; omega) | (unfold CMul; omega)) ?_)
local macro_rules | `(tactic| walk_at "go") => `(tactic| repeat walk_at "w")
section
variable {P : Program} {w : World} {K : PySem.W.Frag} {mg : Str → Option Value} {base : Heap}

theorem rp2 {H : Hp} {v : V} {d0 d1 : PyData} (h : Rp K H v (.tuple [d0, d1])) : ∃ a x0 x1, v = .ref a ∧ SqT K H a [x0, x1] ∧ Rp K H x0 d0 ∧ Rp K H x1 d1 := by
  obtain ⟨a, xs, rfl, hs, hr⟩ := Rp.tup_eq h
  cases hr with
  | cons h0 t =>
  cases t with
  | cons h1 t =>
  cases t
  exact ⟨a, _, _, rfl, hs, h0, h1⟩
theorem rp1 {H : Hp} {v : V} {d0 : PyData} (h : Rp K H v (.tuple [d0])) : ∃ a x0, v = .ref a ∧ SqT K H a [x0] ∧ Rp K H x0 d0 := by
  obtain ⟨a, xs, rfl, hs, hr⟩ := Rp.tup_eq h
  cases hr with
  | cons h0 t =>
  cases t
  exact ⟨a, _, rfl, hs, h0⟩
theorem rp3 {H : Hp} {v : V} {d0 d1 d2 : PyData} (h : Rp K H v (.tuple [d0, d1, d2])) : ∃ a x0 x1 x2, v = .ref a ∧ SqT K H a [x0, x1, x2] ∧ Rp K H x0 d0 ∧ Rp K H x1 d1 ∧ Rp K H x2 d2 := by
  obtain ⟨a, xs, rfl, hs, hr⟩ := Rp.tup_eq h
  cases hr with
  | cons h0 t =>
  cases t with
  | cons h1 t =>
  cases t with
  | cons h2 t =>
  cases t
  exact ⟨a, _, _, _, rfl, hs, h0, h1, h2⟩
theorem rp4 {H : Hp} {v : V} {d0 d1 d2 d3 : PyData} (h : Rp K H v (.tuple [d0, d1, d2, d3])) : ∃ a x0 x1 x2 x3, v = .ref a ∧ SqT K H a [x0, x1, x2, x3] ∧ Rp K H x0 d0 ∧ Rp K H x1 d1 ∧ Rp K H x2 d2 ∧ Rp K H x3 d3 := by
  obtain ⟨a, xs, rfl, hs, hr⟩ := Rp.tup_eq h
  cases hr with
  | cons h0 t =>
  cases t with
  | cons h1 t =>
  cases t with
  | cons h2 t =>
  cases t with
  | cons h3 t =>
  cases t
  exact ⟨a, _, _, _, _, rfl, hs, h0, h1, h2, h3⟩
theorem nd_inj {α : Type} : ∀ {xs : List α} {i j : Nat} {x : α}, xs.Nodup → xs[i]? = some x → xs[j]? = some x → i = j
  | [], _, _, _, _, h, _ => by simp at h
  | y :: ys, 0, 0, _, _, _, _ => rfl
  | y :: ys, 0, j + 1, x, n, h, g => by
    simp at h g
    subst h
    exact absurd (List.mem_of_getElem? g) (List.nodup_cons.mp n).1
  | y :: ys, i + 1, 0, x, n, h, g => by
    simp at h g
    subst g
    exact absurd (List.mem_of_getElem? h) (List.nodup_cons.mp n).1
  | y :: ys, i + 1, j + 1, x, n, h, g => by
    exact congrArg (· + 1) (nd_inj (List.nodup_cons.mp n).2 (by simpa using h) (by simpa using g))
/-- one disk is changed -/
theorem DsAt.put {H : Hp} {dl a : Addr} {as : List Addr} {ds : List DiskS} {k : Nat} {d d' : DiskS} {kvs : List (Key × V)} {f : DiskS → DiskS} (h : DsAt K H dl as ds) (ha : as[k]? = some a) (hd : ds[k]? = some d) (hf : f d = d')
    (hn : DAt K (upd H a (.dK kvs)) a d') (h0 : ∃ kvs, H a = some (.dK kvs)) : DsAt K (upd H a (.dK kvs)) dl as (ds.modify k f) ∧ Mv K as H (upd H a (.dK kvs)) := by
  obtain ⟨kv0, h0⟩ := h0
  have mv : Mv K as H (upd H a (.dK kvs)) := Mv.dK h0 (List.mem_of_getElem? ha)
  refine ⟨⟨?_, h.n6, ?_, h.nd, ?_⟩, mv⟩
  · rw [upd_ne (fun z => by have := h.dl; rw [z, h0] at this; cases this)]
    exact h.dl
  · simpa using h.m6
  · intro i b e hb he
    by_cases hik : i = k
    · subst hik
      rw [ha] at hb
      cases hb
      rw [List.getElem?_modify] at he
      simp [hd, hf] at he
      subst he
      exact hn
    · have hki : ¬ k = i := fun z => hik z.symm
      rw [List.getElem?_modify] at he
      have he : ds[i]? = some e := by simpa [hki] using he
      have hne : b ≠ a := fun z => hik (by
        subst z
        exact nd_inj h.nd hb ha)
      exact (h.ds i b e hb he).to (fun _ q => by rw [upd_ne hne]; exact q) mv.t
theorem DsAt.get {H : Hp} {dl : Addr} {as : List Addr} {ds : List DiskS} {k : Nat} (h : DsAt K H dl as ds) (hk : k < 6) : ∃ a d, as[k]? = some a ∧ ds[k]? = some d ∧ DAt K H a d := by
  have h1 : as[k]? = some (as[k]'(by rw [h.n6]; exact hk)) := List.getElem?_eq_getElem _
  have h2 : ds[k]? = some (ds[k]'(by rw [h.m6]; exact hk)) := List.getElem?_eq_getElem _
  exact ⟨_, _, h1, h2, h.ds k _ _ h1 h2⟩
theorem dl_at {as : List Addr} {k : Nat} {a : Addr} (hn : as.length = 6) (ha : as[k]? = some a) : atI (as.map V.ref ++ [V.non, .non]) (k : Int) = some (.ref a) := by
  have hk : k < as.length := (List.getElem?_eq_some_iff.mp ha).1
  have h1 : ixN (as.map V.ref ++ [V.non, .non]).length (k : Int) = some k := by
    unfold ixN
    rw [if_pos (by omega), if_pos (by simp; omega)]
    simp
  unfold atI
  rw [h1]
  show (as.map V.ref ++ [V.non, .non])[k]? = _
  rw [List.getElem?_append_left (by simpa using hk), List.getElem?_map, ha]
  rfl
def sp_done_to (K : PySem.W.Frag) : Sp := fun vs H Q _ => ∃ (v : V) (dl : Addr) (as : List Addr) (ds : List DiskS) (e : En) (R : Nat), vs = [.ref dl, v] ∧ DsAt K H dl as ds ∧ Rp K H v e.d ∧ e.ok R ∧ (∀ d ∈ ds, d.ok R) ∧ R ≤ 1000 ∧
  ∀ H', Mv K as H H' → DsAt K H' dl as (ap1 ds e) → Q .non H'

theorem ok_done_to (T : Tx K mg)  : GK P w K mg base "done_to" ["disks", "entry"] 1 (sp_done_to K) [] := gk_mk T.f_done_to T.m_done_to (by decide +kernel) sc_done_to (fun _ _ _ _ _ _ us hl => match us, hl with | [_, _], _ => rfl) (fun _ _ _ _ h => by obtain ⟨_, _, _, _, _, _, rfl, _⟩ := h; rfl) fun cdv A outer s H vs Q E hr h => by
  have nd := sc_done_to.nd
  refine ⟨_, (pss_one (ps_if (pt_cmpR op_eq (pe_ix (ix_tupK K) (pv 1) pe_int (fun _ _ => rfl)) pe_str (nomark _)) (pss_one (ps_dput (hu_of hr) (pe_ix (ix_listK K) (pv 0) (pe_ix (ix_tupK K) (pv 1) pe_int (fun _ _ => rfl)) (fun _ _ => rfl)) (pe_ix (ix_tupK K) (pv 1) pe_int (fun _ _ => rfl)) (pe_ix (ix_tupK K) (pv 1) pe_int (fun _ _ => rfl)) rfl)) (pss_one (ps_if (pt_cmpR op_eq (pe_ix (ix_tupK K) (pv 1) pe_int (fun _ _ => rfl)) pe_str (nomark _)) pss_never (pss_one (ps_if (pt_cmpR op_eq (pe_ix (ix_tupK K) (pv 1) pe_int (fun _ _ => rfl)) pe_str (nomark _)) pss_never (pss_one (ps_if (pt_cmpR op_eq (pe_ix (ix_tupK K) (pv 1) pe_int (fun _ _ => rfl)) pe_str (nomark _)) pss_never pss_nil)))))))), ?_⟩
  obtain ⟨v, dl, as, ds, e, R, rfl, hds, hv, he, hR, hR1, q⟩ := h
  have hdl := hds.dl
  cases e with
  | flush =>
    obtain ⟨a, x0, rfl, hs, r0⟩ := rp1 hv
    cases r0
    walk_at "go"
    exact q _ .refl hds
  | bg b v =>
    obtain ⟨a, x0, x1, x2, rfl, hs, r0, r1, r2⟩ := rp3 hv
    cases r0
    walk_at "go"
    exact q _ .refl hds
  | dn b =>
    obtain ⟨a, x0, x1, rfl, hs, r0, r1⟩ := rp2 hv
    cases r0
    walk_at "go"
    exact q _ .refl hds
  | data k r x =>
    obtain ⟨a, x0, x1, x2, x3, rfl, hs, r0, r1, r2, r3⟩ := rp4 hv
    cases r0
    cases r1
    cases r2
    cases r3
    obtain ⟨b, d, hb, hd, y0, y1, y2, hy, p0, p1, p2⟩ := hds.get he.1
    have hdR := hR d (List.mem_of_getElem? hd)
    have hz : (diskKv y0 y1 y2 d.cells).length < sizeLine := by
      have h3 : (2000 : Nat) < sizeLine := by decide
      rw [diskKv_length, hdR.n]
      omega
    walk_at "go"
    refine ⟨_, _, _, _, rfl, rfl, SqL.of hdl, dl_at hds.n6 hb, ?_⟩
    walk_at "go"
    refine ⟨_, _, rfl, .inl ⟨_, .inl (r : Int), hy, rfl, hz, rfl⟩, ?_⟩
    rw [put_cell x (by rw [hdR.n]; exact he.2)]
    have e5 : TK K H (upd H b (.dK (diskKv y0 y1 y2 (d.cells.set r x)))) := tk_upd hy (fun _ z => by cases z) (fun _ _ z => by cases z)
    obtain ⟨g1, g2⟩ := hds.put (f := fun d => d.putC r x) (kvs := diskKv y0 y1 y2 (d.cells.set r x)) hb hd rfl ⟨_, _, _, upd_same, p0.tk e5, p1.tk e5, p2.tk e5⟩ ⟨_, hy⟩
    exact q _ g2 g1
  | meta_ k m c =>
    obtain ⟨a, x0, x1, x2, x3, rfl, hs, r0, r1, r2, r3⟩ := rp4 hv
    cases r0
    cases r1
    cases r2
    obtain ⟨b, d, hb, hd, y0, y1, y2, hy, p0, p1, p2⟩ := hds.get he.1
    have hdR := hR d (List.mem_of_getElem? hd)
    have hz : (diskKv y0 y1 y2 d.cells).length < sizeLine := by
      have h3 : (2000 : Nat) < sizeLine := by decide
      rw [diskKv_length, hdR.n]
      omega
    walk_at "go"
    refine ⟨_, _, _, _, rfl, rfl, SqL.of hdl, dl_at hds.n6 hb, ?_⟩
    walk_at "go"
    refine ⟨_, _, rfl, .inl ⟨_, .inr m.s, hy, rfl, hz, rfl⟩, ?_⟩
    have e5 : ∀ o, TK K H (upd H b o) := fun o => tk_upd hy (fun _ z => by cases z) (fun _ _ z => by cases z)
    cases m with
    | sb =>
      rw [put_sb]
      obtain ⟨g1, g2⟩ := hds.put (f := fun d => d.putM .sb c) (kvs := diskKv x3 y1 y2 d.cells) hb hd rfl ⟨_, _, _, upd_same, r3.tk (e5 _), p1.tk (e5 _), p2.tk (e5 _)⟩ ⟨_, hy⟩
      exact q _ g2 g1
    | lg =>
      rw [put_lg]
      obtain ⟨g1, g2⟩ := hds.put (f := fun d => d.putM .lg c) (kvs := diskKv y0 x3 y2 d.cells) hb hd rfl ⟨_, _, _, upd_same, p0.tk (e5 _), r3.tk (e5 _), p2.tk (e5 _)⟩ ⟨_, hy⟩
      exact q _ g2 g1
    | as =>
      rw [put_as]
      obtain ⟨g1, g2⟩ := hds.put (f := fun d => d.putM .as c) (kvs := diskKv y0 y1 x3 d.cells) hb hd rfl ⟨_, _, _, upd_same, p0.tk (e5 _), p1.tk (e5 _), r3.tk (e5 _)⟩ ⟨_, hy⟩
      exact q _ g2 g1

/-- the cells since the last flush -/
def looseF : Nat → List Int → List En → List Int
  | _, acc, [] => acc
  | i, _, .flush :: es => looseF (i + 1) [] es
  | i, acc, .data _ _ _ :: es => looseF (i + 1) (acc ++ [(i : Int)]) es
  | i, acc, .meta_ _ _ _ :: es => looseF (i + 1) (acc ++ [(i : Int)]) es
  | i, acc, _ :: es => looseF (i + 1) acc es
def looseAt (es : List En) : List Int := looseF 0 [] es
def isCell : En → Bool
  | .data _ _ _ => true
  | .meta_ _ _ _ => true
  | _ => false
def looseS (acc : List Int) (i : Nat) (e : En) : List Int := match e with
  | .flush => []
  | .data _ _ _ => acc ++ [(i : Int)]
  | .meta_ _ _ _ => acc ++ [(i : Int)]
  | _ => acc
theorem looseF_snoc (e : En) : ∀ (es : List En) (i : Nat) (acc : List Int), looseF i acc (es ++ [e]) = looseS (looseF i acc es) (i + es.length) e
  | [], i, acc => by cases e <;> simp [looseF, looseS]
  | x :: es, i, acc => by
    have h : ∀ acc, looseF (i + 1) acc (es ++ [e]) = looseS (looseF (i + 1) acc es) (i + (es.length + 1)) e := fun acc => by
      rw [looseF_snoc e es (i + 1) acc]
      have : i + 1 + es.length = i + (es.length + 1) := by omega
      rw [this]
    cases x <;> simp only [List.cons_append, looseF, h, List.length_cons]
theorem looseAt_snoc (es : List En) (e : En) : looseAt (es ++ [e]) = looseS (looseAt es) es.length e := by
  unfold looseAt
  rw [looseF_snoc, Nat.zero_add]
theorem looseF_len : ∀ (es : List En) (i : Nat) (acc : List Int), (looseF i acc es).length ≤ acc.length + es.length
  | [], i, acc => by simp [looseF]
  | x :: es, i, acc => by
    have h1 := looseF_len es (i + 1) acc
    have h2 := looseF_len es (i + 1) []
    have h3 := looseF_len es (i + 1) (acc ++ [(i : Int)])
    simp only [List.length_append, List.length_cons, List.length_nil] at h1 h2 h3
    cases x <;> simp only [looseF, List.length_cons] <;> omega
theorem looseAt_len (es : List En) : (looseAt es).length ≤ es.length := by
  have h := looseF_len es 0 []
  rw [List.length_nil, Nat.zero_add] at h
  exact h
def sp_loose_at (K : PySem.W.Frag) : Sp := fun vs H Q _ => ∃ (a : Addr) (xs : List V) (es : List En) (n : Nat), vs = [.ref a, .int n] ∧ H a = some (.lst xs) ∧ RpL K H xs (es.map En.d) ∧ es.length ≤ 10000 ∧ n ≤ es.length ∧
  ∀ p H', H p = none → Same H H' → H' p = some (.lst ((looseAt (es.take n)).map V.int)) → Q (.ref p) H'

theorem ok_loose_at (T : Tx K mg)  : GK P w K mg base "loose_at" ["trace", "after"] 1 (sp_loose_at K) [] := gk_mk T.f_loose_at T.m_loose_at (by decide +kernel) sc_loose_at (fun _ _ _ _ _ _ us hl => match us, hl with | [_, _], _ => rfl) (fun _ _ _ _ h => by obtain ⟨_, _, _, _, rfl, _⟩ := h; rfl) fun cdv A outer s H vs Q E hr h => by
  have nd := sc_loose_at.nd
  refine ⟨_, (pss_cons (ps_set (i := 2) nd rfl (Or.inl rfl) (pe_lst pa_nil))
  (pss_cons (ps_wf (ps_for PassesOwn.never rfl (pi_enum rfl T.b_enumerate (pa_cons (pe_slice (sl_listK K) (pv 0) po_none (po_some (pv 1))) pa_nil)) (pg_tupK K 2 rfl (pgs_cons (pg_name (i := 3) nd rfl (Or.inl rfl)) (pgs_cons (pg_name (i := 4) nd rfl (Or.inl rfl)) pgs_nil))) (pss_one (ps_if (pt_cmpR op_eq (pe_ix (ix_tupK K) (pv 4) pe_int (fun _ _ => rfl)) pe_str (nomark _)) (pss_one (ps_set (i := 2) nd rfl (Or.inl rfl) (pe_lst pa_nil))) (pss_one (ps_if (pt_cmpR op_eq (pe_ix (ix_tupK K) (pv 4) pe_int (fun _ _ => rfl)) pe_str (nomark _)) (pss_one (ps_expr (pe_bm PySem.F.plainAttrs_list PySem.F.slot_list_append PySem.F.type_list_append mt_append (pv 2) (pa_cons (pv 3) pa_nil)))) pss_nil))))))
  (pss_one (ps_ret (pv 2))))), ?_⟩
  obtain ⟨a, xs, es, n, rfl, ha, hr, hl, hn, q⟩ := h
  walk_at "go"
  intro f hf
  walk_at "go"
  intro p hp
  rw [cut_to]
  walk_at "go"
  have hfp : f ≠ p := fun z => by rw [z, upd_same] at hp; cases hp
  have hpl : (xs.take n).length = n := by
    have := hr.length
    rw [List.length_map] at this
    rw [List.length_take]
    omega
  refine forG (n := n) (fun i σ H' => ∃ f s3 s4, σ = [some (.ref a), some (.int n), some (.ref f), s3, s4] ∧ H f = none ∧ H' f = some (.lst ((looseAt (es.take i)).map V.int)) ∧ Same H H' ∧ H' p = some (.lst (xs.take n)) ∧ f ≠ p)
    ⟨f, none, none, rfl, hf, by walk_at "at", by walk_at "sm", by walk_at "at", hfp⟩ (fun i σ H' hi ⟨f, _, _, _, _, _, _, h, _⟩ => iel_go (SqL.of h) (by omega)) (fun σ H' ⟨f, _, _, _, _, _, _, h, _⟩ => ?_) ?_ ?_
  · have := iel_stop (K := K) (SqL.of h)
    rw [hpl] at this
    exact this
  · rintro i σ H' x H2 hi ⟨f, s3, s4, rfl, hf, hf2, e, hp2, hne⟩ hy
    obtain ⟨t, z, rfl, ht, rfl, hz⟩ := iel_yld (SqL.of hp2) hy
    have hftn : f ≠ t := fun z => by rw [z, ht] at hf2; cases hf2
    have hpt : p ≠ t := fun z => by rw [z, ht] at hp2; cases hp2
    rw [List.getElem?_take, if_pos hi] at hz
    obtain ⟨d, hd, hrz⟩ := hr.getV hz
    rw [List.getElem?_map, Option.map_eq_some_iff] at hd
    obtain ⟨en, hen, rfl⟩ := hd
    have hrz2 : Rp K (upd H' t (.tup [.int (i : Nat), z])) z en.d := by walk_at "rp"
    have hsn : looseAt (es.take (i + 1)) = looseS (looseAt (es.take i)) i en := by
      rw [List.take_succ, hen, Option.toList_some, looseAt_snoc, List.length_take]
      congr 1
      have := (List.getElem?_eq_some_iff.mp hen).1
      omega
    have hll : ((looseAt (es.take i)).map V.int).length < sizeLine := by
      have h3 : (10000 : Nat) < sizeLine := by decide
      have h4 := looseAt_len (es.take i)
      rw [List.length_take] at h4
      rw [List.length_map]
      omega
    refine ⟨_, _, rfl, SqT.new ht, rfl, ?_⟩
    cases en with
    | flush =>
      obtain ⟨b, x0, rfl, hs, r0⟩ := rp1 hrz2
      cases r0
      walk_at "go"
      intro f2 hf2n
      exact ⟨f2, _, _, rfl, by walk_at "no", by rw [upd_same, hsn]; rfl, by walk_at "sm", by walk_at "at", fun z => by rw [z, upd_ne hpt, hp2] at hf2n; cases hf2n⟩
    | bg b v =>
      obtain ⟨b, x0, x1, x2, rfl, hs, r0, _⟩ := rp3 hrz2
      cases r0
      walk_at "go"
      first
        | exact ⟨f, _, _, rfl, hf, by rw [upd_ne hftn, hf2, hsn]; rfl, by walk_at "sm", by walk_at "at", hne⟩
        | exact ⟨hf, by rw [upd_ne hftn, hf2, hsn]; rfl, by walk_at "sm", by walk_at "at", hne⟩
        | exact ⟨by rw [upd_ne hftn, hf2, hsn]; rfl, by walk_at "sm", by walk_at "at", hne⟩
    | dn b =>
      obtain ⟨b, x0, x1, rfl, hs, r0, _⟩ := rp2 hrz2
      cases r0
      walk_at "go"
      first
        | exact ⟨f, _, _, rfl, hf, by rw [upd_ne hftn, hf2, hsn]; rfl, by walk_at "sm", by walk_at "at", hne⟩
        | exact ⟨hf, by rw [upd_ne hftn, hf2, hsn]; rfl, by walk_at "sm", by walk_at "at", hne⟩
        | exact ⟨by rw [upd_ne hftn, hf2, hsn]; rfl, by walk_at "sm", by walk_at "at", hne⟩
    | data k r x =>
      obtain ⟨b, x0, x1, x2, x3, rfl, hs, r0, _⟩ := rp4 hrz2
      cases r0
      walk_at "go"
      refine ⟨_, _, _, rfl, rfl, by walk_at "at", hll, ?_⟩
      exact ⟨f, _, _, rfl, hf, by rw [upd_same, hsn, looseS, List.map_append]; rfl, same_own hf (by walk_at "sm"), by walk_at "at", hne⟩
    | meta_ k m c =>
      obtain ⟨b, x0, x1, x2, x3, rfl, hs, r0, _⟩ := rp4 hrz2
      cases r0
      walk_at "go"
      refine ⟨_, _, _, rfl, rfl, by walk_at "at", hll, ?_⟩
      exact ⟨f, _, _, rfl, hf, by rw [upd_same, hsn, looseS, List.map_append]; rfl, same_own hf (by walk_at "sm"), by walk_at "at", hne⟩
  · rintro σ H' ⟨f, s3, s4, rfl, hf, hf2, e, hp2, hne⟩
    walk_at "go"
    exact q f H' hf e hf2


end
end WS
set_option Elab.async false
set_option linter.all false
set_option maxRecDepth 100000
set_option maxHeartbeats 4000000
namespace WS
open PySem PySem.Spec PyProof.Rows L2
local macro_rules | `(tactic| walk_at "tdg") => `(tactic| first | (apply tdg0; walk_at "at") | (apply tdg1; walk_at "at") | (apply tdg2; walk_at "at") | (apply tdg3; walk_at "at") | (apply tdg4; walk_at "at") | (apply tdg5; walk_at "at") | (apply tdg6; walk_at "at") | (apply tdg7; walk_at "at") | (apply tdg8; walk_at "at"))
local macro_rules | `(tactic| walk_at "no") => `(tactic| first | assumption | (apply no_by; assumption; walk_at "sm"))
local macro_rules | `(tactic| walk_at "sm") => `(tactic| first | exact Same.refl _ | assumption | (apply same_up; walk_at "no"; walk_at "sm") | (apply same_by; assumption; walk_at "sm"))
local macro_rules | `(tactic| walk_at "tk") => `(tactic| first | exact TK.refl | assumption | (apply tk_up; walk_at "no"; walk_at "tk") | (apply tk_by; assumption; walk_at "tk") | (apply tk_mv; assumption; walk_at "tk"))
local macro_rules | `(tactic| walk_at "mv") => `(tactic| first | exact Mv.refl | assumption | (apply mv_up; walk_at "no"; walk_at "mv") | (apply mv_mv; assumption; walk_at "mv") | (apply mv_by; assumption; walk_at "mv"))
local macro_rules | `(tactic| walk_at "ne") => `(tactic| first | assumption | (refine Ne.symm ?_; assumption))
local macro_rules | `(tactic| walk_at "at") => `(tactic| first | assumption | exact upd_same | (apply at_new; walk_at "no"; walk_at "at") | (apply at_ne; walk_at "ne"; walk_at "at") | (apply at_same; assumption; walk_at "at") | (apply at_mv; assumption; assumption; walk_at "at"))
local macro_rules | `(tactic| walk_at "rp") => `(tactic| first | assumption | exact Rp.non | exact Rp.int _ | exact Rp.str _ | (apply rp_tk; assumption; walk_at "tk"))
local macro_rules | `(tactic| walk_at "sq") => `(tactic| first | assumption | exact (‹Tx _ _›).t_METAS _ | exact (‹Tx _ _›).t_FIELDS _ | exact (‹Tx _ _›).t_LEFT _ | exact (‹Tx _ _›).t_SYMMETRIC _ | (apply SqT.of; walk_at "at") | (apply SqL.of; walk_at "at") | (apply sqt_tk; assumption; walk_at "tk") | (apply sql_sm; assumption; walk_at "sm"))
local macro_rules | `(tactic| walk_at "sd") => `(tactic| first | rfl | omega | assumption | decide)
local macro_rules | `(tactic| walk_at "fld") => `(tactic| first | refine ⟨_, _, _, _, _, rfl, (by walk_at "at" : _ = some _), (‹Tx _ _›).c_Cells, (‹Tx _ _›).n_Cells_disks, rfl, ?_⟩ | refine ⟨_, _, _, _, _, rfl, (by walk_at "at" : _ = some _), (‹Tx _ _›).c_Cells, (‹Tx _ _›).n_Cells_done, rfl, ?_⟩ | refine ⟨_, _, _, _, _, rfl, (by walk_at "at" : _ = some _), (‹Tx _ _›).c_Cells, (‹Tx _ _›).n_Cells_begun, rfl, ?_⟩ | refine ⟨_, _, _, _, _, rfl, (by walk_at "at" : _ = some _), (‹Tx _ _›).c_Cells, (‹Tx _ _›).n_Cells_is_loose, rfl, ?_⟩ | refine ⟨_, _, _, _, _, rfl, (by walk_at "at" : _ = some _), (‹Tx _ _›).c_State, (‹Tx _ _›).n_State_cells, rfl, ?_⟩ | refine ⟨_, _, _, _, _, rfl, (by walk_at "at" : _ = some _), (‹Tx _ _›).c_State, (‹Tx _ _›).n_State_own_superblock, rfl, ?_⟩ | refine ⟨_, _, _, _, _, rfl, (by walk_at "at" : _ = some _), (‹Tx _ _›).c_Array, (‹Tx _ _›).n_Array_state, rfl, ?_⟩)
local macro_rules | `(tactic| walk_at "w") => `(tactic| first | refine ⟨_, rfl, ⟨_, (by walk_at "sq" : SqT _ _ _ _)⟩, ?_⟩ | refine ⟨_, rfl, ⟨_, (by walk_at "sq" : SqL _ _ _ _)⟩, ?_⟩ | refine ⟨_, rfl, ?_⟩ | refine ⟨_, _, rfl, rfl, ?_⟩ | refine ⟨rfl, ?_⟩ | refine ⟨_, _, rfl, (by walk_at "sq" : SqT _ _ _ _), rfl, ?_⟩ | refine ⟨_, _, rfl, (by walk_at "sq" : SqT _ _ _ _), ?_⟩ | refine ⟨_, _, rfl, (by walk_at "sq" : SqL _ _ _ _), ?_⟩ | refine ⟨_, _, rfl, (by walk_at "tdg" : DGet _ _ _ _), ?_⟩ | refine ⟨_, _, rfl, ?_⟩ | refine ⟨_, _, _, _, rfl, rfl, (by walk_at "sq" : SqT _ _ _ _), rfl, ?_⟩ | refine ⟨_, _, rfl, .inl (by walk_at "sq" : SqL _ _ _ _), rfl, rfl, ?_⟩ | refine ⟨_, _, rfl, .inr (by walk_at "sq" : SqT _ _ _ _), rfl, rfl, ?_⟩ | refine ⟨_, _, rfl, .inl (by walk_at "sq" : SqL _ _ _ _), ?_⟩ | refine ⟨_, _, rfl, .inr (by walk_at "sq" : SqT _ _ _ _), ?_⟩ | refine ⟨_, _, rfl, (by walk_at "at" : _ = some (HO.dK _)), ?_⟩ | refine ⟨_, _, _, _, rfl, rfl, (by walk_at "sq" : SqL _ _ _ _), rfl, ?_⟩ | refine ⟨_, _, _, rfl, (by walk_at "at" : _ = some _), rfl, ?_⟩ | refine ⟨_, _, _, rfl, ?_⟩ | walk_at "fld" | refine ty_d (by walk_at "at") ?_ | refine ty_l (by walk_at "sq") ?_ | refine ty_t (‹Tx _ _›).z_FIELDS ?_ | refine And.intro (by first | omega | decide | exact Nat.le_of_ble_eq_true rfl | (unfold CDiv; omega) | (unfold CMul; omega)) ?_)
local macro_rules | `(tactic| walk_at "go") => `(tactic| repeat walk_at "w")
section
variable {P : Program} {w : World} {K : PySem.W.Frag} {mg : Str → Option Value} {base : Heap}

section
variable {H H' : Hp} {A : Ad} {c : CeS}
theorem DsAt.isdk {dl a : Addr} {as : List Addr} {ds : List DiskS} (h : DsAt K H dl as ds) (ha : a ∈ as) : ∃ kvs, H a = some (.dK kvs) := by
  obtain ⟨i, hi⟩ := List.getElem?_of_mem ha
  have hl : i < as.length := (List.getElem?_eq_some_iff.mp hi).1
  obtain ⟨b, d, h1, h2, x0, x1, x2, h3, _⟩ := h.get (k := i) (by rw [← h.n6]; exact hl)
  rw [hi] at h1
  cases h1
  exact ⟨_, h3⟩
theorem CellsAt.cs_ds (h : CellsAt K H A c) : A.cs ∉ A.ds := fun m => by
  obtain ⟨_, q⟩ := h.ds.isdk m
  rw [h.cs] at q
  cases q
theorem CellsAt.dn_ds (h : CellsAt K H A c) : A.dn ∉ A.ds := fun m => by
  obtain ⟨_, q⟩ := h.ds.isdk m
  obtain ⟨_, h1, _⟩ := h.dn
  rw [h1] at q
  cases q
theorem CellsAt.dl_ds (h : CellsAt K H A c) : A.dl ∉ A.ds := fun m => by
  obtain ⟨_, q⟩ := h.ds.isdk m
  rw [h.ds.dl] at q
  cases q
theorem CellsAt.cs_dn (h : CellsAt K H A c) : A.cs ≠ A.dn := fun m => by
  obtain ⟨_, h1, _⟩ := h.dn
  rw [← m, h.cs] at h1
  cases h1
theorem CellsAt.cs_dl (h : CellsAt K H A c) : A.cs ≠ A.dl := fun m => by
  have := h.ds.dl
  rw [← m, h.cs] at this
  cases this
theorem CellsAt.dl_G (h : CellsAt K H A c) : A.dl ∉ A.G := by
  simp only [Ad.G, List.mem_cons, not_or]
  exact ⟨fun z => h.cs_dl z.symm, h.ne, h.dl_ds⟩
theorem CellsAt.setDs {ds : List DiskS} (h : CellsAt K H A c) (m : Mv K A.ds H H') (d : DsAt K H' A.dl A.ds ds) : CellsAt K H' A { c with disks := ds } := by
  obtain ⟨es, h1, h2⟩ := h.dn
  exact ⟨m.at h.cs h.cs_ds, d, ⟨es, m.at h1 h.dn_ds, h2.tk m.t⟩, h.bv.tk m.t, h.ne⟩
theorem CellsAt.setDn {es : List V} {e : En} {v : V} (h : CellsAt K H A c) (h1 : H A.dn = some (.lst es)) (hv : Rp K H v e.d) :
    CellsAt K (upd H A.dn (.lst (es ++ [v]))) A { c with done := c.done ++ [e] } ∧ Mv K A.G H (upd H A.dn (.lst (es ++ [v]))) := by
  obtain ⟨es2, h3, h2⟩ := h.dn
  rw [h1] at h3
  cases h3
  have m : Mv K [A.dn] H (upd H A.dn (.lst (es ++ [v]))) := Mv.lst h1 (by simp)
  refine ⟨⟨m.at h.cs (by simpa using h.cs_dn), h.ds.to m (by simpa using h.ne) (fun a ha z => h.dn_ds (List.mem_singleton.mp z ▸ ha)), ⟨_, upd_same, ?_⟩, h.bv.tk m.t, h.ne⟩, m.sub (by simp [Ad.G])⟩
  rw [List.map_append]
  exact (h2.tk m.t).append (.cons (hv.tk m.t) .nil)
theorem CellsAt.setLoose {b : Bool} (h : CellsAt K H A c) :
    CellsAt K (upd H A.cs (.ins (He.ga K "Cells") A.dxc [("begun", A.bv), ("disks", .ref A.dl), ("done", .ref A.dn), ("is_loose", .bl b)])) A { c with loose := b } ∧ Mv K A.G H (upd H A.cs (.ins (He.ga K "Cells") A.dxc [("begun", A.bv), ("disks", .ref A.dl), ("done", .ref A.dn), ("is_loose", .bl b)])) := by
  obtain ⟨es, h1, h2⟩ := h.dn
  have m : Mv K [A.cs] H (upd H A.cs (.ins (He.ga K "Cells") A.dxc [("begun", A.bv), ("disks", .ref A.dl), ("done", .ref A.dn), ("is_loose", .bl b)])) := Mv.ins h.cs (by simp)
  exact ⟨⟨upd_same, h.ds.to m (by simpa using fun z => h.cs_dl z.symm) (fun a ha z => h.cs_ds (List.mem_singleton.mp z ▸ ha)), ⟨es, m.at h1 (by simpa using fun z => h.cs_dn z.symm), h2.tk m.t⟩, h.bv.tk m.t, h.ne⟩, m.sub (by simp [Ad.G])⟩
end
theorem dl_none {as : List Addr} {k : Int} (hn : as.length = 6) (h0 : 6 ≤ k) (h1 : k < 8) : atI (as.map V.ref ++ [V.non, .non]) k = some .non := by
  have hl : (as.map V.ref ++ [V.non, .non]).length = 8 := by simp [hn]
  have h2 : ixN (as.map V.ref ++ [V.non, .non]).length k = some k.toNat := by
    unfold ixN
    rw [hl, if_pos (by omega), if_pos (by omega)]
  unfold atI
  rw [h2]
  show (as.map V.ref ++ [V.non, .non])[k.toNat]? = _
  rw [List.getElem?_append_right (by simp [hn]; omega)]
  have : k.toNat - (as.map V.ref).length = 0 ∨ k.toNat - (as.map V.ref).length = 1 := by simp [hn]; omega
  rcases this with e | e <;> rw [e] <;> rfl
def sp_Cells_there (K : PySem.W.Frag) : Sp := fun vs H Q _ => ∃ (A : Ad) (c : CeS) (k : Int), vs = [.ref A.cs, .int k] ∧ CellsAt K H A c ∧ Q (.bl (decide (0 ≤ k ∧ k < 6))) H

theorem ok_Cells_there (T : Tx K mg)  : MK P w K mg base "Cells" "there" ["self", "disk"] 1 (sp_Cells_there K) := mk_mk T.f_Cells_there T.h_Cells_there T.c_Cells sc_Cells_there (fun _ _ _ _ _ _ us hl => match us, hl with | [_, _], _ => rfl) (fun _ _ _ _ h => by obtain ⟨_, _, _, rfl, _⟩ := h; rfl) fun cdv A outer s H vs Q E hr h => by
  have nd := sc_Cells_there.nd
  refine ⟨_, (pss_one (ps_ret (pe_and (pe_chain op_le op_lt pe_int (pv 1) (pb_lenK K T.b_len (pa_cons (pe_fldK K (pv 0)) pa_nil))) (pe_one (pe_cmpR op_notN (pe_ix (ix_listK K) (pe_fldK K (pv 0)) (pv 1) (fun _ _ => rfl)) pe_non (nomark _)))))), ?_⟩
  obtain ⟨A, c, k, rfl, hc, q⟩ := h
  have hcs := hc.cs
  have hdl := hc.ds.dl
  have hl8 : ((A.ds.map V.ref ++ [V.non, V.non]).length : Int) = 8 := by simp [hc.ds.n6]
  walk_at "go"
  by_cases h0 : 0 ≤ k
  · rw [decide_eq_true h0, if_pos rfl]
    walk_at "go"
    by_cases h8 : k < 8
    · rw [decide_eq_true (by omega)]
      walk_at "go"
      by_cases h6 : k < 6
      · have hk : k = (k.toNat : Int) := by omega
        obtain ⟨b, d, hb, hd, _⟩ := hc.ds.get (k := k.toNat) (by omega)
        have hat := dl_at hc.ds.n6 hb
        rw [← hk] at hat
        refine ⟨_, _, _, _, rfl, rfl, SqL.of hdl, hat, ?_⟩
        walk_at "go"
        rw [decide_eq_true ⟨h0, h6⟩] at q
        exact q
      · refine ⟨_, _, _, _, rfl, rfl, SqL.of hdl, dl_none hc.ds.n6 (by omega) h8, ?_⟩
        walk_at "go"
        rw [decide_eq_false (by omega)] at q
        exact q
    · rw [decide_eq_false (by omega)]
      walk_at "go"
      rw [decide_eq_false (by omega)] at q
      exact q
  · rw [decide_eq_false h0, if_neg (by simp)]
    walk_at "go"
    rw [decide_eq_false (by omega)] at q
    exact q

def six : List Int := [0, 1, 2, 3, 4, 5]
def sp_Cells_numbers (K : PySem.W.Frag) : Sp := fun vs H Q _ => ∃ (A : Ad) (c : CeS), vs = [.ref A.cs] ∧ CellsAt K H A c ∧ ∀ p H', H p = none → Same H H' → H' p = some (.lst (six.map V.int)) → Q (.ref p) H'

theorem ok_Cells_numbers (T : Tx K mg) (g_Cells_there : MK P w K mg base "Cells" "there" ["self", "disk"] 1 (sp_Cells_there K)) : MK P w K mg base "Cells" "numbers" ["self"] 2 (sp_Cells_numbers K) := mk_mk T.f_Cells_numbers T.h_Cells_numbers T.c_Cells sc_Cells_numbers (fun _ _ _ _ _ _ us hl => match us, hl with | [_], _ => rfl) (fun _ _ _ _ h => by obtain ⟨_, _, rfl, _⟩ := h; rfl) fun cdv A outer s H vs Q E hr h => by
  have nd := sc_Cells_numbers.nd
  refine ⟨_, (pss_one (ps_ret (pe_w (pe_lc (own := [("disk", 1)]) (g := gName 1) (tt := _) rfl nd (pi_range1 rfl T.b_range (pa_cons (pb_lenK K T.b_len (pa_cons (pe_fldK K (pv 0)) pa_nil)) pa_nil)) (blkOk_by (N := ["self", "disk"]) (sc := defScope s_Cells_numbers) (by decide +kernel)) (fun _ _ _ _ _ => (pg_name (i := 1) nd rfl (Or.inl rfl))) (fun _ _ _ _ _ => (pts_one (pt_val (pe_mkK g_Cells_there hr (by decide) (pv 0) (pa_cons (pv 1) pa_nil))))) (fun _ _ _ _ _ => (pv 1)))))), ?_⟩
  obtain ⟨A, c, rfl, hc, q⟩ := h
  have hcs := hc.cs
  have hdl := hc.ds.dl
  have hl8 : ((A.ds.map V.ref ++ [V.non, V.non]).length : Int) = 8 := by simp [hc.ds.n6]
  walk_at "go"
  refine lcK (n := 8) (fun i => decide (i < 6)) (fun i y _ => y = .int (i : Nat)) (by decide) (fun _ _ _ _ _ h => h) (fun i H' hi e => ?_) (fun H' e => ?_) ?_ ?_
  · show i < _
    omega
  · show _ ≤ _
    omega
  · rintro i H' x H2 hi e ⟨rfl, rfl⟩ R Z hR hZ
    refine ⟨rfl, ?_⟩
    walk_at "go"
    refine ⟨A, c, _, rfl, hc.same e, ?_⟩
    by_cases h6 : i < 6
    · rw [decide_eq_true (by omega)]
      walk_at "go"
      exact hR (by simpa using h6) _ _ (Same.refl _) (by rw [Int.zero_add])
    · rw [decide_eq_false (by omega)]
      walk_at "go"
      exact hZ (by simpa using h6) _ (Same.refl _)
  · intro p ys H' hp hy e hq
    rw [peq hq] at hy
    exact q p H' hp e hy

def sp_Cells_rows (K : PySem.W.Frag) : Sp := fun vs H Q _ => ∃ (A : Ad) (c : CeS) (R : Nat), vs = [.ref A.cs] ∧ CellsAt K H A c ∧ (∀ d ∈ c.disks, d.cells.length = R) ∧ ∀ H', Same H H' → Q (.int R) H'

theorem ok_Cells_rows (T : Tx K mg) (g_Cells_numbers : MK P w K mg base "Cells" "numbers" ["self"] 2 (sp_Cells_numbers K)) : MK P w K mg base "Cells" "rows" ["self"] 3 (sp_Cells_rows K) := mk_mk T.f_Cells_rows T.h_Cells_rows T.c_Cells sc_Cells_rows (fun _ _ _ _ _ _ us hl => match us, hl with | [_], _ => rfl) (fun _ _ _ _ h => by obtain ⟨_, _, _, rfl, _⟩ := h; rfl) fun cdv A outer s H vs Q E hr h => by
  have nd := sc_Cells_rows.nd
  refine ⟨_, (pss_one (ps_ret (pe_op op_sub (pb_lenD T.b_len (pa_cons (pe_ix (ix_listK K) (pe_fldK K (pv 0)) (pe_ix (ix_listK K) (pe_mk0K g_Cells_numbers hr (by decide) (pv 0)) pe_int (fun _ _ => rfl)) (fun _ _ => rfl)) pa_nil)) (pb_lenK K T.b_len (pa_cons (pe_gr T.m_METAS) pa_nil))))), ?_⟩
  obtain ⟨A, c, R, rfl, hc, hR, q⟩ := h
  have hcs := hc.cs
  have hdl := hc.ds.dl
  walk_at "go"
  refine ⟨A, c, rfl, hc, fun p H' hp e hy => ?_⟩
  walk_at "go"
  obtain ⟨b, d, hb, hd, x0, x1, x2, hkv, _⟩ := hc.ds.get (k := 0) (by omega)
  have hz := hR d (List.mem_of_getElem? hd)
  have hdl2 := e _ _ hdl
  have hkv2 := e _ _ hkv
  refine ⟨_, _, _, _, rfl, rfl, SqL.of hdl2, dl_at hc.ds.n6 hb, ?_⟩
  walk_at "go"
  have hn : ((diskKv x0 x1 x2 d.cells).length : Int) - ([V.str "superblock", V.str "log", V.str "aside"].length : Nat) = R := by
    rw [diskKv_length]; simp; omega
  have q2 := q _ e
  rw [← hn] at q2
  exact q2

inductive Pl where
  | mt (m : Mt)
  | cl (r : Nat)
def Pl.v : Pl → V
  | .mt m => .str m.s
  | .cl r => .int r
def DiskS.at (d : DiskS) : Pl → Option PyData
  | .mt m => some (d.m m)
  | .cl r => (d.cells[r]?).map PyData.int
theorem dget_pl {H : Hp} {b : Addr} {d : DiskS} {p : Pl} {x : PyData} (h : DAt K H b d) (hx : d.at p = some x) : ∃ v, DGet H b p.v (some v) ∧ Rp K H v x := by
  obtain ⟨x0, x1, x2, hb, h0, h1, h2⟩ := h.ex
  cases p with
  | mt m =>
    cases hx
    cases m with
    | sb => exact ⟨x0, .inl ⟨_, .inr "superblock", .inl hb, rfl, get_sb.symm⟩, h0⟩
    | lg => exact ⟨x1, .inl ⟨_, .inr "log", .inl hb, rfl, get_lg.symm⟩, h1⟩
    | as => exact ⟨x2, .inl ⟨_, .inr "aside", .inl hb, rfl, get_as.symm⟩, h2⟩
  | cl r =>
    obtain ⟨y, hy, rfl⟩ := Option.map_eq_some_iff.mp hx
    exact ⟨.int y, .inl ⟨_, .inl (r : Int), .inl hb, rfl, (get_cell hy).symm⟩, .int y⟩
def sp_Cells_cell (K : PySem.W.Frag) : Sp := fun vs H Q _ => ∃ (A : Ad) (c : CeS) (k : Nat) (p : Pl) (d : DiskS) (x : PyData), vs = [.ref A.cs, .int k, p.v] ∧ CellsAt K H A c ∧ c.disks[k]? = some d ∧ d.at p = some x ∧ ∀ v, Rp K H v x → Q v H

theorem ok_Cells_cell (T : Tx K mg) (g_Cells_there : MK P w K mg base "Cells" "there" ["self", "disk"] 1 (sp_Cells_there K)) : MK P w K mg base "Cells" "cell" ["self", "disk", "place"] 2 (sp_Cells_cell K) := mk_mk T.f_Cells_cell T.h_Cells_cell T.c_Cells sc_Cells_cell (fun _ _ _ _ _ _ us hl => match us, hl with | [_, _, _], _ => rfl) (fun _ _ _ _ h => by obtain ⟨_, _, _, _, _, _, rfl, _⟩ := h; rfl) fun cdv A outer s H vs Q E hr h => by
  have nd := sc_Cells_cell.nd
  refine ⟨_, (pss_one (ps_ret (pe_ifExp (pt_val (pe_mkK g_Cells_there hr (by decide) (pv 0) (pa_cons (pv 1) pa_nil))) (pe_dget (hu_of hr) (pe_ix (ix_listK K) (pe_fldK K (pv 0)) (pv 1) (fun _ _ => rfl)) (pv 2) (fun _ _ => rfl)) pe_non))), ?_⟩
  obtain ⟨A, c, k, p, d, x, rfl, hc, hd, hx, q⟩ := h
  have hcs := hc.cs
  have hdl := hc.ds.dl
  have hk : k < 6 := by
    have := (List.getElem?_eq_some_iff.mp hd).1
    rw [← hc.ds.m6]
    exact this
  obtain ⟨b, d2, hb, hd2, hb2⟩ := hc.ds.get hk
  rw [hd] at hd2
  cases hd2
  obtain ⟨v, hg, hv⟩ := dget_pl hb2 hx
  walk_at "go"
  refine ⟨A, c, _, rfl, hc, ?_⟩
  rw [decide_eq_true (by omega)]
  walk_at "go"
  refine ⟨_, _, _, _, rfl, rfl, SqL.of hdl, dl_at hc.ds.n6 hb, ?_⟩
  walk_at "go"
  exact ⟨_, _, rfl, hg, q v hv⟩

def sp_Cells_note (K : PySem.W.Frag) : Sp := fun vs H Q _ => ∃ (A : Ad) (c : CeS) (e : En) (R : Nat) (v : V), vs = [.ref A.cs, v] ∧ CellsAt K H A c ∧ c.ok R ∧ Rp K H v e.d ∧ e.ok R ∧ c.done.length < 100000 ∧
  ∀ H', Mv K A.G H H' → CellsAt K H' A (c.note e) → Q .non H'

theorem ok_Cells_note (T : Tx K mg) (g_done_to : GK P w K mg base "done_to" ["disks", "entry"] 1 (sp_done_to K) []) : MK P w K mg base "Cells" "note" ["self", "entry"] 2 (sp_Cells_note K) := mk_mk T.f_Cells_note T.h_Cells_note T.c_Cells sc_Cells_note (fun _ _ _ _ _ _ us hl => match us, hl with | [_, _], _ => rfl) (fun _ _ _ _ h => by obtain ⟨_, _, _, _, _, rfl, _⟩ := h; rfl) fun cdv A outer s H vs Q E hr h => by
  have nd := sc_Cells_note.nd
  refine ⟨_, (pss_cons (ps_expr (pe_gkK g_done_to hr (by decide) (pa_cons (pe_fldK K (pv 0)) (pa_cons (pv 1) pa_nil))))
  (pss_one (ps_expr (pe_bm PySem.F.plainAttrs_list PySem.F.slot_list_append PySem.F.type_list_append mt_append (pe_fldK K (pv 0)) (pa_cons (pv 1) pa_nil))))), ?_⟩
  obtain ⟨A, c, e, R, v, rfl, hc, hok, hv, he, hl, q⟩ := h
  have hcs := hc.cs
  walk_at "go"
  refine ⟨v, _, A.ds, _, e, R, rfl, hc.ds, hv, he, hok.od, by have := hok.r1; omega, fun H' m hd => ?_⟩
  have hc2 := hc.setDs m hd
  have hcs2 := hc2.cs
  obtain ⟨es, hes, hr⟩ := hc2.dn
  have hll : es.length < sizeLine := by
    have h3 : (100000 : Nat) < sizeLine := by decide
    have h4 := hr.length
    rw [List.length_map] at h4
    have h4 : es.length = c.done.length := h4
    omega
  obtain ⟨hc3, m3⟩ := hc2.setDn hes (hv.tk m.t)
  walk_at "go"
  refine ⟨_, _, _, rfl, rfl, hes, hll, ?_⟩
  exact q _ ((m.sub (by simp [Ad.G]; exact fun a h => .inr (.inr h))).trans m3) hc3

/-- the arguments of put, of an entry -/
def EnArg (K : PySem.W.Frag) (H : Hp) (e : En) (k : Nat) (pv x : V) : Prop := match e with
  | .data k' r i => k' = k ∧ pv = .int (r : Int) ∧ x = .int i
  | .meta_ k' m c => k' = k ∧ pv = .str m.s ∧ Rp K H x c
  | _ => False
theorem enarg_rp {H H' : Hp} {e : En} {k : Nat} {pv x : V} {p : Addr} (h : EnArg K H e k pv x) (t : TK K H H') (hs : SqT K H' p [.str "cell", .int k, pv, x]) : Rp K H' (.ref p) e.d := by
  cases e with
  | data k' r i => obtain ⟨rfl, rfl, rfl⟩ := h; exact .tup hs (.cons (.str _) (.cons (.int _) (.cons (.int _) (.cons (.int _) .nil))))
  | meta_ k' m c => obtain ⟨rfl, rfl, hx⟩ := h; exact .tup hs (.cons (.str _) (.cons (.int _) (.cons (.str _) (.cons (hx.tk t) .nil))))
  | flush => exact h.elim
  | bg _ _ => exact h.elim
  | dn _ => exact h.elim
theorem enarg_k {H : Hp} {e : En} {k R : Nat} {pv x : V} (h : EnArg K H e k pv x) (he : e.ok R) : k < 6 := by
  cases e with
  | data k' r i => obtain ⟨rfl, _⟩ := h; exact he.1
  | meta_ k' m c => obtain ⟨rfl, _⟩ := h; exact he.1
  | flush => exact h.elim
  | bg _ _ => exact h.elim
  | dn _ => exact h.elim
def sp_Cells_put (K : PySem.W.Frag) : Sp := fun vs H Q _ => ∃ (A : Ad) (c : CeS) (e : En) (R k : Nat) (pv x : V), vs = [.ref A.cs, .int k, pv, x] ∧ CellsAt K H A c ∧ c.ok R ∧ EnArg K H e k pv x ∧ e.ok R ∧ c.done.length < 100000 ∧
  ∀ H', Mv K A.G H H' → CellsAt K H' A (c.put e) → Q .non H'

theorem ok_Cells_put (T : Tx K mg) (g_Cells_note : MK P w K mg base "Cells" "note" ["self", "entry"] 2 (sp_Cells_note K)) (g_Cells_there : MK P w K mg base "Cells" "there" ["self", "disk"] 1 (sp_Cells_there K)) : MK P w K mg base "Cells" "put" ["self", "disk", "place", "contents"] 3 (sp_Cells_put K) := mk_mk T.f_Cells_put T.h_Cells_put T.c_Cells sc_Cells_put (fun _ _ _ _ _ _ us hl => match us, hl with | [_, _, _, _], _ => rfl) (fun _ _ _ _ h => by obtain ⟨_, _, _, _, _, _, _, rfl, _⟩ := h; rfl) fun cdv A outer s H vs Q E hr h => by
  have nd := sc_Cells_put.nd
  refine ⟨_, (pss_one (ps_if (pt_val (pe_mkK g_Cells_there hr (by decide) (pv 0) (pa_cons (pv 1) pa_nil))) (pss_cons (ps_expr (pe_mkK g_Cells_note hr (by decide) (pv 0) (pa_cons (pe_tup (pa_cons pe_str (pa_cons (pv 1) (pa_cons (pv 2) (pa_cons (pv 3) pa_nil))))) pa_nil)))
  (pss_one (ps_fld (pv 0) pe_bl rfl))) pss_nil)), ?_⟩
  obtain ⟨A, c, e, R, k, pv, x, rfl, hc, hok, ha, he, hl, q⟩ := h
  have hcs := hc.cs
  have hk := enarg_k ha he
  walk_at "go"
  refine ⟨A, c, _, rfl, hc, ?_⟩
  rw [decide_eq_true (by omega)]
  walk_at "go"
  intro p hp
  walk_at "go"
  have hc2 := hc.same (same_new (o := .tup [.str "cell", .int (k : Int), pv, x]) hp)
  refine ⟨A, c, e, R, _, rfl, hc2, hok, enarg_rp ha (tk_same (same_new hp)) (SqT.new hp), he, hl, fun H' m hc3 => ?_⟩
  have hcs3 := hc3.cs
  walk_at "go"
  refine ⟨_, _, _, _, rfl, hcs3, T.c_Cells, T.n_Cells_is_loose, Nat.le_of_ble_eq_true rfl, ?_⟩
  obtain ⟨hc4, m4⟩ := hc3.setLoose (b := true)
  exact q _ ((mv_by (same_new hp) .refl).trans (m.trans m4)) hc4

def sp_Cells_flush (K : PySem.W.Frag) : Sp := fun vs H Q _ => ∃ (A : Ad) (c : CeS), vs = [.ref A.cs] ∧ CellsAt K H A c ∧ c.done.length < 100000 ∧
  ∀ H', Mv K A.G H H' → CellsAt K H' A c.flush → Q .non H'

theorem ok_Cells_flush (T : Tx K mg)  : MK P w K mg base "Cells" "flush" ["self"] 1 (sp_Cells_flush K) := mk_mk T.f_Cells_flush T.h_Cells_flush T.c_Cells sc_Cells_flush (fun _ _ _ _ _ _ us hl => match us, hl with | [_], _ => rfl) (fun _ _ _ _ h => by obtain ⟨_, _, rfl, _⟩ := h; rfl) fun cdv A outer s H vs Q E hr h => by
  have nd := sc_Cells_flush.nd
  refine ⟨_, (pss_cons (ps_if (pt_val (pe_fldK K (pv 0))) (pss_one (ps_expr (pe_bm PySem.F.plainAttrs_list PySem.F.slot_list_append PySem.F.type_list_append mt_append (pe_fldK K (pv 0)) (pa_cons (pe_tup (pa_cons pe_str pa_nil)) pa_nil)))) pss_nil)
  (pss_one (ps_fld (pv 0) pe_bl rfl))), ?_⟩
  obtain ⟨A, c, rfl, hc, hl, q⟩ := h
  have hcs := hc.cs
  obtain ⟨es, hes, hr⟩ := hc.dn
  have hll : es.length < sizeLine := by
    have h3 : (100000 : Nat) < sizeLine := by decide
    have h4 := hr.length
    rw [List.length_map] at h4
    omega
  walk_at "go"
  rcases c with ⟨cb, cd, cdn, cl⟩
  cases cl with
  | false =>
    walk_at "go"
    refine ⟨_, _, _, _, rfl, hcs, T.c_Cells, T.n_Cells_is_loose, Nat.le_of_ble_eq_true rfl, ?_⟩
    obtain ⟨hc4, m4⟩ := hc.setLoose (b := false)
    exact q _ m4 hc4
  | true =>
    walk_at "go"
    intro p hp
    have hc2 := hc.same (same_new (o := .tup [.str "flush"]) hp)
    have hes2 := at_new (o := .tup [.str "flush"]) hp hes
    walk_at "go"
    refine ⟨_, _, _, rfl, rfl, hes2, hll, ?_⟩
    obtain ⟨hc3, m3⟩ := hc2.setDn (e := .flush) hes2 (.tup (SqT.new hp) (.cons (.str _) .nil))
    have hcs3 := hc3.cs
    walk_at "go"
    refine ⟨_, _, _, _, rfl, hcs3, T.c_Cells, T.n_Cells_is_loose, Nat.le_of_ble_eq_true rfl, ?_⟩
    obtain ⟨hc4, m4⟩ := hc3.setLoose (b := false)
    exact q _ ((mv_by (same_new hp) .refl).trans (m3.trans m4)) hc4

def sp_Cells_trace (K : PySem.W.Frag) : Sp := fun vs H Q _ => ∃ (A : Ad) (c : CeS), vs = [.ref A.cs] ∧ CellsAt K H A c ∧ ∀ p H' es, H p = none → Same H H' → H' p = some (.lst es) → RpL K H' es (c.done.map En.d) → Q (.ref p) H'

theorem ok_Cells_trace (T : Tx K mg)  : MK P w K mg base "Cells" "trace" ["self"] 1 (sp_Cells_trace K) := mk_mk T.f_Cells_trace T.h_Cells_trace T.c_Cells sc_Cells_trace (fun _ _ _ _ _ _ us hl => match us, hl with | [_], _ => rfl) (fun _ _ _ _ h => by obtain ⟨_, _, rfl, _⟩ := h; rfl) fun cdv A outer s H vs Q E hr h => by
  have nd := sc_Cells_trace.nd
  refine ⟨_, (pss_one (ps_ret (pb_list T.b_list (pa_cons (pe_fldK K (pv 0)) pa_nil)))), ?_⟩
  obtain ⟨A, c, rfl, hc, q⟩ := h
  have hcs := hc.cs
  obtain ⟨es, hes, hr⟩ := hc.dn
  walk_at "go"
  intro p hp
  exact q p _ es hp (same_new hp) upd_same (hr.same (same_new hp))

def oL (ds : List DiskS) : List (Option DiskS) := ds.map some ++ [none, none]
theorem oL_img (ds : List DiskS) : (oL ds).map dOpt = imgL ds := by simp [oL, imgL, dOpt, Function.comp_def]
theorem OAt.same {H H' : Hp} {v : V} {o : Option DiskS} (h : OAt K H v o) (e : Same H H') : OAt K H' v o := by
  cases o with
  | none => exact h
  | some d => obtain ⟨a, h1, h2⟩ := h; exact ⟨a, h1, h2.to (fun _ q => e _ _ q) (tk_same e)⟩
theorem oat_get {H : Hp} {dl : Addr} {as : List Addr} {ds : List DiskS} (h : DsAt K H dl as ds) {i : Nat} {x : V} (hx : (as.map V.ref ++ [V.non, V.non])[i]? = some x) : ∃ o, (oL ds)[i]? = some o ∧ OAt K H x o := by
  unfold oL
  by_cases hi : i < 6
  · obtain ⟨a, d, h1, h2, h3⟩ := h.get hi
    rw [List.getElem?_append_left (by simp [h.n6]; exact hi), List.getElem?_map, h1] at hx
    cases hx
    refine ⟨some d, ?_, a, rfl, h3⟩
    rw [List.getElem?_append_left (by simp [h.m6]; exact hi), List.getElem?_map, h2]
    rfl
  · rw [List.getElem?_append_right (by simp [h.n6]; omega)] at hx
    rw [List.getElem?_append_right (by simp [h.m6]; omega)]
    simp only [List.length_map, h.n6] at hx
    simp only [List.length_map, h.m6]
    have hlt := (List.getElem?_eq_some_iff.mp hx).1
    have hlt : i - 6 < 2 := hlt
    have : i - 6 = 0 ∨ i - 6 = 1 := by omega
    rcases this with e | e <;> rw [e] at hx ⊢ <;> cases hx <;> exact ⟨none, rfl, rfl⟩
def sp_Cells_image (K : PySem.W.Frag) : Sp := fun vs H Q _ => ∃ (A : Ad) (c : CeS) (R : Nat), vs = [.ref A.cs] ∧ CellsAt K H A c ∧ c.ok R ∧ ∀ v H', Same H H' → Rp K H' v (imgD c.disks) → Q v H'
theorem lc_closed {H : Hp} {dl : Addr} {as : List Addr} {ds : List DiskS} {R s : Nat} {vs : List Nat} {σ : L2.St} {Q : VK} (h : DsAt K H dl as ds) (hok : ∀ d ∈ ds, d.ok R) (hR : R ≤ 1000) (hs : ∀ x, ((wipe σ vs).set s (some x))[s]? = some (some x)) (hw : ∀ x, wipe ((wipe σ vs).set s (some x)) vs = wipe σ vs)
    (q : ∀ p ys H', H p = none → Same H H' → H' p = some (.lst ys) → RpL K H' ys (imgL ds) → Q (.ref p) H') : LcG (Itl K dl) (gName s) tYes (tCall (sp_closed K) [] E0 (tCons (tVar s) tNil)) vs σ Q H := by
  have hl : (as.map V.ref ++ [V.non, V.non]).length = (oL ds).length := by simp [oL, h.n6, h.m6]
  refine lcA (n := (as.map V.ref ++ [V.non, V.non]).length) (fun i y H' => ∃ d, (imgL ds)[i]? = some d ∧ Rp K H' y d) (by simp [h.n6]) (fun i y H1 H2 nl h => by obtain ⟨d, h1, h2⟩ := h; exact ⟨d, h1, nl.rp h2⟩) (fun i H' hi e => itl_go (SqL.of (e _ _ h.dl)) hi) (fun H' e => itl_stop (SqL.of (e _ _ h.dl))) ?_ ?_
  · intro i H' x H2 hi e hy R2 hR2
    obtain ⟨rfl, hx⟩ := itl_yld (SqL.of (e _ _ h.dl)) hy
    obtain ⟨o, ho, hox⟩ := oat_get h hx
    refine ⟨hw x, _, hs x, x, o, rfl, hox.same e, fun d hd => ?_, fun v H4 e4 r => hR2 v H4 e4 ⟨dOpt o, by rw [← oL_img, List.getElem?_map, ho]; rfl, r⟩⟩
    subst hd
    have : d ∈ ds := by
      have := List.mem_of_getElem? ho
      simpa [oL] using this
    rw [(hok d this).n]
    exact hR
  · intro p ys H' hp hy e hq
    exact q p ys H' hp e hy (pds (by rw [hl, ← oL_img, List.length_map]) hq)

theorem ok_Cells_image (T : Tx K mg) (g_closed : GK P w K mg base "closed" ["cells"] 1 (sp_closed K) []) : MK P w K mg base "Cells" "image" ["self"] 2 (sp_Cells_image K) := mk_mk T.f_Cells_image T.h_Cells_image T.c_Cells sc_Cells_image (fun _ _ _ _ _ _ us hl => match us, hl with | [_], _ => rfl) (fun _ _ _ _ h => by obtain ⟨_, _, _, rfl, _⟩ := h; rfl) fun cdv A outer s H vs Q E hr h => by
  have nd := sc_Cells_image.nd
  refine ⟨_, (pss_one (ps_ret (pb_tupleK K T.b_tuple (pa_cons (pe_w (pe_lc (own := [("cells", 1)]) (g := gName 1) (tt := tYes) rfl nd (pi_listK K (pe_fldK K (pv 0))) (blkOk_by (N := ["self", "cells"]) (sc := defScope s_Cells_image) (by decide +kernel)) (fun _ _ _ _ _ => (pg_name (i := 1) nd rfl (Or.inl rfl))) (fun _ _ _ _ _ => pts_nil) (fun _ _ _ _ _ => (pe_gkK g_closed hr (by decide) (pa_cons (pv 1) pa_nil))))) pa_nil)))), ?_⟩
  obtain ⟨A, c, R, rfl, hc, hok, q⟩ := h
  have hcs := hc.cs
  have hdl := hc.ds.dl
  walk_at "go"
  refine lc_closed hc.ds hok.od (by have := hok.r1; omega) (fun _ => rfl) (fun _ => rfl) fun p ys H' hp e hy hr => ?_
  refine ⟨_, _, rfl, .inl ⟨SqL.of hy, fun l hl => ?_⟩⟩
  exact q _ _ (by walk_at "sm") (.tup (SqT.new hl) (hr.same (same_new hl)))


end
end WS
set_option Elab.async false
set_option linter.all false
set_option maxRecDepth 100000
set_option maxHeartbeats 4000000
namespace WS
open PySem PySem.Spec PyProof.Rows L2
local macro_rules | `(tactic| walk_at "tdg") => `(tactic| first | (apply tdg0; walk_at "at") | (apply tdg1; walk_at "at") | (apply tdg2; walk_at "at") | (apply tdg3; walk_at "at") | (apply tdg4; walk_at "at") | (apply tdg5; walk_at "at") | (apply tdg6; walk_at "at") | (apply tdg7; walk_at "at") | (apply tdg8; walk_at "at"))
local macro_rules | `(tactic| walk_at "no") => `(tactic| first | assumption | (apply no_by; assumption; walk_at "sm"))
local macro_rules | `(tactic| walk_at "sm") => `(tactic| first | exact Same.refl _ | assumption | (apply same_up; walk_at "no"; walk_at "sm") | (apply same_by; assumption; walk_at "sm"))
local macro_rules | `(tactic| walk_at "tk") => `(tactic| first | exact TK.refl | assumption | (apply tk_up; walk_at "no"; walk_at "tk") | (apply tk_by; assumption; walk_at "tk") | (apply tk_mv; assumption; walk_at "tk"))
local macro_rules | `(tactic| walk_at "mv") => `(tactic| first | exact Mv.refl | assumption | (apply mv_up; walk_at "no"; walk_at "mv") | (apply mv_mv; assumption; walk_at "mv") | (apply mv_by; assumption; walk_at "mv"))
local macro_rules | `(tactic| walk_at "ne") => `(tactic| first | assumption | (refine Ne.symm ?_; assumption))
local macro_rules | `(tactic| walk_at "at") => `(tactic| first | assumption | exact upd_same | (apply at_new; walk_at "no"; walk_at "at") | (apply at_ne; walk_at "ne"; walk_at "at") | (apply at_same; assumption; walk_at "at") | (apply at_mv; assumption; assumption; walk_at "at"))
local macro_rules | `(tactic| walk_at "rp") => `(tactic| first | assumption | exact Rp.non | exact Rp.int _ | exact Rp.str _ | (apply rp_tk; assumption; walk_at "tk"))
local macro_rules | `(tactic| walk_at "sq") => `(tactic| first | assumption | exact (‹Tx _ _›).t_METAS _ | exact (‹Tx _ _›).t_FIELDS _ | exact (‹Tx _ _›).t_LEFT _ | exact (‹Tx _ _›).t_SYMMETRIC _ | (apply SqT.of; walk_at "at") | (apply SqL.of; walk_at "at") | (apply sqt_tk; assumption; walk_at "tk") | (apply sql_sm; assumption; walk_at "sm"))
local macro_rules | `(tactic| walk_at "sd") => `(tactic| first | rfl | omega | assumption | decide)
local macro_rules | `(tactic| walk_at "fld") => `(tactic| first | refine ⟨_, _, _, _, _, rfl, (by walk_at "at" : _ = some _), (‹Tx _ _›).c_Cells, (‹Tx _ _›).n_Cells_disks, rfl, ?_⟩ | refine ⟨_, _, _, _, _, rfl, (by walk_at "at" : _ = some _), (‹Tx _ _›).c_Cells, (‹Tx _ _›).n_Cells_done, rfl, ?_⟩ | refine ⟨_, _, _, _, _, rfl, (by walk_at "at" : _ = some _), (‹Tx _ _›).c_Cells, (‹Tx _ _›).n_Cells_begun, rfl, ?_⟩ | refine ⟨_, _, _, _, _, rfl, (by walk_at "at" : _ = some _), (‹Tx _ _›).c_Cells, (‹Tx _ _›).n_Cells_is_loose, rfl, ?_⟩ | refine ⟨_, _, _, _, _, rfl, (by walk_at "at" : _ = some _), (‹Tx _ _›).c_State, (‹Tx _ _›).n_State_cells, rfl, ?_⟩ | refine ⟨_, _, _, _, _, rfl, (by walk_at "at" : _ = some _), (‹Tx _ _›).c_State, (‹Tx _ _›).n_State_own_superblock, rfl, ?_⟩ | refine ⟨_, _, _, _, _, rfl, (by walk_at "at" : _ = some _), (‹Tx _ _›).c_Array, (‹Tx _ _›).n_Array_state, rfl, ?_⟩)
local macro_rules | `(tactic| walk_at "w") => `(tactic| first | refine ⟨_, rfl, ⟨_, (by walk_at "sq" : SqT _ _ _ _)⟩, ?_⟩ | refine ⟨_, rfl, ⟨_, (by walk_at "sq" : SqL _ _ _ _)⟩, ?_⟩ | refine ⟨_, rfl, ?_⟩ | refine ⟨_, _, rfl, rfl, ?_⟩ | refine ⟨rfl, ?_⟩ | refine ⟨_, _, rfl, (by walk_at "sq" : SqT _ _ _ _), rfl, ?_⟩ | refine ⟨_, _, rfl, (by walk_at "sq" : SqT _ _ _ _), ?_⟩ | refine ⟨_, _, rfl, (by walk_at "sq" : SqL _ _ _ _), ?_⟩ | refine ⟨_, _, rfl, (by walk_at "tdg" : DGet _ _ _ _), ?_⟩ | refine ⟨_, _, rfl, ?_⟩ | refine ⟨_, _, _, _, rfl, rfl, (by walk_at "sq" : SqT _ _ _ _), rfl, ?_⟩ | refine ⟨_, _, rfl, .inl (by walk_at "sq" : SqL _ _ _ _), rfl, rfl, ?_⟩ | refine ⟨_, _, rfl, .inr (by walk_at "sq" : SqT _ _ _ _), rfl, rfl, ?_⟩ | refine ⟨_, _, rfl, .inl (by walk_at "sq" : SqL _ _ _ _), ?_⟩ | refine ⟨_, _, rfl, .inr (by walk_at "sq" : SqT _ _ _ _), ?_⟩ | refine ⟨_, _, rfl, (by walk_at "at" : _ = some (HO.dK _)), ?_⟩ | refine ⟨_, _, _, _, rfl, rfl, (by walk_at "sq" : SqL _ _ _ _), rfl, ?_⟩ | refine ⟨_, _, _, rfl, (by walk_at "at" : _ = some _), rfl, ?_⟩ | refine ⟨_, _, _, rfl, ?_⟩ | walk_at "fld" | refine ty_d (by walk_at "at") ?_ | refine ty_l (by walk_at "sq") ?_ | refine ty_t (‹Tx _ _›).z_FIELDS ?_ | refine And.intro (by first | omega | decide | exact Nat.le_of_ble_eq_true rfl | (unfold CDiv; omega) | (unfold CMul; omega)) ?_)
local macro_rules | `(tactic| walk_at "go") => `(tactic| repeat walk_at "w")
section
variable {P : Program} {w : World} {K : PySem.W.Frag} {mg : Str → Option Value} {base : Heap}

/-- the disks, opened: six new dicts -/
theorem lc_open {H : Hp} {a : Addr} {xs : List V} {ds : List DiskS} {R s : Nat} {vs : List Nat} {σ : L2.St} {Q : VK} (ha : SqT K H a xs) (hx : RpL K H xs (imgL ds)) (hok : ∀ d ∈ ds, d.ok R) (hR : R ≤ 1000) (h6 : ds.length = 6)
    (hs : ∀ x, ((wipe σ vs).set s (some x))[s]? = some (some x)) (hw : ∀ x, wipe ((wipe σ vs).set s (some x)) vs = wipe σ vs)
    (q : ∀ p as H', H p = none → Same H H' → DsAt K H' p as ds → (∀ b ∈ as, H b = none) → Q (.ref p) H') : LcG (Itt K a) (gName s) tYes (tCall (sp_opened K) [] E0 (tCons (tVar s) tNil)) vs σ Q H := by
  have hl : xs.length = (oL ds).length := by rw [hx.length, ← oL_img, List.length_map]
  intro D hD
  have hlen8 : (oL ds).length = 8 := by simp [oL, h6]
  refine lc_gen (n := xs.length) (fun i H' => Same H H' ∧ ∃ acc, H' D = some (.lst acc) ∧ acc.length = i ∧ (∀ (j : Nat) (y : V) (o : Option DiskS), acc[j]? = some y → (oL ds)[j]? = some o → OAt K H' y o) ∧ (∀ (j k : Nat) (b : Addr), acc[j]? = some (V.ref b) → acc[k]? = some (V.ref b) → j = k) ∧ (∀ (j : Nat) (b : Addr), acc[j]? = some (V.ref b) → H b = none ∧ b ≠ D))
    ⟨same_new hD, [], upd_same, rfl, by simp, by simp, by simp⟩ (fun i H' hi h => itt_go (sqt_tk ha (tk_same h.1)) hi) (fun H' h => itt_stop (sqt_tk ha (tk_same h.1))) ?_ ?_
  · rintro i H' x H2 hi ⟨e, acc, hacc, hai, hall, hinj, hfr⟩ hy
    obtain ⟨rfl, hxi⟩ := itt_yld (sqt_tk ha (tk_same e)) hy
    obtain ⟨o, ho⟩ : ∃ o, (oL ds)[i]? = some o := ⟨_, List.getElem?_eq_getElem (by omega)⟩
    have hxo : Rp K H2 x (dOpt o) := (rp_get hx hxi (by rw [← oL_img, List.getElem?_map, ho]; rfl)).same e
    refine ⟨hw x, _, hs x, x, o, rfl, hxo, fun d hd => ?_, fun v H4 e4 hv hfv => ⟨acc, e4 _ _ hacc, ?_, ?_, acc ++ [v], upd_same, by simp [hai], ?_, ?_, ?_⟩⟩
    · subst hd
      have : d ∈ ds := by
        have := List.mem_of_getElem? ho
        simpa [oL] using this
      rw [(hok d this).n]
      exact hR
    · have h3 : (10 : Nat) < sizeLine := by decide
      omega
    · exact same_own hD (e.trans e4)
    · -- all stand
      have back : ∀ (y : V) (o : Option DiskS), OAt K H4 y o → OAt K (upd H4 D (.lst (acc ++ [v]))) y o := fun y o h => by
        cases o with
        | none => exact h
        | some d =>
          obtain ⟨b, h1, h2⟩ := h
          exact ⟨b, h1, NL.dat (NL.upd (e4 _ _ hacc)) h2⟩
      intro j y o2 hj ho2
      refine back y o2 ?_
      by_cases hji : j < i
      · rw [List.getElem?_append_left (by omega)] at hj
        exact (hall j y o2 hj ho2).same e4
      · rw [List.getElem?_append_right (by omega)] at hj
        have : j = i := by
          have := (List.getElem?_eq_some_iff.mp hj).1
          simp at this
          omega
        subst this
        rw [ho] at ho2
        cases ho2
        rw [hai, Nat.sub_self] at hj
        cases hj
        exact hv
    · -- none twice
      have hnew : ∀ j b, j < i → acc[j]? = some (V.ref b) → v = .ref b → False := fun j b hj h1 h2 => by
        have h3 := hfv b h2
        obtain ⟨o2, ho2⟩ : ∃ o, (oL ds)[j]? = some o := ⟨_, List.getElem?_eq_getElem (by omega)⟩
        have h4 := hall j _ o2 h1 ho2
        cases o2 with
        | none => cases h4
        | some d =>
          obtain ⟨b2, h5, x0, x1, x2, h6, _⟩ := h4
          cases h5
          rw [h3] at h6
          cases h6
      intro j k b hj hk
      by_cases hji : j < i
      · rw [List.getElem?_append_left (by omega)] at hj
        by_cases hki : k < i
        · rw [List.getElem?_append_left (by omega)] at hk
          exact hinj j k b hj hk
        · rw [List.getElem?_append_right (by omega)] at hk
          have h1 := (List.getElem?_eq_some_iff.mp hk).1
          simp at h1
          have : k - acc.length = 0 := by omega
          rw [this] at hk
          exact (hnew j b hji hj (by simpa using hk)).elim
      · rw [List.getElem?_append_right (by omega)] at hj
        have h1 := (List.getElem?_eq_some_iff.mp hj).1
        simp at h1
        have h2 : j - acc.length = 0 := by omega
        rw [h2] at hj
        by_cases hki : k < i
        · rw [List.getElem?_append_left (by omega)] at hk
          exact (hnew k b hki hk (by simpa using hj)).elim
        · rw [List.getElem?_append_right (by omega)] at hk
          have h1 := (List.getElem?_eq_some_iff.mp hk).1
          simp at h1
          omega
    · intro j b hj
      by_cases hji : j < i
      · rw [List.getElem?_append_left (by omega)] at hj
        exact hfr j b hj
      · rw [List.getElem?_append_right (by omega)] at hj
        have h1 := (List.getElem?_eq_some_iff.mp hj).1
        simp at h1
        have h2 : j - acc.length = 0 := by omega
        rw [h2] at hj
        have hv2 : v = .ref b := by simpa using hj
        have h3 := hfv b hv2
        exact ⟨e.free h3, fun z => by rw [z, hacc] at h3; cases h3⟩
  · rintro H' ⟨e, acc, hacc, hai, hall, hinj, hfr⟩
    -- the list's shape
    have h8 : acc.length = 8 := by omega
    have hd : ∀ j, (hj : j < 6) → ∃ b, acc[j]? = some (V.ref b) ∧ DAt K H' b (ds[j]'(by omega)) := fun j hj => by
      have h1 : acc[j]? = some (acc[j]'(by omega)) := List.getElem?_eq_getElem _
      have h2 : (oL ds)[j]? = some (some (ds[j]'(by omega))) := by
        unfold oL
        rw [List.getElem?_append_left (by simp; omega), List.getElem?_map, List.getElem?_eq_getElem (by omega)]
        rfl
      obtain ⟨b, h3, h4⟩ := hall j _ _ h1 h2
      exact ⟨b, by rw [h1, h3], h4⟩
    have hn : ∀ j, 6 ≤ j → j < 8 → acc[j]? = some V.non := fun j h6j hj => by
      have h1 : acc[j]? = some (acc[j]'(by omega)) := List.getElem?_eq_getElem _
      have h2 : (oL ds)[j]? = some none := by
        unfold oL
        rw [List.getElem?_append_right (by simp; omega)]
        simp only [List.length_map, h6]
        have : j - 6 = 0 ∨ j - 6 = 1 := by omega
        rcases this with e | e <;> rw [e] <;> rfl
      have h3 := hall j _ _ h1 h2
      rw [h1, show acc[j]'(by omega) = V.non from h3]
    obtain ⟨b0, a0, d0⟩ := hd 0 (by omega)
    obtain ⟨b1, a1, d1⟩ := hd 1 (by omega)
    obtain ⟨b2, a2, d2⟩ := hd 2 (by omega)
    obtain ⟨b3, a3, d3⟩ := hd 3 (by omega)
    obtain ⟨b4, a4, d4⟩ := hd 4 (by omega)
    obtain ⟨b5, a5, d5⟩ := hd 5 (by omega)
    have a6 := hn 6 (by omega) (by omega)
    have a7 := hn 7 (by omega) (by omega)
    have hlist : acc = [b0, b1, b2, b3, b4, b5].map V.ref ++ [.non, .non] := by
      apply List.ext_getElem?
      intro i
      match i with
      | 0 => exact a0
      | 1 => exact a1
      | 2 => exact a2
      | 3 => exact a3
      | 4 => exact a4
      | 5 => exact a5
      | 6 => exact a6
      | 7 => exact a7
      | i + 8 => rw [List.getElem?_eq_none (by omega), List.getElem?_eq_none (by simp)]
    have f : ∀ (j : Nat) (b : Addr), acc[j]? = some (V.ref b) → H b = none := fun j b h => (hfr j b h).1
    refine q D [b0, b1, b2, b3, b4, b5] H' hD e ⟨by rw [hacc, hlist], rfl, h6, ?_, ?_⟩ ?_
    · have ne : ∀ (j k : Nat) (b c : Addr), acc[j]? = some (V.ref b) → acc[k]? = some (V.ref c) → j ≠ k → b ≠ c := fun j k b c h1 h2 hn z => by
        subst z
        exact hn (hinj j k b h1 h2)
      simp only [List.nodup_cons, List.mem_cons, List.not_mem_nil, or_false, not_or, List.nodup_nil, and_true, not_false_eq_true]
      exact ⟨⟨ne 0 1 _ _ a0 a1 (by decide), ne 0 2 _ _ a0 a2 (by decide), ne 0 3 _ _ a0 a3 (by decide), ne 0 4 _ _ a0 a4 (by decide), ne 0 5 _ _ a0 a5 (by decide)⟩,
        ⟨ne 1 2 _ _ a1 a2 (by decide), ne 1 3 _ _ a1 a3 (by decide), ne 1 4 _ _ a1 a4 (by decide), ne 1 5 _ _ a1 a5 (by decide)⟩,
        ⟨ne 2 3 _ _ a2 a3 (by decide), ne 2 4 _ _ a2 a4 (by decide), ne 2 5 _ _ a2 a5 (by decide)⟩, ⟨ne 3 4 _ _ a3 a4 (by decide), ne 3 5 _ _ a3 a5 (by decide)⟩, ne 4 5 _ _ a4 a5 (by decide)⟩
    · intro i b d hb hd2
      have hi : i < 6 := by
        have := (List.getElem?_eq_some_iff.mp hd2).1
        omega
      obtain ⟨c, hc, hcd⟩ := hd i hi
      rw [List.getElem?_eq_getElem (by omega)] at hd2
      cases hd2
      rw [hlist, List.getElem?_append_left (by simpa using hi), List.getElem?_map, hb] at hc
      cases hc
      exact hcd
    · intro b hb
      simp only [List.mem_cons, List.not_mem_nil, or_false] at hb
      rcases hb with z | z | z | z | z | z <;> subst z
      · exact f 0 _ a0
      · exact f 1 _ a1
      · exact f 2 _ a2
      · exact f 3 _ a3
      · exact f 4 _ a4
      · exact f 5 _ a5

end
end WS
set_option Elab.async false
set_option linter.all false
set_option maxRecDepth 100000
set_option maxHeartbeats 4000000
namespace WS
open PySem PySem.Spec PyProof.Rows L2
local macro_rules | `(tactic| walk_at "tdg") => `(tactic| first | (apply tdg0; walk_at "at") | (apply tdg1; walk_at "at") | (apply tdg2; walk_at "at") | (apply tdg3; walk_at "at") | (apply tdg4; walk_at "at") | (apply tdg5; walk_at "at") | (apply tdg6; walk_at "at") | (apply tdg7; walk_at "at") | (apply tdg8; walk_at "at"))
local macro_rules | `(tactic| walk_at "no") => `(tactic| first | assumption | (apply no_by; assumption; walk_at "sm"))
local macro_rules | `(tactic| walk_at "sm") => `(tactic| first | exact Same.refl _ | assumption | (apply same_up; walk_at "no"; walk_at "sm") | (apply same_by; assumption; walk_at "sm"))
local macro_rules | `(tactic| walk_at "tk") => `(tactic| first | exact TK.refl | assumption | (apply tk_up; walk_at "no"; walk_at "tk") | (apply tk_by; assumption; walk_at "tk") | (apply tk_mv; assumption; walk_at "tk"))
local macro_rules | `(tactic| walk_at "mv") => `(tactic| first | exact Mv.refl | assumption | (apply mv_up; walk_at "no"; walk_at "mv") | (apply mv_mv; assumption; walk_at "mv") | (apply mv_by; assumption; walk_at "mv"))
local macro_rules | `(tactic| walk_at "ne") => `(tactic| first | assumption | (refine Ne.symm ?_; assumption))
local macro_rules | `(tactic| walk_at "at") => `(tactic| first | assumption | exact upd_same | (apply at_new; walk_at "no"; walk_at "at") | (apply at_ne; walk_at "ne"; walk_at "at") | (apply at_same; assumption; walk_at "at") | (apply at_mv; assumption; assumption; walk_at "at"))
local macro_rules | `(tactic| walk_at "rp") => `(tactic| first | assumption | exact Rp.non | exact Rp.int _ | exact Rp.str _ | (apply rp_tk; assumption; walk_at "tk"))
local macro_rules | `(tactic| walk_at "sq") => `(tactic| first | assumption | exact (‹Tx _ _›).t_METAS _ | exact (‹Tx _ _›).t_FIELDS _ | exact (‹Tx _ _›).t_LEFT _ | exact (‹Tx _ _›).t_SYMMETRIC _ | (apply SqT.of; walk_at "at") | (apply SqL.of; walk_at "at") | (apply sqt_tk; assumption; walk_at "tk") | (apply sql_sm; assumption; walk_at "sm"))
local macro_rules | `(tactic| walk_at "sd") => `(tactic| first | rfl | omega | assumption | decide)
local macro_rules | `(tactic| walk_at "fld") => `(tactic| first | refine ⟨_, _, _, _, _, rfl, (by walk_at "at" : _ = some _), (‹Tx _ _›).c_Cells, (‹Tx _ _›).n_Cells_disks, rfl, ?_⟩ | refine ⟨_, _, _, _, _, rfl, (by walk_at "at" : _ = some _), (‹Tx _ _›).c_Cells, (‹Tx _ _›).n_Cells_done, rfl, ?_⟩ | refine ⟨_, _, _, _, _, rfl, (by walk_at "at" : _ = some _), (‹Tx _ _›).c_Cells, (‹Tx _ _›).n_Cells_begun, rfl, ?_⟩ | refine ⟨_, _, _, _, _, rfl, (by walk_at "at" : _ = some _), (‹Tx _ _›).c_Cells, (‹Tx _ _›).n_Cells_is_loose, rfl, ?_⟩ | refine ⟨_, _, _, _, _, rfl, (by walk_at "at" : _ = some _), (‹Tx _ _›).c_State, (‹Tx _ _›).n_State_cells, rfl, ?_⟩ | refine ⟨_, _, _, _, _, rfl, (by walk_at "at" : _ = some _), (‹Tx _ _›).c_State, (‹Tx _ _›).n_State_own_superblock, rfl, ?_⟩ | refine ⟨_, _, _, _, _, rfl, (by walk_at "at" : _ = some _), (‹Tx _ _›).c_Array, (‹Tx _ _›).n_Array_state, rfl, ?_⟩)
local macro_rules | `(tactic| walk_at "w") => `(tactic| first | refine ⟨_, rfl, ⟨_, (by walk_at "sq" : SqT _ _ _ _)⟩, ?_⟩ | refine ⟨_, rfl, ⟨_, (by walk_at "sq" : SqL _ _ _ _)⟩, ?_⟩ | refine ⟨_, rfl, ?_⟩ | refine ⟨_, _, rfl, rfl, ?_⟩ | refine ⟨rfl, ?_⟩ | refine ⟨_, _, rfl, (by walk_at "sq" : SqT _ _ _ _), rfl, ?_⟩ | refine ⟨_, _, rfl, (by walk_at "sq" : SqT _ _ _ _), ?_⟩ | refine ⟨_, _, rfl, (by walk_at "sq" : SqL _ _ _ _), ?_⟩ | refine ⟨_, _, rfl, (by walk_at "tdg" : DGet _ _ _ _), ?_⟩ | refine ⟨_, _, rfl, ?_⟩ | refine ⟨_, _, _, _, rfl, rfl, (by walk_at "sq" : SqT _ _ _ _), rfl, ?_⟩ | refine ⟨_, _, rfl, .inl (by walk_at "sq" : SqL _ _ _ _), rfl, rfl, ?_⟩ | refine ⟨_, _, rfl, .inr (by walk_at "sq" : SqT _ _ _ _), rfl, rfl, ?_⟩ | refine ⟨_, _, rfl, .inl (by walk_at "sq" : SqL _ _ _ _), ?_⟩ | refine ⟨_, _, rfl, .inr (by walk_at "sq" : SqT _ _ _ _), ?_⟩ | refine ⟨_, _, rfl, (by walk_at "at" : _ = some (HO.dK _)), ?_⟩ | refine ⟨_, _, _, _, rfl, rfl, (by walk_at "sq" : SqL _ _ _ _), rfl, ?_⟩ | refine ⟨_, _, _, rfl, (by walk_at "at" : _ = some _), rfl, ?_⟩ | refine ⟨_, _, _, rfl, ?_⟩ | walk_at "fld" | refine ty_d (by walk_at "at") ?_ | refine ty_l (by walk_at "sq") ?_ | refine ty_t (‹Tx _ _›).z_FIELDS ?_ | refine And.intro (by first | omega | decide | exact Nat.le_of_ble_eq_true rfl | (unfold CDiv; omega) | (unfold CMul; omega)) ?_)
local macro_rules | `(tactic| walk_at "go") => `(tactic| repeat walk_at "w")
section
variable {P : Program} {w : World} {K : PySem.W.Frag} {mg : Str → Option Value} {base : Heap}

theorem fits_tup {n : Nat} {ds : List PyData} (h : ds.length ≤ 10000) (q : ∀ d ∈ ds, fits n d) : fits (n + 1) (.tuple ds) := ⟨h, q⟩
theorem fits_disk {d : DiskS} {R : Nat} (h : d.ok R) (hR : R ≤ 1000) : fits 4 d.d := by
  refine fits_tup (by simp) fun x hx => ?_
  simp only [List.mem_cons, List.not_mem_nil, or_false] at hx
  rcases hx with z | z | z | z <;> subst z
  · exact h.d0
  · exact h.d1
  · exact h.d2
  · refine (fits_tup (n := 1) (by rw [List.length_map, h.n]; omega) fun x hx => ?_).le (by decide)
    obtain ⟨i, _, rfl⟩ := List.mem_map.mp hx
    trivial
theorem fits_img {ds : List DiskS} {R : Nat} (h : ∀ d ∈ ds, d.ok R) (hR : R ≤ 1000) (h6 : ds.length = 6) : fits 7 (imgD ds) := by
  refine (fits_tup (n := 4) (by simp [imgL, h6]) fun x hx => ?_).le (by decide)
  simp only [imgL, List.mem_append, List.mem_map, List.mem_cons, List.not_mem_nil, or_false] at hx
  rcases hx with ⟨d, hd, rfl⟩ | z | z
  · exact fits_disk (h d hd) hR
  · subst z; trivial
  · subst z; trivial
theorem fits_en {e : En} {R : Nat} (h : e.ok R) : fits 4 e.d := by
  cases e with
  | data k r x => refine (fits_tup (n := 1) (by simp) fun x hx => ?_).le (by decide); simp only [List.mem_cons, List.not_mem_nil, or_false] at hx; rcases hx with z | z | z | z <;> subst z <;> trivial
  | flush => refine (fits_tup (n := 1) (by simp) fun x hx => ?_).le (by decide); simp only [List.mem_cons, List.not_mem_nil, or_false] at hx; subst hx; trivial
  | bg b v => refine (fits_tup (n := 1) (by simp) fun x hx => ?_).le (by decide); simp only [List.mem_cons, List.not_mem_nil, or_false] at hx; rcases hx with z | z | z <;> subst z <;> trivial
  | dn b => refine (fits_tup (n := 1) (by simp) fun x hx => ?_).le (by decide); simp only [List.mem_cons, List.not_mem_nil, or_false] at hx; rcases hx with z | z <;> subst z <;> trivial
  | meta_ k m c =>
    refine fits_tup (n := 3) (by simp) fun x hx => ?_
    simp only [List.mem_cons, List.not_mem_nil, or_false] at hx
    rcases hx with z | z | z | z <;> subst z
    · trivial
    · trivial
    · trivial
    · exact h.2
def sp_Cells_init (K : PySem.W.Frag) : Sp := fun vs H Q _ => ∃ (x dx : Addr) (v : V) (ds : List DiskS) (R : Nat), vs = [.ref x, v] ∧ H x = some (.ins (He.ga K "Cells") dx []) ∧ Rp K H v (imgD ds) ∧ ds.length = 6 ∧ (∀ d ∈ ds, d.ok R) ∧ R ≤ 1000 ∧
  ∀ H' dl dn as bv, Mv K [x] H H' → (∀ b, b = dl ∨ b = dn ∨ b ∈ as → H b = none) → (∀ A : Ad, A.cs = x → A.dxc = dx → A.dl = dl → A.dn = dn → A.ds = as → A.bv = bv → CellsAt K H' A ⟨ds, ds, [], false⟩) → Q .non H'

theorem ok_Cells_init (T : Tx K mg) (g_as_tuples : GK P w K mg base "as_tuples" ["thing"] 8 (sp_as_tuples K) []) (g_opened : GK P w K mg base "opened" ["disk"] 1 (sp_opened K) []) : IK P w K mg base "Cells" ["self", "image"] 9 (sp_Cells_init K) := ik_mk T.f_Cells_init T.k_Cells T.m_Cells (by decide +kernel) sc_Cells_init (fun _ _ _ _ _ _ us hl => match us, hl with | [_, _], _ => rfl) (fun _ _ _ _ h => by obtain ⟨_, _, _, _, _, rfl, _⟩ := h; rfl) fun cdv A outer s H vs Q E hr h => by
  have nd := sc_Cells_init.nd
  refine ⟨_, (pss_cons (ps_fld (pv 0) (pe_gkK g_as_tuples hr (by decide) (pa_cons (pv 1) pa_nil)) rfl)
  (pss_cons (ps_fld (pv 0) (pe_w (pe_lc (own := [("disk", 2)]) (g := gName 2) (tt := tYes) rfl nd (pi_tupK K (pe_fldK K (pv 0))) (blkOk_by (N := ["self", "image", "disk"]) (sc := defScope s_Cells_init) (by decide +kernel)) (fun _ _ _ _ _ => (pg_name (i := 2) nd rfl (Or.inl rfl))) (fun _ _ _ _ _ => pts_nil) (fun _ _ _ _ _ => (pe_gkK g_opened hr (by decide) (pa_cons (pv 2) pa_nil))))) rfl)
  (pss_cons (ps_fld (pv 0) (pe_lst pa_nil) rfl)
  (pss_one (ps_fld (pv 0) pe_bl rfl))))), ?_⟩
  obtain ⟨x, dx, v, ds, R, rfl, hx, hv, h6, hok, hR, q⟩ := h
  walk_at "go"
  refine ⟨v, _, rfl, .inl hv, fits_img hok hR h6, fun bv H1 e1 hbv => ?_⟩
  have hx1 := e1 _ _ hx
  walk_at "go"
  refine ⟨_, _, _, _, rfl, hx1, T.c_Cells, T.n_Cells_begun, Nat.le_of_ble_eq_true rfl, ?_⟩
  obtain ⟨a, xs, rfl, ha, hxs⟩ := Rp.tup_eq hbv
  have m1 : Mv K [x] H1 (upd H1 x (.ins (He.ga K "Cells") dx [("begun", .ref a)])) := Mv.ins hx1 (by simp)
  have hx2 : (upd H1 x (.ins (He.ga K "Cells") dx [("begun", .ref a)])) x = some (.ins (He.ga K "Cells") dx [("begun", .ref a)]) := upd_same
  show _
  generalize hH2 : upd H1 x (.ins (He.ga K "Cells") dx [("begun", .ref a)]) = H2
  have hH2' : upd H1 x (.ins (He.ga K "Cells") dx (putF "begun" (.ref a) [])) = H2 := hH2
  rw [hH2'] 
  rw [hH2] at m1 hx2
  have ha2 := SqT.tk ha m1.t
  walk_at "go"
  refine lc_open ha2 (hxs.tk m1.t) hok hR h6 (fun _ => rfl) (fun _ => rfl) fun p as H3 hp e3 hds hfr => ?_
  have hx3 := e3 _ _ hx2
  have hpx : p ≠ x := fun z => by rw [z, hx2] at hp; cases hp
  have hax : ∀ b ∈ as, b ≠ x := fun b hb z => by
    have := hfr b hb
    rw [z, hx2] at this
    cases this
  walk_at "go"
  refine ⟨_, _, _, _, rfl, hx3, T.c_Cells, T.n_Cells_disks, Nat.le_of_ble_eq_true rfl, ?_⟩
  generalize hH4 : upd H3 x (.ins (He.ga K "Cells") dx (putF "disks" (.ref p) [("begun", .ref a)])) = H4
  have hH4' : upd H3 x (.ins (He.ga K "Cells") dx [("begun", .ref a), ("disks", .ref p)]) = H4 := hH4
  have m4 : Mv K [x] H3 H4 := hH4 ▸ Mv.ins hx3 (by simp)
  have hx4 : H4 x = some (.ins (He.ga K "Cells") dx [("begun", .ref a), ("disks", .ref p)]) := hH4' ▸ upd_same
  walk_at "go"
  intro p2 hp2
  have hx5 := at_new (o := .lst []) hp2 hx4
  walk_at "go"
  refine ⟨_, _, _, _, rfl, hx5, T.c_Cells, T.n_Cells_done, Nat.le_of_ble_eq_true rfl, ?_⟩
  generalize hH6 : upd (upd H4 p2 (.lst [])) x (.ins (He.ga K "Cells") dx (putF "done" (.ref p2) [("begun", .ref a), ("disks", .ref p)])) = H6
  have hH6' : upd (upd H4 p2 (.lst [])) x (.ins (He.ga K "Cells") dx [("begun", .ref a), ("disks", .ref p), ("done", .ref p2)]) = H6 := hH6
  have m6 : Mv K [x] (upd H4 p2 (.lst [])) H6 := hH6 ▸ Mv.ins hx5 (by simp)
  have hx6 : H6 x = some (.ins (He.ga K "Cells") dx [("begun", .ref a), ("disks", .ref p), ("done", .ref p2)]) := hH6' ▸ upd_same
  walk_at "go"
  refine ⟨_, _, _, _, rfl, hx6, T.c_Cells, T.n_Cells_is_loose, Nat.le_of_ble_eq_true rfl, ?_⟩
  have m7 : Mv K [x] H6 (upd H6 x (.ins (He.ga K "Cells") dx (putF "is_loose" (.bl false) [("begun", .ref a), ("disks", .ref p), ("done", .ref p2)]))) := Mv.ins hx6 (by simp)
  have hx7 : (upd H6 x (.ins (He.ga K "Cells") dx (putF "is_loose" (.bl false) [("begun", .ref a), ("disks", .ref p), ("done", .ref p2)]))) x = some (.ins (He.ga K "Cells") dx [("begun", .ref a), ("disks", .ref p), ("done", .ref p2), ("is_loose", .bl false)]) := upd_same
  generalize (upd H6 x (.ins (He.ga K "Cells") dx (putF "is_loose" (.bl false) [("begun", .ref a), ("disks", .ref p), ("done", .ref p2)]))) = H7 at m7 hx7 ⊢
  have m56 : Mv K [x] H4 H7 := (Mv.of_same (same_new hp2)).trans (m6.trans m7)
  have m37 : Mv K [x] H3 H7 := m4.trans m56
  have m07 : Mv K [x] H H7 := ((Mv.of_same e1).trans m1).trans ((Mv.of_same e3).trans m37)
  have hp2x : p2 ≠ x := fun z => by rw [z, hx4] at hp2; cases hp2
  have n1x : ∀ b, b ≠ x → ∀ o, H b = some o → H2 b = some o := fun b hb o h => m1.at (e1 _ _ h) (by simpa using hb)
  have back : ∀ b, b ≠ x → H2 b = none → H b = none := fun b hb h => by
    cases q : H b with
    | none => rfl
    | some o => rw [n1x b hb o q] at h; cases h
  have back4 : ∀ b, b ≠ x → H4 b = none → H b = none := fun b hb h => by
    cases q : H b with
    | none => rfl
    | some o => rw [m4.at (e3 _ _ (n1x b hb o q)) (by simpa using hb)] at h; cases h
  have hdn7 : H7 p2 = some (.lst []) := m7.at (m6.at upd_same (by simpa using hp2x)) (by simpa using hp2x)
  refine q H7 p p2 as (.ref a) m07 ?_ ?_
  · rintro b (z | z | hb)
    · rw [z]; exact back p hpx hp
    · rw [z]; exact back4 p2 hp2x hp2
    · exact back b (hax b hb) (hfr b hb)
  · rintro A rfl rfl rfl rfl rfl hbv2
    refine ⟨?_, hds.to m37 (by simpa using hpx) (fun b hb z => hax b hb (by simpa using z)), ⟨[], hdn7, .nil⟩, ?_, ?_⟩
    · rw [hbv2]; exact hx7
    · rw [hbv2]
      exact (hbv.tk m1.t).tk ((tk_same e3).trans m37.t)
    · intro z
      have h1 := hds.dl
      have h2 := m4.at h1 (by simpa using hpx)
      rw [z, hp2] at h2
      cases h2

theorem filt_get {α : Type} (f : α → Bool) (z : α) (L : List α) : ((List.range L.length).filter (fun i => f (L.getD i z))).map (fun i => L.getD i z) = L.filter f := by
  have h := List.filter_map (p := f) (f := fun i => L.getD i z) (l := List.range L.length)
  rw [range_get] at h
  exact h.symm
/-- what is left of the disks when the lost ones are not done -/
def filmF (lost : List Int) : Nat → List DiskS → List En → List DiskS
  | _, ds, [] => ds
  | i, ds, e :: es => filmF lost (i + 1) (if (i : Int) ∈ lost then ds else ap1 ds e) es
theorem filmF_snoc (lost : List Int) (e : En) : ∀ (es : List En) (i : Nat) (ds : List DiskS), filmF lost i ds (es ++ [e]) = if ((i + es.length : Nat) : Int) ∈ lost then filmF lost i ds es else ap1 (filmF lost i ds es) e
  | [], i, ds => by simp [filmF]
  | x :: es, i, ds => by
    simp only [List.cons_append, filmF, List.length_cons]
    rw [filmF_snoc lost e es (i + 1)]
    have : i + 1 + es.length = i + (es.length + 1) := by omega
    rw [this]
def lostOf (es : List En) (n : Nat) (kept : List Int) : List Int := (looseAt (es.take n)).filter fun i => !decide (i ∈ kept)
def film (ds : List DiskS) (es : List En) (n : Nat) (kept : List Int) : List DiskS := filmF (lostOf es n kept) 0 ds (es.take n)
theorem ok_ap1 {ds : List DiskS} {e : En} {R : Nat} (h : ∀ d ∈ ds, d.ok R) (he : e.ok R) : ∀ d ∈ ap1 ds e, d.ok R := by
  cases e with
  | data k r x =>
    intro d hd
    obtain ⟨i, hi⟩ := List.getElem?_of_mem hd
    simp only [ap1, List.getElem?_modify] at hi
    cases q : ds[i]? with
    | none => simp [q] at hi
    | some d0 =>
      have h0 := h d0 (List.mem_of_getElem? q)
      rw [q] at hi
      by_cases hk : k = i
      · simp [hk] at hi
        subst hi
        exact ⟨by simp [DiskS.putC, h0.n], h0.d0, h0.d1, h0.d2⟩
      · simp [hk] at hi
        subst hi
        exact h0
  | meta_ k m c =>
    intro d hd
    obtain ⟨i, hi⟩ := List.getElem?_of_mem hd
    simp only [ap1, List.getElem?_modify] at hi
    cases q : ds[i]? with
    | none => simp [q] at hi
    | some d0 =>
      have h0 := h d0 (List.mem_of_getElem? q)
      rw [q] at hi
      by_cases hk : k = i
      · simp [hk] at hi
        subst hi
        cases m with
        | sb => exact ⟨h0.n, he.2, h0.d1, h0.d2⟩
        | lg => exact ⟨h0.n, h0.d0, he.2, h0.d2⟩
        | as => exact ⟨h0.n, h0.d0, h0.d1, he.2⟩
      · simp [hk] at hi
        subst hi
        exact h0
  | flush => exact h
  | bg _ _ => exact h
  | dn _ => exact h
theorem len_ap1 (ds : List DiskS) (e : En) : (ap1 ds e).length = ds.length := by cases e <;> simp [ap1]
def sp_image_after (K : PySem.W.Frag) : Sp := fun vs H Q _ => ∃ (v : V) (a k : Addr) (xs : List V) (ds : List DiskS) (es : List En) (n R : Nat) (kept : List Int), vs = [v, .ref a, .int n, .ref k] ∧ Rp K H v (imgD ds) ∧ ds.length = 6 ∧ (∀ d ∈ ds, d.ok R) ∧ R ≤ 1000 ∧
  H a = some (.lst xs) ∧ RpL K H xs (es.map En.d) ∧ es.length ≤ 10000 ∧ n ≤ es.length ∧ (∀ e ∈ es, e.ok R) ∧ H k = some (.lst (kept.map V.int)) ∧ ∀ v H', Same H H' → Rp K H' v (imgD (film ds es n kept)) → Q v H'

theorem ok_image_after (T : Tx K mg) (g_as_tuples : GK P w K mg base "as_tuples" ["thing"] 8 (sp_as_tuples K) []) (g_closed : GK P w K mg base "closed" ["cells"] 1 (sp_closed K) []) (g_done_to : GK P w K mg base "done_to" ["disks", "entry"] 1 (sp_done_to K) []) (g_loose_at : GK P w K mg base "loose_at" ["trace", "after"] 1 (sp_loose_at K) []) (g_opened : GK P w K mg base "opened" ["disk"] 1 (sp_opened K) []) : GK P w K mg base "image_after" ["image", "trace", "after", "kept"] 9 (sp_image_after K) [] := gk_mk T.f_image_after T.m_image_after (by decide +kernel) sc_image_after (fun _ _ _ _ _ _ us hl => match us, hl with | [_, _, _, _], _ => rfl) (fun _ _ _ _ h => by obtain ⟨_, _, _, _, _, _, _, _, _, rfl, _⟩ := h; rfl) fun cdv A outer s H vs Q E hr h => by
  have nd := sc_image_after.nd
  refine ⟨_, (pss_cons (ps_par (i := 4) (j := 5) (by rfl) nd rfl rfl (by decide) rfl rfl (pa_cons (pe_w (pe_lc (own := [("disk", 9)]) (g := gName 9) (tt := tYes) rfl nd (pi_tupK K (pe_gkK g_as_tuples hr (by decide) (pa_cons (pv 0) pa_nil))) (blkOk_by (N := ["image", "trace", "after", "kept", "disks", "entries", "at", "lost", "entry", "disk", "cells"]) (sc := defScope s_image_after) (by decide +kernel)) (fun _ _ _ _ _ => (pg_name (i := 9) nd rfl (Or.inl rfl))) (fun _ _ _ _ _ => pts_nil) (fun _ _ _ _ _ => (pe_gkK g_opened hr (by decide) (pa_cons (pv 9) pa_nil))))) (pa_cons (pe_gkK g_as_tuples hr (by decide) (pa_cons (pv 1) pa_nil)) pa_nil)) (by rfl))
  (pss_cons (ps_w (ps_setLc (i := 7) (own := [("at", 6)]) (g := gName 6) (tt := _) rfl nd rfl rfl (sw_true rfl rfl rfl (by decide +kernel)) (pi_listK K (pe_gkK g_loose_at hr (by decide) (pa_cons (pv 1) (pa_cons (pv 2) pa_nil)))) (blkOk_by (N := ["image", "trace", "after", "kept", "disks", "entries", "at", "lost", "entry", "disk", "cells"]) (sc := defScope s_image_after) (by decide +kernel)) (fun _ _ _ _ _ => (pg_name (i := 6) nd rfl (Or.inl rfl))) (fun _ _ _ _ _ => (pts_one (pt_cmpR (op_notInI K) (pv 6) (pv 3) (by rfl)))) (fun _ _ _ _ _ => (pv 6))))
  (pss_cons (ps_wf (ps_for PassesOwn.never rfl (pi_enumT rfl T.b_enumerate (pa_cons (pe_slice (sl_tupB K) (pv 5) po_none (po_some (pv 2))) pa_nil)) (pg_tupK K 2 rfl (pgs_cons (pg_name (i := 6) nd rfl (Or.inl rfl)) (pgs_cons (pg_name (i := 8) nd rfl (Or.inl rfl)) pgs_nil))) (pss_one (ps_if (pt_cmpR (op_notInI K) (pv 6) (pv 7) (by rfl)) (pss_one (ps_expr (pe_gkK g_done_to hr (by decide) (pa_cons (pv 4) (pa_cons (pv 8) pa_nil))))) pss_nil))))
  (pss_one (ps_ret (pb_tupleK K T.b_tuple (pa_cons (pe_w (pe_lc (own := [("cells", 10)]) (g := gName 10) (tt := tYes) rfl nd (pi_listK K (pv 4)) (blkOk_by (N := ["image", "trace", "after", "kept", "disks", "entries", "at", "lost", "entry", "disk", "cells"]) (sc := defScope s_image_after) (by decide +kernel)) (fun _ _ _ _ _ => (pg_name (i := 10) nd rfl (Or.inl rfl))) (fun _ _ _ _ _ => pts_nil) (fun _ _ _ _ _ => (pe_gkK g_closed hr (by decide) (pa_cons (pv 10) pa_nil))))) pa_nil))))))), ?_⟩
  obtain ⟨v, a, k, xs, ds, es, n, R, kept, rfl, hv, h6, hok, hR, ha, hxs, hl, hn, heok, hk, q⟩ := h
  walk_at "go"
  refine ⟨v, _, rfl, .inl hv, fits_img hok hR h6, fun bv H1 e1 hbv => ?_⟩
  obtain ⟨b, ys, rfl, hb, hys⟩ := Rp.tup_eq hbv
  walk_at "go"
  refine lc_open hb hys hok hR h6 (fun _ => rfl) (fun _ => rfl) fun p as H2 hp e2 hds hfr => ?_
  walk_at "go"
  have e02 : Same H H2 := by walk_at "sm"
  refine ⟨_, .tuple (es.map En.d), rfl, .inr ⟨a, xs, _, rfl, e02 _ _ ha, hxs.same e02, rfl⟩, (fits_tup (n := 4) (by simpa using hl) fun x hx => ?_).le (by decide), fun tv H3 e3 htv => ?_⟩
  · obtain ⟨e, he, rfl⟩ := List.mem_map.mp hx
    exact fits_en (heok e he)
  have e03 : Same H H3 := e02.trans e3
  have ha3 := e03 _ _ ha
  walk_at "go"
  refine ⟨a, xs, es, n, rfl, ha3, hxs.same e03, hl, hn, fun lp H4 hlp e4 hlo => ?_⟩
  have e04 : Same H H4 := e03.trans e4
  walk_at "go"
  have hk4 := e04 _ _ hk
  refine lcK (n := ((looseAt (es.take n)).map V.int).length) (fun i => !decide ((looseAt (es.take n)).getD i 0 ∈ kept)) (fun i y _ => y = .int ((looseAt (es.take n)).getD i 0)) ?_ (fun _ _ _ _ _ h => h) (fun i H' hi e => itl_go (SqL.of (e _ _ hlo)) hi) (fun H' e => itl_stop (SqL.of (e _ _ hlo))) ?_ ?_
  · have := looseAt_len (es.take n)
    rw [List.length_take] at this
    rw [List.length_map]
    omega
  · intro i H' x H2 hi e hy R2 Z hR2 hZ
    obtain ⟨rfl, hx⟩ := itl_yld (SqL.of (e _ _ hlo)) hy
    rw [List.length_map] at hi
    rw [List.getElem?_map, List.getElem?_eq_getElem hi] at hx
    cases hx
    have hgd : (looseAt (es.take n)).getD i 0 = (looseAt (es.take n))[i] := by simp [List.getD_eq_getElem?_getD, List.getElem?_eq_getElem hi]
    have hk5 := e _ _ hk4
    refine ⟨rfl, _, rfl, _, rfl, _, _, rfl, rfl, _, .inl (SqL.of hk5), fun b hb => ⟨_, rfl, ?_⟩⟩
    by_cases hm : (looseAt (es.take n))[i] ∈ kept
    · obtain rfl : b = false := by cases b <;> simp_all
      exact hZ (by rw [hgd, decide_eq_true hm]; rfl) _ (Same.refl _)
    · obtain rfl : b = true := by cases b <;> simp_all
      exact ⟨_, rfl, hR2 (by rw [hgd, decide_eq_false hm]; rfl) _ _ (Same.refl _) (by rw [hgd])⟩
  intro lp2 ys H5 hlp2 hys e5 hq
  rw [peq hq] at hys
  have hlost : ((List.range ((looseAt (es.take n)).map V.int).length).filter (fun i => !decide ((looseAt (es.take n)).getD i 0 ∈ kept))).map (fun i => V.int ((looseAt (es.take n)).getD i 0)) = (lostOf es n kept).map V.int := by
    unfold lostOf
    rw [← filt_get (fun i => !decide (i ∈ kept)) 0 (looseAt (es.take n)), List.map_map, List.length_map]
    rfl
  rw [hlost] at hys
  obtain ⟨ta, zs, rfl, hta, hzs⟩ := Rp.tup_eq htv
  have e35 : Same H3 H5 := e4.trans e5
  have hta5 := SqT.tk hta (tk_same e35)
  walk_at "go"
  intro tb H6 e6 htb
  rw [cut_to] at htb
  walk_at "go"
  have e26 : Same H2 H6 := by walk_at "sm"
  have e06 : Same H H6 := by walk_at "sm"
  have hds6 := hds.same e26
  have hlp6 := e6 _ _ hys
  have hzl : (zs.take n).length = n := by
    have h1 := hzs.length
    rw [List.length_map] at h1
    rw [List.length_take]
    omega
  have hlas : lp2 ∉ as := fun m => by
    obtain ⟨_, h1⟩ := hds6.isdk m
    rw [hlp6] at h1
    cases h1
  have hall : ∀ {b o}, H b = some o → b ∉ as := fun {b o} hb m => by
    have h1 := hfr b m
    have h2 := e1 _ _ hb
    rw [h1] at h2
    cases h2
  refine forG (n := n) (fun i σ H' => ∃ s6 s8, σ = [some v, some (.ref a), some (.int n), some (.ref k), some (.ref p), some (.ref ta), s6, some (.ref lp2), s8, none, none] ∧ Mv K as H6 H' ∧ DsAt K H' p as (filmF (lostOf es n kept) 0 ds (es.take i)) ∧ (∀ d ∈ filmF (lostOf es n kept) 0 ds (es.take i), d.ok R))
    ⟨none, none, rfl, .refl, by simpa [filmF] using hds6, by simpa [filmF] using hok⟩ (fun i σ H' hi ⟨_, _, _, m, _⟩ => ite_go (SqT.tk htb m.t) (by omega)) (fun σ H' ⟨_, _, _, m, _⟩ => ?_) ?_ ?_
  · have h1 := ite_stop (SqT.tk htb m.t)
    rw [hzl] at h1
    exact h1
  · rintro i σ H' x H2' hi ⟨s6, s8, rfl, m, hd, hdo⟩ hy
    obtain ⟨t, z, rfl, ht, rfl, hz⟩ := ite_yld (SqT.tk htb m.t) hy
    rw [List.getElem?_take, if_pos hi] at hz
    obtain ⟨d, hd1, hrz⟩ := hzs.getV hz
    rw [List.getElem?_map, Option.map_eq_some_iff] at hd1
    obtain ⟨en, hen, rfl⟩ := hd1
    have hrz2 : Rp K (upd H' t (.tup [.int (i : Nat), z])) z en.d := (((hrz.same e35).same e6).tk m.t).same (same_new ht)
    have hsn : filmF (lostOf es n kept) 0 ds (es.take (i + 1)) = if (i : Int) ∈ lostOf es n kept then filmF (lostOf es n kept) 0 ds (es.take i) else ap1 (filmF (lostOf es n kept) 0 ds (es.take i)) en := by
      rw [List.take_succ, hen, Option.toList_some, filmF_snoc, List.length_take]
      have := (List.getElem?_eq_some_iff.mp hen).1
      rw [Nat.min_eq_left (by omega), Nat.zero_add]
    have hlpt := at_new (o := .tup [.int (i : Nat), z]) ht (m.at hlp6 hlas)
    have m2 : Mv K as H6 (upd H' t (.tup [.int (i : Nat), z])) := m.trans (.of_same (same_new ht))
    refine ⟨_, _, rfl, SqT.new ht, rfl, ?_⟩
    walk_at "go"
    refine ⟨_, .inl (SqL.of hlpt), fun b hb => ⟨_, rfl, ?_⟩⟩
    by_cases hm : (i : Int) ∈ lostOf es n kept
    · obtain rfl : b = false := by cases b <;> simp_all
      rw [if_pos hm] at hsn
      exact ⟨_, _, rfl, m2, by rw [hsn]; exact hd.same (same_new ht), by rw [hsn]; exact hdo⟩
    · obtain rfl : b = true := by cases b <;> simp_all
      rw [if_neg hm] at hsn
      have heno := heok en (List.mem_of_getElem? hen)
      walk_at "go"
      refine ⟨z, p, as, _, en, R, rfl, hd.same (same_new ht), hrz2, heno, hdo, hR, fun H'' m3 hd3 => ?_⟩
      exact ⟨_, _, rfl, m2.trans m3, by rw [hsn]; exact hd3, by rw [hsn]; exact ok_ap1 hdo heno⟩
  · rintro σ H' ⟨s6, s8, rfl, m, hd, hdo⟩
    have hdl := hd.dl
    walk_at "go"
    refine lc_closed hd hdo hR (fun _ => rfl) (fun _ => rfl) fun q2 ys2 H7 hq2 e7 hy2 hr2 => ?_
    refine ⟨_, _, rfl, .inl ⟨SqL.of hy2, fun l hl => ?_⟩⟩
    have e0' : Same H H' := fun b o hb => m.at (e06 _ _ hb) (hall hb)
    exact q _ _ (by walk_at "sm") (.tup (SqT.new hl) (hr2.same (same_new hl)))


end
end WS
set_option Elab.async false
set_option linter.all false
set_option maxRecDepth 100000
set_option maxHeartbeats 4000000
/-! the dict of a superblock -/
namespace WS
open PySem PySem.Spec PyProof.Rows L2
def fieldsL : List Str := ["number", "blocks", "layout", "target", "way", "front", "aside", "missing", "rebuilt"]
def sbK : List Key := [.inr "number", .inr "blocks", .inr "layout", .inr "target", .inr "way", .inr "front", .inr "aside", .inr "missing", .inr "rebuilt"]
def tdKv (v0 v1 v2 v3 v4 v5 v6 v7 v8 : V) : List (Key × V) := [(.inr "number", v0), (.inr "blocks", v1), (.inr "layout", v2), (.inr "target", v3), (.inr "way", v4), (.inr "front", v5), (.inr "aside", v6), (.inr "missing", v7), (.inr "rebuilt", v8)]
section
variable {v0 v1 v2 v3 v4 v5 v6 v7 v8 x : V}
theorem td_zip : mergeK [] (sbK.zip [v0, v1, v2, v3, v4, v5, v6, v7, v8]) = tdKv v0 v1 v2 v3 v4 v5 v6 v7 v8 := by kernel_rfl
theorem td_get0 : valV (tdKv v0 v1 v2 v3 v4 v5 v6 v7 v8) (.inr "number") = some v0 := by kernel_rfl
theorem td_get1 : valV (tdKv v0 v1 v2 v3 v4 v5 v6 v7 v8) (.inr "blocks") = some v1 := by kernel_rfl
theorem td_get2 : valV (tdKv v0 v1 v2 v3 v4 v5 v6 v7 v8) (.inr "layout") = some v2 := by kernel_rfl
theorem td_get3 : valV (tdKv v0 v1 v2 v3 v4 v5 v6 v7 v8) (.inr "target") = some v3 := by kernel_rfl
theorem td_get4 : valV (tdKv v0 v1 v2 v3 v4 v5 v6 v7 v8) (.inr "way") = some v4 := by kernel_rfl
theorem td_get5 : valV (tdKv v0 v1 v2 v3 v4 v5 v6 v7 v8) (.inr "front") = some v5 := by kernel_rfl
theorem td_get6 : valV (tdKv v0 v1 v2 v3 v4 v5 v6 v7 v8) (.inr "aside") = some v6 := by kernel_rfl
theorem td_get7 : valV (tdKv v0 v1 v2 v3 v4 v5 v6 v7 v8) (.inr "missing") = some v7 := by kernel_rfl
theorem td_get8 : valV (tdKv v0 v1 v2 v3 v4 v5 v6 v7 v8) (.inr "rebuilt") = some v8 := by kernel_rfl
theorem td_put0 : putK (tdKv v0 v1 v2 v3 v4 v5 v6 v7 v8) (.inr "number") x = tdKv x v1 v2 v3 v4 v5 v6 v7 v8 := by kernel_rfl
theorem td_put1 : putK (tdKv v0 v1 v2 v3 v4 v5 v6 v7 v8) (.inr "blocks") x = tdKv v0 x v2 v3 v4 v5 v6 v7 v8 := by kernel_rfl
theorem td_put2 : putK (tdKv v0 v1 v2 v3 v4 v5 v6 v7 v8) (.inr "layout") x = tdKv v0 v1 x v3 v4 v5 v6 v7 v8 := by kernel_rfl
theorem td_put3 : putK (tdKv v0 v1 v2 v3 v4 v5 v6 v7 v8) (.inr "target") x = tdKv v0 v1 v2 x v4 v5 v6 v7 v8 := by kernel_rfl
theorem td_put4 : putK (tdKv v0 v1 v2 v3 v4 v5 v6 v7 v8) (.inr "way") x = tdKv v0 v1 v2 v3 x v5 v6 v7 v8 := by kernel_rfl
theorem td_put5 : putK (tdKv v0 v1 v2 v3 v4 v5 v6 v7 v8) (.inr "front") x = tdKv v0 v1 v2 v3 v4 x v6 v7 v8 := by kernel_rfl
theorem td_put6 : putK (tdKv v0 v1 v2 v3 v4 v5 v6 v7 v8) (.inr "aside") x = tdKv v0 v1 v2 v3 v4 v5 x v7 v8 := by kernel_rfl
theorem td_put7 : putK (tdKv v0 v1 v2 v3 v4 v5 v6 v7 v8) (.inr "missing") x = tdKv v0 v1 v2 v3 v4 v5 v6 x v8 := by kernel_rfl
theorem td_put8 : putK (tdKv v0 v1 v2 v3 v4 v5 v6 v7 v8) (.inr "rebuilt") x = tdKv v0 v1 v2 v3 v4 v5 v6 v7 x := by kernel_rfl
theorem td_merge6 : mergeK (tdKv v0 v1 v2 v3 v4 v5 v6 v7 v8) [(.inr "aside", x)] = tdKv v0 v1 v2 v3 v4 v5 x v7 v8 := by kernel_rfl
theorem td_merge8 {w1 w2 w3 w4 w5 w6 w7 w8 : V} : mergeK (tdKv v0 v1 v2 v3 v4 v5 v6 v7 v8) [(.inr "blocks", w1), (.inr "layout", w2), (.inr "target", w3), (.inr "way", w4), (.inr "front", w5), (.inr "aside", w6), (.inr "missing", w7), (.inr "rebuilt", w8)] = tdKv v0 w1 w2 w3 w4 w5 w6 w7 w8 := by kernel_rfl
theorem td_mgStep {w5 w6 : V} : mergeK (tdKv v0 v1 v2 v3 v4 v5 v6 v7 v8) [(.inr "front", w5), (.inr "aside", w6)] = tdKv v0 v1 v2 v3 v4 w5 w6 v7 v8 := by kernel_rfl
theorem td_mgBegun {w0 w3 w4 w5 : V} : mergeK (tdKv v0 v1 v2 v3 v4 v5 v6 v7 v8) [(.inr "number", w0), (.inr "target", w3), (.inr "way", w4), (.inr "front", w5)] = tdKv w0 v1 v2 w3 w4 w5 v6 v7 v8 := by kernel_rfl
theorem td_mgTurn {w2 w3 w4 : V} : mergeK (tdKv v0 v1 v2 v3 v4 v5 v6 v7 v8) [(.inr "layout", w2), (.inr "target", w3), (.inr "way", w4)] = tdKv v0 v1 w2 w3 w4 v5 v6 v7 v8 := by kernel_rfl
theorem td_mgEnd {w2 w3 w4 w5 : V} : mergeK (tdKv v0 v1 v2 v3 v4 v5 v6 v7 v8) [(.inr "layout", w2), (.inr "target", w3), (.inr "way", w4), (.inr "front", w5)] = tdKv v0 v1 w2 w3 w4 w5 v6 v7 v8 := by kernel_rfl
theorem td_mg0 : mergeK (tdKv v0 v1 v2 v3 v4 v5 v6 v7 v8) [] = tdKv v0 v1 v2 v3 v4 v5 v6 v7 v8 := rfl
end
end WS
set_option Elab.async false
set_option linter.all false
set_option maxRecDepth 100000
set_option maxHeartbeats 4000000
namespace WS
open PySem PySem.Spec PyProof.Rows L2
local macro_rules | `(tactic| walk_at "tdg") => `(tactic| first | (apply tdg0; walk_at "at") | (apply tdg1; walk_at "at") | (apply tdg2; walk_at "at") | (apply tdg3; walk_at "at") | (apply tdg4; walk_at "at") | (apply tdg5; walk_at "at") | (apply tdg6; walk_at "at") | (apply tdg7; walk_at "at") | (apply tdg8; walk_at "at"))
local macro_rules | `(tactic| walk_at "no") => `(tactic| first | assumption | (apply no_by; assumption; walk_at "sm"))
local macro_rules | `(tactic| walk_at "sm") => `(tactic| first | exact Same.refl _ | assumption | (apply same_up; walk_at "no"; walk_at "sm") | (apply same_by; assumption; walk_at "sm"))
local macro_rules | `(tactic| walk_at "tk") => `(tactic| first | exact TK.refl | assumption | (apply tk_up; walk_at "no"; walk_at "tk") | (apply tk_by; assumption; walk_at "tk") | (apply tk_mv; assumption; walk_at "tk"))
local macro_rules | `(tactic| walk_at "mv") => `(tactic| first | exact Mv.refl | assumption | (apply mv_up; walk_at "no"; walk_at "mv") | (apply mv_mv; assumption; walk_at "mv") | (apply mv_by; assumption; walk_at "mv"))
local macro_rules | `(tactic| walk_at "ne") => `(tactic| first | assumption | (refine Ne.symm ?_; assumption))
local macro_rules | `(tactic| walk_at "at") => `(tactic| first | assumption | exact upd_same | (apply at_new; walk_at "no"; walk_at "at") | (apply at_ne; walk_at "ne"; walk_at "at") | (apply at_same; assumption; walk_at "at") | (apply at_mv; assumption; assumption; walk_at "at"))
local macro_rules | `(tactic| walk_at "rp") => `(tactic| first | assumption | exact Rp.non | exact Rp.int _ | exact Rp.str _ | (apply rp_tk; assumption; walk_at "tk"))
local macro_rules | `(tactic| walk_at "sq") => `(tactic| first | assumption | exact (‹Tx _ _›).t_METAS _ | exact (‹Tx _ _›).t_FIELDS _ | exact (‹Tx _ _›).t_LEFT _ | exact (‹Tx _ _›).t_SYMMETRIC _ | (apply SqT.of; walk_at "at") | (apply SqL.of; walk_at "at") | (apply sqt_tk; assumption; walk_at "tk") | (apply sql_sm; assumption; walk_at "sm"))
local macro_rules | `(tactic| walk_at "sd") => `(tactic| first | rfl | omega | assumption | decide)
local macro_rules | `(tactic| walk_at "fld") => `(tactic| first | refine ⟨_, _, _, _, _, rfl, (by walk_at "at" : _ = some _), (‹Tx _ _›).c_Cells, (‹Tx _ _›).n_Cells_disks, rfl, ?_⟩ | refine ⟨_, _, _, _, _, rfl, (by walk_at "at" : _ = some _), (‹Tx _ _›).c_Cells, (‹Tx _ _›).n_Cells_done, rfl, ?_⟩ | refine ⟨_, _, _, _, _, rfl, (by walk_at "at" : _ = some _), (‹Tx _ _›).c_Cells, (‹Tx _ _›).n_Cells_begun, rfl, ?_⟩ | refine ⟨_, _, _, _, _, rfl, (by walk_at "at" : _ = some _), (‹Tx _ _›).c_Cells, (‹Tx _ _›).n_Cells_is_loose, rfl, ?_⟩ | refine ⟨_, _, _, _, _, rfl, (by walk_at "at" : _ = some _), (‹Tx _ _›).c_State, (‹Tx _ _›).n_State_cells, rfl, ?_⟩ | refine ⟨_, _, _, _, _, rfl, (by walk_at "at" : _ = some _), (‹Tx _ _›).c_State, (‹Tx _ _›).n_State_own_superblock, rfl, ?_⟩ | refine ⟨_, _, _, _, _, rfl, (by walk_at "at" : _ = some _), (‹Tx _ _›).c_Array, (‹Tx _ _›).n_Array_state, rfl, ?_⟩)
local macro_rules | `(tactic| walk_at "w") => `(tactic| first | refine ⟨_, rfl, ⟨_, (by walk_at "sq" : SqT _ _ _ _)⟩, ?_⟩ | refine ⟨_, rfl, ⟨_, (by walk_at "sq" : SqL _ _ _ _)⟩, ?_⟩ | refine ⟨_, rfl, ?_⟩ | refine ⟨_, _, rfl, rfl, ?_⟩ | refine ⟨rfl, ?_⟩ | refine ⟨_, _, rfl, (by walk_at "sq" : SqT _ _ _ _), rfl, ?_⟩ | refine ⟨_, _, rfl, (by walk_at "sq" : SqT _ _ _ _), ?_⟩ | refine ⟨_, _, rfl, (by walk_at "sq" : SqL _ _ _ _), ?_⟩ | refine ⟨_, _, rfl, (by walk_at "tdg" : DGet _ _ _ _), ?_⟩ | refine ⟨_, _, rfl, ?_⟩ | refine ⟨_, _, _, _, rfl, rfl, (by walk_at "sq" : SqT _ _ _ _), rfl, ?_⟩ | refine ⟨_, _, rfl, .inl (by walk_at "sq" : SqL _ _ _ _), rfl, rfl, ?_⟩ | refine ⟨_, _, rfl, .inr (by walk_at "sq" : SqT _ _ _ _), rfl, rfl, ?_⟩ | refine ⟨_, _, rfl, .inl (by walk_at "sq" : SqL _ _ _ _), ?_⟩ | refine ⟨_, _, rfl, .inr (by walk_at "sq" : SqT _ _ _ _), ?_⟩ | refine ⟨_, _, rfl, (by walk_at "at" : _ = some (HO.dK _)), ?_⟩ | refine ⟨_, _, _, _, rfl, rfl, (by walk_at "sq" : SqL _ _ _ _), rfl, ?_⟩ | refine ⟨_, _, _, rfl, (by walk_at "at" : _ = some _), rfl, ?_⟩ | refine ⟨_, _, _, rfl, ?_⟩ | walk_at "fld" | refine ty_d (by walk_at "at") ?_ | refine ty_l (by walk_at "sq") ?_ | refine ty_t (‹Tx _ _›).z_FIELDS ?_ | refine And.intro (by first | omega | decide | exact Nat.le_of_ble_eq_true rfl | (unfold CDiv; omega) | (unfold CMul; omega)) ?_)
local macro_rules | `(tactic| walk_at "go") => `(tactic| repeat walk_at "w")
section
variable {P : Program} {w : World} {K : PySem.W.Frag} {mg : Str → Option Value} {base : Heap}

theorem lay_open {H : Hp} {v : V} {l : Lay} (h : Rp K H v l.d) : ∃ a, v = .ref a ∧ SqT K H a [.int l.n, .str l.r.s] := by
  obtain ⟨a, xs, rfl, hs, hr⟩ := Rp.tup_eq h
  cases hr with
  | cons h1 t =>
    cases t with
    | cons h2 t =>
      cases t
      cases h1
      cases h2
      exact ⟨a, rfl, hs⟩
def sp_parity_disk (K : PySem.W.Frag) : Sp := fun vs H Q _ => ∃ (x : V) (l : Lay) (row : Int), vs = [x, .int row] ∧ Rp K H x l.d ∧ 0 < l.n ∧ Q (.int (par l row)) H

theorem ok_parity_disk (T : Tx K mg)  : GK P w K mg base "parity_disk" ["layout", "row"] 1 (sp_parity_disk K) [] := gk_mk T.f_parity_disk T.m_parity_disk (by decide +kernel) sc_parity_disk (fun _ _ _ _ _ _ us hl => match us, hl with | [_, _], _ => rfl) (fun _ _ _ _ h => by obtain ⟨_, _, _, rfl, _⟩ := h; rfl) fun cdv A outer s H vs Q E hr h => by
  have nd := sc_parity_disk.nd
  refine ⟨_, (pss_cons (ps_asg (pv 0) (pg_tupK K 2 rfl (pgs_cons (pg_name (i := 2) nd rfl (Or.inl rfl)) (pgs_cons (pg_name (i := 3) nd rfl (Or.inl rfl)) pgs_nil))))
  (pss_cons (ps_set (i := 4) nd rfl (Or.inl rfl) (pe_op op_mod (pv 1) (pv 2)))
  (pss_one (ps_ret (pe_ifExp (pt_cmpR (op_inK K) (pv 3) (pe_gr T.m_LEFT) (by rfl)) (pe_op op_sub (pe_op op_sub (pv 2) pe_int) (pv 4)) (pv 4)))))), ?_⟩
  obtain ⟨x, l, row, rfl, hx, hn, q⟩ := h
  obtain ⟨a, rfl, hs⟩ := lay_open hx
  unfold par at q
  rcases l with ⟨n, r⟩
  cases r
  all_goals
    walk_at "go"
    exact q

def sp_data_disk (K : PySem.W.Frag) : Sp := fun vs H Q _ => ∃ (x : V) (l : Lay) (row place : Int), vs = [x, .int row, .int place] ∧ Rp K H x l.d ∧ 0 < l.n ∧ Q (.int (dat l row place)) H

theorem ok_data_disk (T : Tx K mg) (g_parity_disk : GK P w K mg base "parity_disk" ["layout", "row"] 1 (sp_parity_disk K) []) : GK P w K mg base "data_disk" ["layout", "row", "place"] 2 (sp_data_disk K) [] := gk_mk T.f_data_disk T.m_data_disk (by decide +kernel) sc_data_disk (fun _ _ _ _ _ _ us hl => match us, hl with | [_, _, _], _ => rfl) (fun _ _ _ _ h => by obtain ⟨_, _, _, _, rfl, _⟩ := h; rfl) fun cdv A outer s H vs Q E hr h => by
  have nd := sc_data_disk.nd
  refine ⟨_, (pss_cons (ps_asg (pv 0) (pg_tupK K 2 rfl (pgs_cons (pg_name (i := 3) nd rfl (Or.inl rfl)) (pgs_cons (pg_name (i := 4) nd rfl (Or.inl rfl)) pgs_nil))))
  (pss_cons (ps_set (i := 5) nd rfl (Or.inl rfl) (pe_gkK g_parity_disk hr (by decide) (pa_cons (pv 0) (pa_cons (pv 1) pa_nil))))
  (pss_cons (ps_if (pt_cmpR (op_inK K) (pv 4) (pe_gr T.m_SYMMETRIC) (by rfl)) (pss_one (ps_ret (pe_op op_mod (pe_op op_add (pe_op op_add (pv 5) pe_int) (pv 2)) (pv 3)))) pss_nil)
  (pss_one (ps_ret (pe_ifExp (pt_cmpR op_lt (pv 2) (pv 5) (nomark _)) (pv 2) (pe_op op_add (pv 2) pe_int))))))), ?_⟩
  obtain ⟨x, l, row, place, rfl, hx, hn, q⟩ := h
  obtain ⟨a, rfl, hs⟩ := lay_open hx
  walk_at "go"
  refine ⟨_, l, row, rfl, hx, hn, ?_⟩
  unfold dat at q
  generalize par l row = p at *
  rcases l with ⟨n, r⟩
  cases r
  all_goals
    walk_at "go"
    first
      | exact q
      | (by_cases h1 : place < p
         · rw [decide_eq_true h1]
           walk_at "go"
           simpa [Rule.sym, h1] using q
         · rw [decide_eq_false h1]
           walk_at "go"
           simpa [Rule.sym, h1] using q)

def sp_place_of (K : PySem.W.Frag) : Sp := fun vs H Q _ => ∃ (x : V) (l : Lay) (b : Int), vs = [x, .int b] ∧ Rp K H x l.d ∧ 2 ≤ l.n ∧ l.n ≤ 1000 ∧
  ∀ v H', Same H H' → (∃ a, v = .ref a ∧ SqT K H' a [.int (rowOf l b), .int (dskOf l b)]) → Q v H'

theorem ok_place_of (T : Tx K mg) (g_data_disk : GK P w K mg base "data_disk" ["layout", "row", "place"] 2 (sp_data_disk K) []) : GK P w K mg base "place_of" ["layout", "block"] 3 (sp_place_of K) [] := gk_mk T.f_place_of T.m_place_of (by decide +kernel) sc_place_of (fun _ _ _ _ _ _ us hl => match us, hl with | [_, _], _ => rfl) (fun _ _ _ _ h => by obtain ⟨_, _, _, rfl, _⟩ := h; rfl) fun cdv A outer s H vs Q E hr h => by
  have nd := sc_place_of.nd
  refine ⟨_, (pss_cons (ps_set (i := 2) nd rfl (Or.inl rfl) (pe_op op_sub (pe_ix (ix_tupK K) (pv 0) pe_int (fun _ _ => rfl)) pe_int))
  (pss_cons (ps_set (i := 3) nd rfl (Or.inl rfl) (pe_op op_fdiv (pv 1) (pv 2)))
  (pss_one (ps_ret (pe_tup (pa_cons (pv 3) (pa_cons (pe_gkK g_data_disk hr (by decide) (pa_cons (pv 0) (pa_cons (pv 3) (pa_cons (pe_op op_sub (pv 1) (pe_op op_mul (pv 3) (pv 2))) pa_nil)))) pa_nil))))))), ?_⟩
  obtain ⟨x, l, b, rfl, hx, hn, hn2, q⟩ := h
  obtain ⟨a, rfl, hs⟩ := lay_open hx
  walk_at "go"
  refine ⟨_, l, _, _, rfl, hx, by omega, ?_⟩
  walk_at "go"
  intro p hp
  exact q _ _ (by walk_at "sm") ⟨_, rfl, by walk_at "sq"⟩


end
end WS
set_option Elab.async false
set_option linter.all false
set_option maxRecDepth 100000
set_option maxHeartbeats 4000000
namespace WS
open PySem PySem.Spec PyProof.Rows L2
local macro_rules | `(tactic| walk_at "tdg") => `(tactic| first | (apply tdg0; walk_at "at") | (apply tdg1; walk_at "at") | (apply tdg2; walk_at "at") | (apply tdg3; walk_at "at") | (apply tdg4; walk_at "at") | (apply tdg5; walk_at "at") | (apply tdg6; walk_at "at") | (apply tdg7; walk_at "at") | (apply tdg8; walk_at "at"))
local macro_rules | `(tactic| walk_at "no") => `(tactic| first | assumption | (apply no_by; assumption; walk_at "sm"))
local macro_rules | `(tactic| walk_at "sm") => `(tactic| first | exact Same.refl _ | assumption | (apply same_up; walk_at "no"; walk_at "sm") | (apply same_by; assumption; walk_at "sm"))
local macro_rules | `(tactic| walk_at "tk") => `(tactic| first | exact TK.refl | assumption | (apply tk_up; walk_at "no"; walk_at "tk") | (apply tk_by; assumption; walk_at "tk") | (apply tk_mv; assumption; walk_at "tk"))
local macro_rules | `(tactic| walk_at "mv") => `(tactic| first | exact Mv.refl | assumption | (apply mv_up; walk_at "no"; walk_at "mv") | (apply mv_mv; assumption; walk_at "mv") | (apply mv_by; assumption; walk_at "mv"))
local macro_rules | `(tactic| walk_at "ne") => `(tactic| first | assumption | (refine Ne.symm ?_; assumption))
local macro_rules | `(tactic| walk_at "at") => `(tactic| first | assumption | exact upd_same | (apply at_new; walk_at "no"; walk_at "at") | (apply at_ne; walk_at "ne"; walk_at "at") | (apply at_same; assumption; walk_at "at") | (apply at_mv; assumption; assumption; walk_at "at"))
local macro_rules | `(tactic| walk_at "rp") => `(tactic| first | assumption | exact Rp.non | exact Rp.int _ | exact Rp.str _ | (apply rp_tk; assumption; walk_at "tk"))
local macro_rules | `(tactic| walk_at "sq") => `(tactic| first | assumption | exact (‹Tx _ _›).t_METAS _ | exact (‹Tx _ _›).t_FIELDS _ | exact (‹Tx _ _›).t_LEFT _ | exact (‹Tx _ _›).t_SYMMETRIC _ | (apply SqT.of; walk_at "at") | (apply SqL.of; walk_at "at") | (apply sqt_tk; assumption; walk_at "tk") | (apply sql_sm; assumption; walk_at "sm"))
local macro_rules | `(tactic| walk_at "sd") => `(tactic| first | rfl | omega | assumption | decide)
local macro_rules | `(tactic| walk_at "fld") => `(tactic| first | refine ⟨_, _, _, _, _, rfl, (by walk_at "at" : _ = some _), (‹Tx _ _›).c_Cells, (‹Tx _ _›).n_Cells_disks, rfl, ?_⟩ | refine ⟨_, _, _, _, _, rfl, (by walk_at "at" : _ = some _), (‹Tx _ _›).c_Cells, (‹Tx _ _›).n_Cells_done, rfl, ?_⟩ | refine ⟨_, _, _, _, _, rfl, (by walk_at "at" : _ = some _), (‹Tx _ _›).c_Cells, (‹Tx _ _›).n_Cells_begun, rfl, ?_⟩ | refine ⟨_, _, _, _, _, rfl, (by walk_at "at" : _ = some _), (‹Tx _ _›).c_Cells, (‹Tx _ _›).n_Cells_is_loose, rfl, ?_⟩ | refine ⟨_, _, _, _, _, rfl, (by walk_at "at" : _ = some _), (‹Tx _ _›).c_State, (‹Tx _ _›).n_State_cells, rfl, ?_⟩ | refine ⟨_, _, _, _, _, rfl, (by walk_at "at" : _ = some _), (‹Tx _ _›).c_State, (‹Tx _ _›).n_State_own_superblock, rfl, ?_⟩ | refine ⟨_, _, _, _, _, rfl, (by walk_at "at" : _ = some _), (‹Tx _ _›).c_Array, (‹Tx _ _›).n_Array_state, rfl, ?_⟩)
local macro_rules | `(tactic| walk_at "w") => `(tactic| first | refine ⟨_, rfl, ⟨_, (by walk_at "sq" : SqT _ _ _ _)⟩, ?_⟩ | refine ⟨_, rfl, ⟨_, (by walk_at "sq" : SqL _ _ _ _)⟩, ?_⟩ | refine ⟨_, rfl, ?_⟩ | refine ⟨_, _, rfl, rfl, ?_⟩ | refine ⟨rfl, ?_⟩ | refine ⟨_, _, rfl, (by walk_at "sq" : SqT _ _ _ _), rfl, ?_⟩ | refine ⟨_, _, rfl, (by walk_at "sq" : SqT _ _ _ _), ?_⟩ | refine ⟨_, _, rfl, (by walk_at "sq" : SqL _ _ _ _), ?_⟩ | refine ⟨_, _, rfl, (by walk_at "tdg" : DGet _ _ _ _), ?_⟩ | refine ⟨_, _, rfl, ?_⟩ | refine ⟨_, _, _, _, rfl, rfl, (by walk_at "sq" : SqT _ _ _ _), rfl, ?_⟩ | refine ⟨_, _, rfl, .inl (by walk_at "sq" : SqL _ _ _ _), rfl, rfl, ?_⟩ | refine ⟨_, _, rfl, .inr (by walk_at "sq" : SqT _ _ _ _), rfl, rfl, ?_⟩ | refine ⟨_, _, rfl, .inl (by walk_at "sq" : SqL _ _ _ _), ?_⟩ | refine ⟨_, _, rfl, .inr (by walk_at "sq" : SqT _ _ _ _), ?_⟩ | refine ⟨_, _, rfl, (by walk_at "at" : _ = some (HO.dK _)), ?_⟩ | refine ⟨_, _, _, _, rfl, rfl, (by walk_at "sq" : SqL _ _ _ _), rfl, ?_⟩ | refine ⟨_, _, _, rfl, (by walk_at "at" : _ = some _), rfl, ?_⟩ | refine ⟨_, _, _, rfl, ?_⟩ | walk_at "fld" | refine ty_d (by walk_at "at") ?_ | refine ty_l (by walk_at "sq") ?_ | refine ty_t (‹Tx _ _›).z_FIELDS ?_ | refine And.intro (by first | omega | decide | exact Nat.le_of_ble_eq_true rfl | (unfold CDiv; omega) | (unfold CMul; omega)) ?_)
local macro_rules | `(tactic| walk_at "go") => `(tactic| repeat walk_at "w")
section
variable {P : Program} {w : World} {K : PySem.W.Frag} {mg : Str → Option Value} {base : Heap}

def sbV (s : SB) (x y : V) : List V := [.int s.num, .int s.blocks, x, y, s.wayV, .int s.front, optV s.aside, .non, .int 0]
theorem opt_eq {H : Hp} {o : Option Int} {v : V} (h : Rp K H v (optI o)) : v = optV o := by
  cases o with
  | none => exact h.non_eq
  | some i => exact h.int_eq
theorem opt_rp {H : Hp} (o : Option Int) : Rp K H (optV o) (optI o) := by
  cases o with
  | none => exact .non
  | some i => exact .int i
theorem way_eq {H : Hp} {s : SB} {v : V} (h : Rp K H v s.way) : v = s.wayV := by
  unfold SB.way at h
  unfold SB.wayV
  cases q : s.mv with
  | none => rw [q] at h; exact h.non_eq
  | some m => rw [q] at h; exact h.str_eq
theorem way_rp {H : Hp} (s : SB) : Rp K H s.wayV s.way := by
  unfold SB.way SB.wayV
  cases q : s.mv with
  | none => exact .non
  | some m => exact .str _
theorem sb_open {H : Hp} {v : V} {s : SB} (h : Rp K H v s.d) : ∃ a x y, v = .ref a ∧ SqT K H a (sbV s x y) ∧ Rp K H x s.lay.d ∧ Rp K H y s.tgt := by
  obtain ⟨a, xs, rfl, hs, hr⟩ := Rp.tup_eq h
  cases hr with
  | cons h0 t =>
  cases t with
  | cons h1 t =>
  cases t with
  | cons h2 t =>
  cases t with
  | cons h3 t =>
  cases t with
  | cons h4 t =>
  cases t with
  | cons h5 t =>
  cases t with
  | cons h6 t =>
  cases t with
  | cons h7 t =>
  cases t with
  | cons h8 t =>
  cases t
  refine ⟨a, _, _, rfl, ?_, h2, h3⟩
  rw [h0.int_eq, h1.int_eq, way_eq h4, h5.int_eq, opt_eq h6, h7.non_eq, h8.int_eq] at hs
  exact hs
theorem sb_rps {H : Hp} {s : SB} {x y : V} (hx : Rp K H x s.lay.d) (hy : Rp K H y s.tgt) : RpL K H (sbV s x y) s.l :=
  .cons (.int _) (.cons (.int _) (.cons hx (.cons hy (.cons (way_rp s) (.cons (.int _) (.cons (opt_rp _) (.cons .non (.cons (.int _) .nil))))))))
theorem sb_rp {H : Hp} {a : Addr} {s : SB} {x y : V} (hs : SqT K H a (sbV s x y)) (hx : Rp K H x s.lay.d) (hy : Rp K H y s.tgt) : Rp K H (.ref a) s.d := .tup hs (sb_rps hx hy)
theorem f_first : ∀ (j : Nat), j < 9 → ∀ m, m < j → fieldsL[m]? ≠ fieldsL[j]? := by decide +kernel
def sp_State_field (K : PySem.W.Frag) : Sp := fun vs H Q _ => ∃ (A : Ad) (S : ArrS) (j : Nat) (z : Str), vs = [.ref A.st, .str z] ∧ StateAt K H A S ∧ fieldsL[j]? = some z ∧ ∀ w, Rp K H w (S.sb.l.getD j .none) → Q w H

theorem ok_State_field (T : Tx K mg)  : MK P w K mg base "State" "field" ["self", "name"] 1 (sp_State_field K) := mk_mk T.f_State_field T.h_State_field T.c_State sc_State_field (fun _ _ _ _ _ _ us hl => match us, hl with | [_, _], _ => rfl) (fun _ _ _ _ h => by obtain ⟨_, _, _, _, rfl, _⟩ := h; rfl) fun cdv A outer s H vs Q E hr h => by
  have nd := sc_State_field.nd
  refine ⟨_, (pss_one (ps_ret (pe_ix (ix_tupK K) (pe_fldK K (pv 0)) (pe_bm PySem.F.plainAttrs_tuple PySem.F.slot_tuple_index PySem.F.type_tuple_index mt_tup_index (pe_gr T.m_FIELDS) (pa_cons (pv 1) pa_nil)) (fun _ _ => rfl)))), ?_⟩
  obtain ⟨A, S, j, z, rfl, hs, hj, q⟩ := h
  obtain ⟨v, hst, hv⟩ := hs.st
  obtain ⟨a, x, y, rfl, ha, hx, hy⟩ := sb_open hv
  have hj9 : j < 9 := (List.getElem?_eq_some_iff.mp hj).1
  walk_at "go"
  refine ⟨_, fieldsL, z, j, rfl, rfl, T.t_FIELDS _, hj, fun m hm => by rw [← hj]; exact f_first j hj9 m hm, ?_⟩
  obtain ⟨w, hw⟩ : ∃ w, (sbV S.sb x y)[j]? = some w := ⟨_, List.getElem?_eq_getElem hj9⟩
  have hat : atI (sbV S.sb x y) (j : Int) = some w := by
    unfold atI
    have h1 : ixN (sbV S.sb x y).length (j : Int) = some j := by
      unfold ixN
      rw [if_pos (by omega), if_pos (by show (j : Int) < 9; omega)]
      simp
    rw [h1]
    exact hw
  refine ⟨_, _, _, _, rfl, rfl, ha, hat, q w ?_⟩
  obtain ⟨d, hd⟩ : ∃ d, S.sb.l[j]? = some d := ⟨_, List.getElem?_eq_getElem hj9⟩
  rw [List.getD_eq_getElem?_getD, hd]
  exact rp_get (sb_rps hx hy) hw hd

theorem layAt_some {s : SB} {t : Lay} {up : Bool} {b : Int} (h : s.mv = some (t, up)) : layAt s b = if (decide (b < s.front) == up) = true then t else s.lay := by
  unfold layAt
  rw [h]
theorem layAt_none {s : SB} {b : Int} (h : s.mv = none) : layAt s b = s.lay := by
  unfold layAt
  rw [h]
theorem wayS_up (up : Bool) : decide (V.str (wayS up) = V.str "up") = up := by cases up <;> decide +kernel
def sp_State_layout_of (K : PySem.W.Frag) : Sp := fun vs H Q _ => ∃ (A : Ad) (S : ArrS) (b : Int), vs = [.ref A.st, .int b] ∧ StateAt K H A S ∧ ∀ w, Rp K H w (layAt S.sb b).d → Q w H

theorem ok_State_layout_of (T : Tx K mg) (g_State_field : MK P w K mg base "State" "field" ["self", "name"] 1 (sp_State_field K)) : MK P w K mg base "State" "layout_of" ["self", "block"] 2 (sp_State_layout_of K) := mk_mk T.f_State_layout_of T.h_State_layout_of T.c_State sc_State_layout_of (fun _ _ _ _ _ _ us hl => match us, hl with | [_, _], _ => rfl) (fun _ _ _ _ h => by obtain ⟨_, _, _, rfl, _⟩ := h; rfl) fun cdv A outer s H vs Q E hr h => by
  have nd := sc_State_layout_of.nd
  refine ⟨_, (pss_cons (ps_if (pt_cmpR op_isN (pe_mkK g_State_field hr (by decide) (pv 0) (pa_cons pe_str pa_nil)) pe_non (nomark _)) (pss_one (ps_ret (pe_mkK g_State_field hr (by decide) (pv 0) (pa_cons pe_str pa_nil)))) pss_nil)
  (pss_cons (ps_set (i := 2) nd rfl (Or.inl rfl) (pe_cmpR op_eq (pe_cmpR op_lt (pv 1) (pe_mkK g_State_field hr (by decide) (pv 0) (pa_cons pe_str pa_nil)) (nomark _)) (pe_cmpR op_eq (pe_mkK g_State_field hr (by decide) (pv 0) (pa_cons pe_str pa_nil)) (pe_gs T.m_UP) (nomark _)) (nomark _)))
  (pss_one (ps_ret (pe_ifExp (pt_val (pv 2)) (pe_mkK g_State_field hr (by decide) (pv 0) (pa_cons pe_str pa_nil)) (pe_mkK g_State_field hr (by decide) (pv 0) (pa_cons pe_str pa_nil))))))), ?_⟩
  obtain ⟨A, S, b, rfl, hs, q⟩ := h
  obtain ⟨v, hst, hv⟩ := hs.st
  walk_at "go"
  refine ⟨A, S, 3, _, rfl, hs, rfl, fun w hw => ?_⟩
  cases hmv : S.sb.mv with
  | none =>
    obtain rfl : w = .non := by
      have : S.sb.l.getD 3 .none = .none := by show S.sb.tgt = _; unfold SB.tgt; rw [hmv]
      rw [this] at hw
      exact hw.non_eq
    walk_at "go"
    refine ⟨A, S, 2, _, rfl, hs, rfl, fun w hw => ?_⟩
    refine q w ?_
    unfold layAt
    rw [hmv]
    exact hw
  | some m =>
    obtain ⟨t, up⟩ := m
    have ht : S.sb.l.getD 3 .none = t.d := by show S.sb.tgt = _; unfold SB.tgt; rw [hmv]
    rw [ht] at hw
    obtain ⟨a, rfl, _⟩ := lay_open hw
    walk_at "go"
    refine ⟨A, S, 5, _, rfl, hs, rfl, fun w5 hw5 => ?_⟩
    obtain rfl : w5 = .int S.sb.front := hw5.int_eq
    walk_at "go"
    refine ⟨A, S, 4, _, rfl, hs, rfl, fun w4 hw4 => ?_⟩
    obtain rfl : w4 = .str (wayS up) := by
      have : S.sb.l.getD 4 .none = .str (wayS up) := by show S.sb.way = _; unfold SB.way; rw [hmv]
      rw [this] at hw4
      exact hw4.str_eq
    walk_at "go"
    have e1 : decide (V.bl (decide (b < S.sb.front)) = V.bl (decide (V.str (wayS up) = V.str "up"))) = (decide (b < S.sb.front) == up) := by
      rw [wayS_up]
      cases decide (b < S.sb.front) <;> cases up <;> rfl
    rw [layAt_some hmv] at q
    rw [e1]
    cases hq : (decide (b < S.sb.front) == up) with
    | true =>
      rw [hq] at q
      walk_at "go"
      exact ⟨A, S, 3, _, rfl, hs, rfl, fun w hw => q w (by rw [ht] at hw; exact hw)⟩
    | false =>
      rw [hq] at q
      walk_at "go"
      exact ⟨A, S, 2, _, rfl, hs, rfl, fun w hw => q w hw⟩

def sp_State_is_open (K : PySem.W.Frag) : Sp := fun vs H Q _ => ∃ (A : Ad) (S : ArrS) (k row : Int), vs = [.ref A.st, .int k, .int row] ∧ StateAt K H A S ∧ 0 ≤ k ∧ k < 6 ∧ Q (.bl true) H

theorem ok_State_is_open (T : Tx K mg) (g_Cells_there : MK P w K mg base "Cells" "there" ["self", "disk"] 1 (sp_Cells_there K)) (g_State_field : MK P w K mg base "State" "field" ["self", "name"] 1 (sp_State_field K)) : MK P w K mg base "State" "is_open" ["self", "disk", "row"] 2 (sp_State_is_open K) := mk_mk T.f_State_is_open T.h_State_is_open T.c_State sc_State_is_open (fun _ _ _ _ _ _ us hl => match us, hl with | [_, _, _], _ => rfl) (fun _ _ _ _ h => by obtain ⟨_, _, _, _, rfl, _⟩ := h; rfl) fun cdv A outer s H vs Q E hr h => by
  have nd := sc_State_is_open.nd
  refine ⟨_, (pss_one (ps_ret (pe_and (pe_mkK g_Cells_there hr (by decide) (pe_fldK K (pv 0)) (pa_cons (pv 1) pa_nil)) (pe_one (pe_not (pe_and (pe_cmpR op_eq (pv 1) (pe_mkK g_State_field hr (by decide) (pv 0) (pa_cons pe_str pa_nil)) (nomark _)) (pe_one (pe_cmpR op_ge (pv 2) (pe_mkK g_State_field hr (by decide) (pv 0) (pa_cons pe_str pa_nil)) (nomark _))))))))), ?_⟩
  obtain ⟨A, S, k, row, rfl, hs, h0, h6, q⟩ := h
  obtain ⟨v, hst, hv⟩ := hs.st
  have hcs := hs.ce.cs
  walk_at "go"
  refine ⟨A, _, k, rfl, hs.ce, ?_⟩
  rw [decide_eq_true ⟨h0, h6⟩]
  walk_at "go"
  refine ⟨A, S, 7, _, rfl, hs, rfl, fun w hw => ?_⟩
  obtain rfl : w = .non := hw.non_eq
  walk_at "go"
  exact q

def sp_State_good (K : PySem.W.Frag) : Sp := fun vs H Q _ => ∃ (A : Ad) (S : ArrS) (k r : Nat) (d : DiskS) (x : Int), vs = [.ref A.st, .int k, .int r] ∧ StateAt K H A S ∧ S.ce.disks[k]? = some d ∧ d.cells[r]? = some x ∧ Q (.bl true) H
theorem disk_k {H : Hp} {A : Ad} {S : ArrS} {k : Nat} {d : DiskS} (hs : StateAt K H A S) (hd : S.ce.disks[k]? = some d) : k < 6 := by
  have := (List.getElem?_eq_some_iff.mp hd).1
  rw [← hs.ce.ds.m6]
  exact this

theorem ok_State_good (T : Tx K mg) (g_Cells_cell : MK P w K mg base "Cells" "cell" ["self", "disk", "place"] 2 (sp_Cells_cell K)) (g_State_is_open : MK P w K mg base "State" "is_open" ["self", "disk", "row"] 2 (sp_State_is_open K)) : MK P w K mg base "State" "good" ["self", "disk", "row"] 3 (sp_State_good K) := mk_mk T.f_State_good T.h_State_good T.c_State sc_State_good (fun _ _ _ _ _ _ us hl => match us, hl with | [_, _, _], _ => rfl) (fun _ _ _ _ h => by obtain ⟨_, _, _, _, _, _, rfl, _⟩ := h; rfl) fun cdv A outer s H vs Q E hr h => by
  have nd := sc_State_good.nd
  refine ⟨_, (pss_one (ps_ret (pe_and (pe_mkK g_State_is_open hr (by decide) (pv 0) (pa_cons (pv 1) (pa_cons (pv 2) pa_nil))) (pe_one (pe_cmpR op_notN (pe_mkK g_Cells_cell hr (by decide) (pe_fldK K (pv 0)) (pa_cons (pv 1) (pa_cons (pv 2) pa_nil))) pe_non (nomark _)))))), ?_⟩
  obtain ⟨A, S, k, r, d, x, rfl, hs, hd, hx, q⟩ := h
  obtain ⟨v, hst, hv⟩ := hs.st
  have hcs := hs.ce.cs
  have hk := disk_k hs hd
  walk_at "go"
  refine ⟨A, S, k, r, rfl, hs, by omega, by omega, ?_⟩
  walk_at "go"
  refine ⟨A, _, k, .cl r, d, .int x, rfl, hs.ce, hd, by show (d.cells[r]?).map _ = _; rw [hx]; rfl, fun w hw => ?_⟩
  obtain rfl : w = .int x := hw.int_eq
  walk_at "go"
  exact q

def sp_State_known (K : PySem.W.Frag) : Sp := fun vs H Q _ => ∃ (l : V) (A : Ad) (S : ArrS) (k r : Nat) (d : DiskS) (x : Int), vs = [.ref A.st, l, .int r, .int k] ∧ StateAt K H A S ∧ S.ce.disks[k]? = some d ∧ d.cells[r]? = some x ∧ Q (.int x) H

theorem ok_State_known (T : Tx K mg) (g_Cells_cell : MK P w K mg base "Cells" "cell" ["self", "disk", "place"] 2 (sp_Cells_cell K)) (g_State_good : MK P w K mg base "State" "good" ["self", "disk", "row"] 3 (sp_State_good K)) : MK P w K mg base "State" "known" ["self", "layout", "row", "disk"] 4 (sp_State_known K) := mk_mk T.f_State_known T.h_State_known T.c_State sc_State_known (fun _ _ _ _ _ _ us hl => match us, hl with | [_, _, _, _], _ => rfl) (fun _ _ _ _ h => by obtain ⟨_, _, _, _, _, _, _, rfl, _⟩ := h; rfl) fun cdv A outer s H vs Q E hr h => by
  have nd := sc_State_known.nd
  refine ⟨_, (pss_one (ps_ret (pe_ifExp (pt_val (pe_mkK g_State_good hr (by decide) (pv 0) (pa_cons (pv 3) (pa_cons (pv 2) pa_nil)))) (pe_mkK g_Cells_cell hr (by decide) (pe_fldK K (pv 0)) (pa_cons (pv 3) (pa_cons (pv 2) pa_nil))) pe_never))), ?_⟩
  obtain ⟨l, A, S, k, r, d, x, rfl, hs, hd, hx, q⟩ := h
  obtain ⟨v, hst, hv⟩ := hs.st
  have hcs := hs.ce.cs
  walk_at "go"
  refine ⟨A, S, k, r, d, x, rfl, hs, hd, hx, ?_⟩
  walk_at "go"
  refine ⟨A, _, k, .cl r, d, .int x, rfl, hs.ce, hd, by show (d.cells[r]?).map _ = _; rw [hx]; rfl, fun w hw => ?_⟩
  obtain rfl : w = .int x := hw.int_eq
  exact q

/-! ### where a block lies -/
theorem par_range {l : Lay} (h : 0 < l.n) (row : Int) : 0 ≤ par l row ∧ par l row < l.n := by
  have h1 := Int.emod_nonneg row (show l.n ≠ 0 by omega)
  have h2 := Int.emod_lt_of_pos row h
  unfold par
  split <;> omega
theorem dat_range {l : Lay} (h : 0 < l.n) (row : Int) {p : Int} (h0 : 0 ≤ p) (h1 : p < l.n - 1) : 0 ≤ dat l row p ∧ dat l row p < l.n := by
  have h2 := par_range h row
  unfold dat
  split
  · exact ⟨Int.emod_nonneg _ (by omega), Int.emod_lt_of_pos _ h⟩
  · split <;> omega
theorem place_range {l : Lay} (h : l.ok) (b : Int) : 0 ≤ b - b / (l.n - 1) * (l.n - 1) ∧ b - b / (l.n - 1) * (l.n - 1) < l.n - 1 := by
  have h1 : 3 ≤ l.n := h.1
  have h2 := Int.emod_nonneg b (show l.n - 1 ≠ 0 by omega)
  have h3 := Int.emod_lt_of_pos b (show 0 < l.n - 1 by omega)
  have h4 := Int.emod_add_mul_ediv b (l.n - 1)
  have h5 : b / (l.n - 1) * (l.n - 1) = (l.n - 1) * (b / (l.n - 1)) := Int.mul_comm _ _
  omega
theorem dsk_range {l : Lay} (h : l.ok) (b : Int) : 0 ≤ dskOf l b ∧ dskOf l b < l.n := by
  have h1 : 3 ≤ l.n := h.1
  obtain ⟨h2, h3⟩ := place_range h b
  exact dat_range (by omega) _ h2 h3
theorem layAt_ok {s : SB} (h : s.ok) (b : Int) : (layAt s b).ok := by
  unfold layAt
  cases q : s.mv with
  | none => exact h.lay
  | some m =>
    obtain ⟨t, up⟩ := m
    show Lay.ok (if _ then t else s.lay)
    split
    · exact h.tgt t up q
    · exact h.lay
theorem row_range {s : SB} (h : s.ok) {b : Int} (h0 : 0 ≤ b) {R : Nat} (h1 : b < 2 * R) : 0 ≤ rowOf (layAt s b) b ∧ rowOf (layAt s b) b < R := by
  have h2 := (layAt_ok h b).1
  unfold rowOf
  refine ⟨Int.ediv_nonneg h0 (by omega), Int.ediv_lt_of_lt_mul (by omega) ?_⟩
  have h3 : 2 * (R : Int) ≤ (R : Int) * ((layAt s b).n - 1) := by
    have h4 : (R : Int) * 2 ≤ (R : Int) * ((layAt s b).n - 1) := Int.mul_le_mul_of_nonneg_left (by omega) (by omega)
    omega
  omega
theorem cell_get {ds : List DiskS} {R k r : Nat} (h6 : ds.length = 6) (hok : ∀ d ∈ ds, d.ok R) (hk : k < 6) (hr : r < R) : ∃ d, ds[k]? = some d ∧ d.cells[r]? = some (cellAt ds k r) := by
  have h1 : ds[k]? = some (ds[k]'(by omega)) := List.getElem?_eq_getElem _
  have h2 := (hok _ (List.mem_of_getElem? h1)).n
  refine ⟨_, h1, ?_⟩
  unfold cellAt
  rw [h1]
  show _ = some ((ds[k]'(by omega)).cells.getD r 0)
  rw [List.getD_eq_getElem?_getD, List.getElem?_eq_getElem (by omega)]
  rfl
def sp_State_value (K : PySem.W.Frag) : Sp := fun vs H Q _ => ∃ (A : Ad) (S : ArrS) (b : Int) (R : Nat), vs = [.ref A.st, .int b] ∧ StateAt K H A S ∧ S.sb.ok ∧ S.ce.ok R ∧ 0 ≤ b ∧ b < 2 * R ∧ ∀ H', Same H H' → Q (.int (valAt S.sb S.ce.disks b)) H'

theorem ok_State_value (T : Tx K mg) (g_State_known : MK P w K mg base "State" "known" ["self", "layout", "row", "disk"] 4 (sp_State_known K)) (g_State_layout_of : MK P w K mg base "State" "layout_of" ["self", "block"] 2 (sp_State_layout_of K)) (g_place_of : GK P w K mg base "place_of" ["layout", "block"] 3 (sp_place_of K) []) : MK P w K mg base "State" "value" ["self", "block"] 5 (sp_State_value K) := mk_mk T.f_State_value T.h_State_value T.c_State sc_State_value (fun _ _ _ _ _ _ us hl => match us, hl with | [_, _], _ => rfl) (fun _ _ _ _ h => by obtain ⟨_, _, _, _, rfl, _⟩ := h; rfl) fun cdv A outer s H vs Q E hr h => by
  have nd := sc_State_value.nd
  refine ⟨_, (pss_cons (ps_set (i := 2) nd rfl (Or.inl rfl) (pe_mkK g_State_layout_of hr (by decide) (pv 0) (pa_cons (pv 1) pa_nil)))
  (pss_cons (ps_asg (pe_gkK g_place_of hr (by decide) (pa_cons (pv 2) (pa_cons (pv 1) pa_nil))) (pg_tupK K 2 rfl (pgs_cons (pg_name (i := 3) nd rfl (Or.inl rfl)) (pgs_cons (pg_name (i := 4) nd rfl (Or.inl rfl)) pgs_nil))))
  (pss_cons (ps_set (i := 5) nd rfl (Or.inl rfl) (pe_mkK g_State_known hr (by decide) (pv 0) (pa_cons (pv 2) (pa_cons (pv 3) (pa_cons (pv 4) pa_nil)))))
  (pss_cons (ps_if (pt_cmpR op_isN (pv 5) pe_non (nomark _)) pss_never pss_nil)
  (pss_one (ps_ret (pv 5))))))), ?_⟩
  obtain ⟨A, S, b, R, rfl, hs, hsb, hok, h0, hR, q⟩ := h
  obtain ⟨v, hst, hv⟩ := hs.st
  walk_at "go"
  refine ⟨A, S, b, rfl, hs, fun w hw => ?_⟩
  have hlo := layAt_ok hsb b
  walk_at "go"
  refine ⟨w, _, b, rfl, hw, by have := hlo.1; omega, by have := hlo.2; omega, fun pv H1 e1 ⟨a, ea, ha⟩ => ?_⟩
  subst ea
  have hst1 := e1 _ _ hst
  walk_at "go"
  obtain ⟨r0, r1⟩ := row_range hsb h0 hR
  obtain ⟨k0, k1⟩ := dsk_range hlo b
  have k2 := hlo.2
  obtain ⟨d, hd, hx⟩ := cell_get hok.nd hok.od (k := (dskOf (layAt S.sb b) b).toNat) (r := (rowOf (layAt S.sb b) b).toNat) (by omega) (by omega)
  refine ⟨w, A, S, (dskOf (layAt S.sb b) b).toNat, (rowOf (layAt S.sb b) b).toNat, d, _, ?_, hs.same e1, hd, hx, ?_⟩
  · rw [Int.toNat_of_nonneg r0, Int.toNat_of_nonneg k0]
    rfl
  walk_at "go"
  exact q _ e1


end
end WS
set_option Elab.async false
set_option linter.all false
set_option maxRecDepth 100000
set_option maxHeartbeats 4000000
namespace WS
open PySem PySem.Spec PyProof.Rows L2
local macro_rules | `(tactic| walk_at "tdg") => `(tactic| first | (apply tdg0; walk_at "at") | (apply tdg1; walk_at "at") | (apply tdg2; walk_at "at") | (apply tdg3; walk_at "at") | (apply tdg4; walk_at "at") | (apply tdg5; walk_at "at") | (apply tdg6; walk_at "at") | (apply tdg7; walk_at "at") | (apply tdg8; walk_at "at"))
local macro_rules | `(tactic| walk_at "no") => `(tactic| first | assumption | (apply no_by; assumption; walk_at "sm"))
local macro_rules | `(tactic| walk_at "sm") => `(tactic| first | exact Same.refl _ | assumption | (apply same_up; walk_at "no"; walk_at "sm") | (apply same_by; assumption; walk_at "sm"))
local macro_rules | `(tactic| walk_at "tk") => `(tactic| first | exact TK.refl | assumption | (apply tk_up; walk_at "no"; walk_at "tk") | (apply tk_by; assumption; walk_at "tk") | (apply tk_mv; assumption; walk_at "tk"))
local macro_rules | `(tactic| walk_at "mv") => `(tactic| first | exact Mv.refl | assumption | (apply mv_up; walk_at "no"; walk_at "mv") | (apply mv_mv; assumption; walk_at "mv") | (apply mv_by; assumption; walk_at "mv"))
local macro_rules | `(tactic| walk_at "ne") => `(tactic| first | assumption | (refine Ne.symm ?_; assumption))
local macro_rules | `(tactic| walk_at "at") => `(tactic| first | assumption | exact upd_same | (apply at_new; walk_at "no"; walk_at "at") | (apply at_ne; walk_at "ne"; walk_at "at") | (apply at_same; assumption; walk_at "at") | (apply at_mv; assumption; assumption; walk_at "at"))
local macro_rules | `(tactic| walk_at "rp") => `(tactic| first | assumption | exact Rp.non | exact Rp.int _ | exact Rp.str _ | (apply rp_tk; assumption; walk_at "tk"))
local macro_rules | `(tactic| walk_at "sq") => `(tactic| first | assumption | exact (‹Tx _ _›).t_METAS _ | exact (‹Tx _ _›).t_FIELDS _ | exact (‹Tx _ _›).t_LEFT _ | exact (‹Tx _ _›).t_SYMMETRIC _ | (apply SqT.of; walk_at "at") | (apply SqL.of; walk_at "at") | (apply sqt_tk; assumption; walk_at "tk") | (apply sql_sm; assumption; walk_at "sm"))
local macro_rules | `(tactic| walk_at "sd") => `(tactic| first | rfl | omega | assumption | decide)
local macro_rules | `(tactic| walk_at "fld") => `(tactic| first | refine ⟨_, _, _, _, _, rfl, (by walk_at "at" : _ = some _), (‹Tx _ _›).c_Cells, (‹Tx _ _›).n_Cells_disks, rfl, ?_⟩ | refine ⟨_, _, _, _, _, rfl, (by walk_at "at" : _ = some _), (‹Tx _ _›).c_Cells, (‹Tx _ _›).n_Cells_done, rfl, ?_⟩ | refine ⟨_, _, _, _, _, rfl, (by walk_at "at" : _ = some _), (‹Tx _ _›).c_Cells, (‹Tx _ _›).n_Cells_begun, rfl, ?_⟩ | refine ⟨_, _, _, _, _, rfl, (by walk_at "at" : _ = some _), (‹Tx _ _›).c_Cells, (‹Tx _ _›).n_Cells_is_loose, rfl, ?_⟩ | refine ⟨_, _, _, _, _, rfl, (by walk_at "at" : _ = some _), (‹Tx _ _›).c_State, (‹Tx _ _›).n_State_cells, rfl, ?_⟩ | refine ⟨_, _, _, _, _, rfl, (by walk_at "at" : _ = some _), (‹Tx _ _›).c_State, (‹Tx _ _›).n_State_own_superblock, rfl, ?_⟩ | refine ⟨_, _, _, _, _, rfl, (by walk_at "at" : _ = some _), (‹Tx _ _›).c_Array, (‹Tx _ _›).n_Array_state, rfl, ?_⟩)
local macro_rules | `(tactic| walk_at "w") => `(tactic| first | refine ⟨_, rfl, ⟨_, (by walk_at "sq" : SqT _ _ _ _)⟩, ?_⟩ | refine ⟨_, rfl, ⟨_, (by walk_at "sq" : SqL _ _ _ _)⟩, ?_⟩ | refine ⟨_, rfl, ?_⟩ | refine ⟨_, _, rfl, rfl, ?_⟩ | refine ⟨rfl, ?_⟩ | refine ⟨_, _, rfl, (by walk_at "sq" : SqT _ _ _ _), rfl, ?_⟩ | refine ⟨_, _, rfl, (by walk_at "sq" : SqT _ _ _ _), ?_⟩ | refine ⟨_, _, rfl, (by walk_at "sq" : SqL _ _ _ _), ?_⟩ | refine ⟨_, _, rfl, (by walk_at "tdg" : DGet _ _ _ _), ?_⟩ | refine ⟨_, _, rfl, ?_⟩ | refine ⟨_, _, _, _, rfl, rfl, (by walk_at "sq" : SqT _ _ _ _), rfl, ?_⟩ | refine ⟨_, _, rfl, .inl (by walk_at "sq" : SqL _ _ _ _), rfl, rfl, ?_⟩ | refine ⟨_, _, rfl, .inr (by walk_at "sq" : SqT _ _ _ _), rfl, rfl, ?_⟩ | refine ⟨_, _, rfl, .inl (by walk_at "sq" : SqL _ _ _ _), ?_⟩ | refine ⟨_, _, rfl, .inr (by walk_at "sq" : SqT _ _ _ _), ?_⟩ | refine ⟨_, _, rfl, (by walk_at "at" : _ = some (HO.dK _)), ?_⟩ | refine ⟨_, _, _, _, rfl, rfl, (by walk_at "sq" : SqL _ _ _ _), rfl, ?_⟩ | refine ⟨_, _, _, rfl, (by walk_at "at" : _ = some _), rfl, ?_⟩ | refine ⟨_, _, _, rfl, ?_⟩ | walk_at "fld" | refine ty_d (by walk_at "at") ?_ | refine ty_l (by walk_at "sq") ?_ | refine ty_t (‹Tx _ _›).z_FIELDS ?_ | refine And.intro (by first | omega | decide | exact Nat.le_of_ble_eq_true rfl | (unfold CDiv; omega) | (unfold CMul; omega)) ?_)
local macro_rules | `(tactic| walk_at "go") => `(tactic| repeat walk_at "w")
section
variable {P : Program} {w : World} {K : PySem.W.Frag} {mg : Str → Option Value} {base : Heap}

inductive UpS where
  | no
  | aside (r : Int)
  | all (s : SB)
def UpS.app (u : UpS) (s : SB) (step : Int) : SB := match u with
  | .no => { s with num := s.num + step }
  | .aside r => { s with num := s.num + step, aside := some r }
  | .all s' => { s' with num := s.num + step }
def allKv (s : SB) (x y : V) : List (Key × V) := [(.inr "blocks", .int s.blocks), (.inr "layout", x), (.inr "target", y), (.inr "way", s.wayV), (.inr "front", .int s.front), (.inr "aside", optV s.aside), (.inr "missing", .non), (.inr "rebuilt", .int 0)]
def UpAt (K : PySem.W.Frag) (H : Hp) (f : Addr) : UpS → Prop
  | .no => H f = some (.dK [])
  | .aside r => H f = some (.dK [(.inr "aside", .int r)])
  | .all s => ∃ x y, H f = some (.dK (allKv s x y)) ∧ Rp K H x s.lay.d ∧ Rp K H y s.tgt
theorem UpAt.same {H H' : Hp} {f : Addr} {u : UpS} (h : UpAt K H f u) (e : Same H H') : UpAt K H' f u := by
  cases u with
  | no => exact e _ _ h
  | aside r => exact e _ _ h
  | all s => obtain ⟨x, y, h1, h2, h3⟩ := h; exact ⟨x, y, e _ _ h1, h2.same e, h3.same e⟩
def tdOf (s : SB) (x y : V) : List (Key × V) := tdKv (.int s.num) (.int s.blocks) x y s.wayV (.int s.front) (optV s.aside) .non (.int 0)
section
variable {H : Hp} {a : Addr} {s : SB} {x y : V}
theorem tdg0 (h : H a = some (.dK (tdOf s x y))) : DGet H a (.str "number") (some (.int s.num)) := .inl ⟨_, .inr "number", .inl h, rfl, td_get0.symm⟩
theorem tdg1 (h : H a = some (.dK (tdOf s x y))) : DGet H a (.str "blocks") (some (.int s.blocks)) := .inl ⟨_, .inr "blocks", .inl h, rfl, td_get1.symm⟩
theorem tdg2 (h : H a = some (.dK (tdOf s x y))) : DGet H a (.str "layout") (some (x)) := .inl ⟨_, .inr "layout", .inl h, rfl, td_get2.symm⟩
theorem tdg3 (h : H a = some (.dK (tdOf s x y))) : DGet H a (.str "target") (some (y)) := .inl ⟨_, .inr "target", .inl h, rfl, td_get3.symm⟩
theorem tdg4 (h : H a = some (.dK (tdOf s x y))) : DGet H a (.str "way") (some (s.wayV)) := .inl ⟨_, .inr "way", .inl h, rfl, td_get4.symm⟩
theorem tdg5 (h : H a = some (.dK (tdOf s x y))) : DGet H a (.str "front") (some (.int s.front)) := .inl ⟨_, .inr "front", .inl h, rfl, td_get5.symm⟩
theorem tdg6 (h : H a = some (.dK (tdOf s x y))) : DGet H a (.str "aside") (some (optV s.aside)) := .inl ⟨_, .inr "aside", .inl h, rfl, td_get6.symm⟩
theorem tdg7 (h : H a = some (.dK (tdOf s x y))) : DGet H a (.str "missing") (some (.non)) := .inl ⟨_, .inr "missing", .inl h, rfl, td_get7.symm⟩
theorem tdg8 (h : H a = some (.dK (tdOf s x y))) : DGet H a (.str "rebuilt") (some (.int 0)) := .inl ⟨_, .inr "rebuilt", .inl h, rfl, td_get8.symm⟩
end
theorem up_merge {H : Hp} {f : Addr} {u : UpS} {s : SB} {x y : V} (h : UpAt K H f u) (hx : Rp K H x s.lay.d) (hy : Rp K H y s.tgt) :
    ∃ kvs x1 y1, H f = some (.dK kvs) ∧ kvs.length ≤ 8 ∧ mergeK (tdOf s x y) kvs = tdOf { u.app s 0 with num := s.num } x1 y1 ∧ Rp K H x1 (u.app s 0).lay.d ∧ Rp K H y1 (u.app s 0).tgt := by
  cases u with
  | no => exact ⟨_, x, y, h, by decide, rfl, hx, hy⟩
  | aside r => exact ⟨_, x, y, h, Nat.le_of_ble_eq_true rfl, td_merge6, hx, hy⟩
  | all s' =>
    obtain ⟨x1, y1, h1, h2, h3⟩ := h
    exact ⟨_, x1, y1, h1, Nat.le_of_ble_eq_true rfl, td_merge8, h2, h3⟩
theorem up_num (u : UpS) (s : SB) (step : Int) : { ({ u.app s 0 with num := s.num } : SB) with num := s.num + step } = u.app s step := by cases u <;> rfl
theorem fits_lay (l : Lay) : fits 2 l.d := fits_tup (n := 1) (by simp) fun x hx => by
  simp only [List.mem_cons, List.not_mem_nil, or_false] at hx
  rcases hx with z | z <;> subst z <;> trivial
theorem fits_sb (s : SB) : fits 3 s.d := by
  refine fits_tup (n := 2) (by simp [SB.l]) fun x hx => ?_
  simp only [SB.l, List.mem_cons, List.not_mem_nil, or_false] at hx
  rcases hx with z | z | z | z | z | z | z | z | z <;> subst z
  · trivial
  · trivial
  · exact fits_lay _
  · unfold SB.tgt; split
    · trivial
    · exact fits_lay _
  · unfold SB.way; split <;> trivial
  · trivial
  · cases s.aside <;> trivial
  · trivial
  · trivial
theorem sbV_9 {H H' : Hp} {D p : Addr} {s : SB} {x y : V} {ys : List V} (hq : PySem.Paired (fun i w => (sbV s x y)[i]? = some w) (List.range 9) ys) : ys = sbV s x y := pvs rfl hq
theorem td_at (s : SB) (x y : V) : ∀ i, i < 9 → ∃ (k : Str) (w : V), [V.str "number", V.str "blocks", V.str "layout", V.str "target", V.str "way", V.str "front", V.str "aside", V.str "missing", V.str "rebuilt"][i]? = some (V.str k) ∧ (sbV s x y)[i]? = some w ∧ valV (tdOf s x y) (.inr k) = some w
  | 0, _ => ⟨_, _, rfl, rfl, td_get0⟩
  | 1, _ => ⟨_, _, rfl, rfl, td_get1⟩
  | 2, _ => ⟨_, _, rfl, rfl, td_get2⟩
  | 3, _ => ⟨_, _, rfl, rfl, td_get3⟩
  | 4, _ => ⟨_, _, rfl, rfl, td_get4⟩
  | 5, _ => ⟨_, _, rfl, rfl, td_get5⟩
  | 6, _ => ⟨_, _, rfl, rfl, td_get6⟩
  | 7, _ => ⟨_, _, rfl, rfl, td_get7⟩
  | 8, _ => ⟨_, _, rfl, rfl, td_get8⟩
  | i + 9, h => absurd h (by omega)
/-- tuple([found[name] for name in FIELDS]): the list -/
theorem lc_fields {H : Hp} {D : Addr} {s : SB} {x y : V} {s1 s2 : Nat} {vs : List Nat} {σ : L2.St} {Q : VK} (T : Tx K mg) (hD : H D = some (.dK (tdOf s x y))) (hs1 : ∀ z, ((wipe σ vs).set s2 (some z))[s1]? = some (some (.ref D))) (hs2 : ∀ z, ((wipe σ vs).set s2 (some z))[s2]? = some (some z))
    (hw : ∀ x, wipe ((wipe σ vs).set s2 (some x)) vs = wipe σ vs) (q : ∀ p H', H p = none → Same H H' → H' p = some (.lst (sbV s x y)) → Q (.ref p) H') : LcG (Itt K (He.ga K "FIELDS")) (gName s2) tYes (tDGet (tVar s1) (tVar s2)) vs σ Q H := by
  refine lcA (n := 9) (fun i w _ => (sbV s x y)[i]? = some w) (by decide) (fun _ _ _ _ _ h => h) (fun i H' hi e => itt_go (T.t_FIELDS _) hi) (fun H' e => itt_stop (T.t_FIELDS _)) ?_ ?_
  · intro i H' z H2 hi e hy R hR
    obtain ⟨rfl, hz⟩ := itt_yld (T.t_FIELDS _) hy
    obtain ⟨k, w, h1, h2, h3⟩ := td_at s x y i hi
    rw [h1] at hz
    cases hz
    exact ⟨hw _, _, hs1 _, _, hs2 _, D, w, rfl, .inl ⟨_, .inr k, .inl (e _ _ hD), rfl, h3.symm⟩, hR _ _ (Same.refl _) h2⟩
  · intro p ys H' hp hy e hq
    rw [pvs rfl hq] at hy
    exact q p H' hp e hy
def sp_State_next_superblock (K : PySem.W.Frag) : Sp := fun vs H Q _ => ∃ (A : Ad) (S : ArrS) (f : Addr) (u : UpS) (step : Int), vs = [.ref A.st, .int step, .ref f] ∧ StateAt K H A S ∧ UpAt K H f u ∧
  ∀ v H', Same H H' → Rp K H' v (u.app S.sb step).d → Q v H'

theorem ok_State_next_superblock (T : Tx K mg) (g_State_field : MK P w K mg base "State" "field" ["self", "name"] 1 (sp_State_field K)) : MK P w K mg base "State" "next_superblock" ["self", "step", "fields"] 2 (sp_State_next_superblock K) := mk_mk T.f_State_next_superblock T.h_State_next_superblock T.c_State sc_State_next_superblock (fun _ _ _ _ _ _ us hl => match us, hl with | [_, _, _], _ => rfl) (fun _ _ _ _ h => by obtain ⟨_, _, _, _, _, rfl, _⟩ := h; rfl) fun cdv A outer s H vs Q E hr h => by
  have nd := sc_State_next_superblock.nd
  refine ⟨_, (pss_cons (ps_set (i := 3) nd rfl (Or.inr rfl) (pb_dictZip T.b_dict T.b_zip (pa_cons (pe_gr T.m_FIELDS) (pa_cons (pe_fldK K (pv 0)) pa_nil))))
  (pss_cons (ps_expr (pe_bm PySem.F.plainAttrs_dict PySem.F.slot_dict_update PySem.F.type_dict_update mtd_update (pv 3) (pa_cons (pv 2) pa_nil)))
  (pss_cons (ps_dput (hu_of hr) (pv 3) pe_str (pe_op op_add (pe_mkK g_State_field hr (by decide) (pv 0) (pa_cons pe_str pa_nil)) (pv 1)) rfl)
  (pss_one (ps_ret (pb_tupleK K T.b_tuple (pa_cons (pe_w (pe_lc (own := [("name", 4)]) (g := gName 4) (tt := tYes) rfl nd (pi_tupK K (pe_gr T.m_FIELDS)) (blkOk_by (N := ["self", "step", "fields", "found", "name"]) (sc := defScope s_State_next_superblock) (by decide +kernel)) (fun _ _ _ _ _ => (pg_name (i := 4) nd rfl (Or.inl rfl))) (fun _ _ _ _ _ => pts_nil) (fun _ _ _ _ _ => (pe_dget (hu_of hr) (pv 3) (pv 4) (fun _ _ => rfl))))) pa_nil))))))), ?_⟩
  obtain ⟨A, S, f, u, step, rfl, hs, hu, q⟩ := h
  obtain ⟨v, hst, hv⟩ := hs.st
  obtain ⟨a, x, y, rfl, ha, hx, hy⟩ := sb_open hv
  obtain ⟨kvs, x1, y1, hf, hl, hmg, hx1, hy1⟩ := up_merge (x := x) (y := y) hu hx hy
  walk_at "go"
  refine ⟨_, a, sbK, _, rfl, T.t_FIELDS _, ha, rfl, fun D hD => ?_⟩
  have e1 : Same H (upd H D (.dK (mergeK [] (sbK.zip (sbV S.sb x y))))) := same_new hD
  rw [show mergeK [] (sbK.zip (sbV S.sb x y)) = tdOf S.sb x y from td_zip] at e1 ⊢
  have hDf : D ≠ f := fun z => by rw [z, hf] at hD; cases hD
  walk_at "go"
  refine ⟨_, _, _, _, rfl, rfl, upd_same, by walk_at "at", hDf, ?_, ?_⟩
  · have h3 : (100 : Nat) < sizeLine := by decide
    have h4 : (tdOf S.sb x y).length = 9 := rfl
    omega
  rw [hmg]
  have e2 : Same H (upd (upd H D (.dK (tdOf S.sb x y))) D (.dK (tdOf { u.app S.sb 0 with num := S.sb.num } x1 y1))) := same_own hD e1
  have hD2 : (upd (upd H D (.dK (tdOf S.sb x y))) D (.dK (tdOf { u.app S.sb 0 with num := S.sb.num } x1 y1))) D = some (.dK (tdOf { u.app S.sb 0 with num := S.sb.num } x1 y1)) := upd_same
  generalize (upd (upd H D (.dK (tdOf S.sb x y))) D (.dK (tdOf { u.app S.sb 0 with num := S.sb.num } x1 y1))) = H2 at e2 hD2 ⊢
  have hst2 := e2 _ _ hst
  walk_at "go"
  refine ⟨A, S, 0, _, rfl, hs.same e2, rfl, fun w hw => ?_⟩
  obtain rfl : w = .int S.sb.num := hw.int_eq
  walk_at "go"
  refine ⟨_, _, rfl, .inl ⟨_, .inr "number", hD2, rfl, Nat.le_of_ble_eq_true rfl, rfl⟩, ?_⟩
  rw [show putK (tdOf { u.app S.sb 0 with num := S.sb.num } x1 y1) (.inr "number") (.int (S.sb.num + step)) = tdOf (u.app S.sb step) x1 y1 from (show _ = tdOf { ({ u.app S.sb 0 with num := S.sb.num } : SB) with num := S.sb.num + step } x1 y1 from td_put0).trans (by rw [up_num])]
  have e3 : Same H (upd H2 D (.dK (tdOf (u.app S.sb step) x1 y1))) := same_own hD e2
  have hD3 : (upd H2 D (.dK (tdOf (u.app S.sb step) x1 y1))) D = some (.dK (tdOf (u.app S.sb step) x1 y1)) := upd_same
  generalize (upd H2 D (.dK (tdOf (u.app S.sb step) x1 y1))) = H3 at e3 hD3 ⊢
  walk_at "go"
  refine lc_fields T hD3 (fun _ => rfl) (fun _ => rfl) (fun _ => rfl) fun p H4 hp e4 hp4 => ?_
  refine ⟨_, _, rfl, .inl ⟨SqL.of hp4, fun l hl => ?_⟩⟩
  have e5 : Same H (upd H4 l (.tup (sbV (u.app S.sb step) x1 y1))) := by walk_at "sm"
  refine q _ _ e5 (sb_rp (SqT.new hl) ?_ ?_)
  · have : (u.app S.sb step).lay.d = (u.app S.sb 0).lay.d := by cases u <;> rfl
    rw [this]
    exact hx1.same e5
  · have : (u.app S.sb step).tgt = (u.app S.sb 0).tgt := by cases u <;> rfl
    rw [this]
    exact hy1.same e5

/-! ### many puts -/
theorem CeS.puts_snoc (c : CeS) (es : List En) (e : En) : c.puts (es ++ [e]) = (c.puts es).put e := by simp [CeS.puts]
theorem CeS.puts_len (c : CeS) (es : List En) : (c.puts es).done.length = c.done.length + es.length := by
  induction es generalizing c with
  | nil => rfl
  | cons e es ih =>
    show ((c.put e).puts es).done.length = _
    rw [ih]
    simp [CeS.put]
    omega
theorem CeS.ok.ok_put {c : CeS} {e : En} {R : Nat} (h : c.ok R) (he : e.ok R) : (c.put e).ok R :=
  ⟨h.nb, by rw [← h.nd]; exact len_ap1 _ _, h.ob, ok_ap1 h.od he, fun x hx => by
    rcases List.mem_append.mp hx with hx | hx
    · exact h.oe x hx
    · rw [List.mem_singleton.mp hx]; exact he, by
    show ap1 c.disks e = ap c.begun (c.done ++ [e])
    rw [h.run]
    simp [ap], h.r0, h.r1⟩
theorem CeS.ok.ok_note {c : CeS} {e : En} {R : Nat} (h : c.ok R) (he : e.ok R) : (c.note e).ok R := by
  have := h.ok_put he
  exact ⟨this.nb, this.nd, this.ob, this.od, this.oe, this.run, this.r0, this.r1⟩
theorem CeS.ok.ok_flush {c : CeS} {R : Nat} (h : c.ok R) : c.flush.ok R := by
  cases hl : c.loose with
  | false => exact ⟨h.nb, h.nd, h.ob, h.od, by simp [CeS.flush, hl]; exact h.oe, by simp [CeS.flush, hl]; exact h.run, h.r0, h.r1⟩
  | true =>
    refine ⟨h.nb, h.nd, h.ob, h.od, ?_, ?_, h.r0, h.r1⟩
    · simp only [CeS.flush, hl, if_true]
      intro x hx
      rcases List.mem_append.mp hx with hx | hx
      · exact h.oe x hx
      · rw [List.mem_singleton.mp hx]; trivial
    · simp only [CeS.flush, hl, if_true]
      rw [h.run]
      simp [ap, ap1]
theorem CeS.ok.ok_puts {R : Nat} : ∀ {es : List En} {c : CeS}, c.ok R → (∀ e ∈ es, e.ok R) → (c.puts es).ok R
  | [], _, h, _ => h
  | e :: es, c, h, he => CeS.ok.ok_puts (es := es) (c := c.put e) (h.ok_put (he e (by simp))) fun x hx => he x (by simp [hx])
theorem CeS.flush_len (c : CeS) : c.flush.done.length ≤ c.done.length + 1 := by
  unfold CeS.flush
  split <;> simp
def superEs (s : SB) : List En := (List.range 6).map fun k => .meta_ k .sb s.d
theorem super_ok (s : SB) (R : Nat) : ∀ e ∈ superEs s, e.ok R := fun e he => by
  obtain ⟨k, hk, rfl⟩ := List.mem_map.mp he
  exact ⟨List.mem_range.mp hk, fits_sb s⟩
theorem range_take_succ (f : Nat → En) {i n : Nat} (h : i < n) : ((List.range n).map f).take (i + 1) = ((List.range n).map f).take i ++ [f i] := by
  have h1 : ((List.range n).map f)[i]? = some (f i) := by simp [List.getElem?_range h]
  rw [List.take_succ, h1]
  rfl
theorem G_some {H : Hp} {A : Ad} {c : CeS} (h : CellsAt K H A c) {a : Addr} (ha : a ∈ A.G) : ∃ o, H a = some o := by
  simp only [Ad.G, List.mem_cons] at ha
  rcases ha with z | z | z
  · subst z; exact ⟨_, h.cs⟩
  · subst z; obtain ⟨es, h1, _⟩ := h.dn; exact ⟨_, h1⟩
  · obtain ⟨kvs, h1⟩ := h.ds.isdk z; exact ⟨_, h1⟩
theorem not_G {H : Hp} {A : Ad} {c : CeS} {p : Addr} (h : CellsAt K H A c) (hp : H p = none) : p ∉ A.G := fun m => by
  obtain ⟨o, ho⟩ := G_some h m
  rw [hp] at ho
  cases ho
theorem StateAt.st_G {H : Hp} {A : Ad} {S : ArrS} (h : StateAt K H A S) : A.st ∉ A.G := fun m => by
  obtain ⟨v, h1, _⟩ := h.st
  simp only [Ad.G, List.mem_cons] at m
  rcases m with z | z | z
  · exact h.ne z
  · obtain ⟨es, h2, _⟩ := h.ce.dn
    rw [← z, h1] at h2
    cases h2
  · obtain ⟨kvs, h2⟩ := h.ce.ds.isdk z
    rw [h1] at h2
    cases h2
theorem StateAt.st_dl {H : Hp} {A : Ad} {S : ArrS} (h : StateAt K H A S) : A.st ≠ A.dl := fun z => by
  obtain ⟨v, h1, _⟩ := h.st
  have h2 := h.ce.ds.dl
  rw [← z, h1] at h2
  cases h2
theorem StateAt.setCe {H H' : Hp} {A : Ad} {S : ArrS} {c : CeS} (h : StateAt K H A S) (m : Mv K A.G H H') (hc : CellsAt K H' A c) : StateAt K H' A { S with ce := c } := by
  obtain ⟨v, h1, h2⟩ := h.st
  exact ⟨⟨v, m.at h1 h.st_G, h2.tk m.t⟩, hc, h.ne⟩
theorem F_of_G {A : Ad} : ∀ a ∈ A.G, a ∈ A.F := fun a h => by
  simp only [Ad.G, List.mem_cons] at h
  simp only [Ad.F, List.mem_cons]
  exact .inr h
theorem StateAt.setSb {H : Hp} {A : Ad} {S : ArrS} {v : V} {s : SB} (h : StateAt K H A S) (hv : Rp K H v s.d) :
    StateAt K (upd H A.st (.ins (He.ga K "State") A.dxs [("cells", .ref A.cs), ("own_superblock", v)])) A { S with sb := s } ∧ Mv K A.F H (upd H A.st (.ins (He.ga K "State") A.dxs [("cells", .ref A.cs), ("own_superblock", v)])) := by
  obtain ⟨v0, h1, _⟩ := h.st
  have m : Mv K [A.st] H (upd H A.st (.ins (He.ga K "State") A.dxs [("cells", .ref A.cs), ("own_superblock", v)])) := Mv.ins h1 (by simp)
  exact ⟨⟨⟨v, upd_same, hv.tk m.t⟩, h.ce.to m (by simpa using fun z => h.st_dl z.symm) (fun a ha z => h.st_G (List.mem_singleton.mp z ▸ ha)), h.ne⟩, m.sub (by simp [Ad.F])⟩
def putSuper (S : ArrS) (s : SB) : ArrS := ⟨s, (S.ce.puts (superEs s)).flush⟩
theorem six_at {i : Nat} {x : V} (h : (six.map V.int)[i]? = some x) : i < 6 ∧ x = .int (i : Nat) := by
  have hl := (List.getElem?_eq_some_iff.mp h).1
  have hl : i < 6 := hl
  refine ⟨hl, ?_⟩
  match i, hl with
  | 0, _ => exact (Option.some.inj h).symm
  | 1, _ => exact (Option.some.inj h).symm
  | 2, _ => exact (Option.some.inj h).symm
  | 3, _ => exact (Option.some.inj h).symm
  | 4, _ => exact (Option.some.inj h).symm
  | 5, _ => exact (Option.some.inj h).symm
def sp_State_put_super (K : PySem.W.Frag) : Sp := fun vs H Q _ => ∃ (A : Ad) (S : ArrS) (s : SB) (R : Nat) (v : V), vs = [.ref A.st, v] ∧ StateAt K H A S ∧ S.ce.ok R ∧ Rp K H v s.d ∧ S.ce.done.length ≤ 9000 ∧
  ∀ H', Mv K A.F H H' → StateAt K H' A (putSuper S s) → Q .non H'

theorem ok_State_put_super (T : Tx K mg) (g_Cells_flush : MK P w K mg base "Cells" "flush" ["self"] 1 (sp_Cells_flush K)) (g_Cells_numbers : MK P w K mg base "Cells" "numbers" ["self"] 2 (sp_Cells_numbers K)) (g_Cells_put : MK P w K mg base "Cells" "put" ["self", "disk", "place", "contents"] 3 (sp_Cells_put K)) : MK P w K mg base "State" "put_super" ["self", "superblock"] 4 (sp_State_put_super K) := mk_mk T.f_State_put_super T.h_State_put_super T.c_State sc_State_put_super (fun _ _ _ _ _ _ us hl => match us, hl with | [_, _], _ => rfl) (fun _ _ _ _ h => by obtain ⟨_, _, _, _, _, rfl, _⟩ := h; rfl) fun cdv A outer s H vs Q E hr h => by
  have nd := sc_State_put_super.nd
  refine ⟨_, (pss_cons (ps_wf (ps_for PassesOwn.never rfl (pi_listK K (pe_mk0K g_Cells_numbers hr (by decide) (pe_fldK K (pv 0)))) (pg_name (i := 2) nd rfl (Or.inl rfl)) (pss_one (ps_expr (pe_mkK g_Cells_put hr (by decide) (pe_fldK K (pv 0)) (pa_cons (pv 2) (pa_cons pe_str (pa_cons (pv 1) pa_nil))))))))
  (pss_cons (ps_expr (pe_mk0K g_Cells_flush hr (by decide) (pe_fldK K (pv 0))))
  (pss_one (ps_fld (pv 0) (pv 1) rfl)))), ?_⟩
  obtain ⟨A, S, s, R, v, rfl, hs, hok, hv, hl, q⟩ := h
  obtain ⟨v0, hst, _⟩ := hs.st
  have hcs := hs.ce.cs
  walk_at "go"
  refine ⟨A, _, rfl, hs.ce, fun p H1 hp e1 hp1 => ?_⟩
  have hpG := not_G hs.ce hp
  have hs1 := hs.same e1
  have hst1 := e1 _ _ hst
  have hv1 := hv.same e1
  walk_at "go"
  refine forG (n := 6) (fun i σ H' => ∃ s2, σ = [some (.ref A.st), some v, s2] ∧ Mv K A.G H1 H' ∧ CellsAt K H' A (S.ce.puts ((superEs s).take i))) ⟨none, rfl, .refl, hs1.ce⟩ (fun i σ H' hi ⟨_, _, m, _⟩ => itl_go (SqL.of (m.at hp1 hpG)) (by simpa [six] using hi)) (fun σ H' ⟨_, _, m, _⟩ => itl_stop (SqL.of (m.at hp1 hpG))) ?_ ?_
  · rintro i σ H' x H2 hi ⟨s2, rfl, m, hc⟩ hy
    obtain ⟨rfl, hx⟩ := itl_yld (SqL.of (m.at hp1 hpG)) hy
    obtain ⟨_, rfl⟩ := six_at hx
    have hst2 := m.at hst1 hs.st_G
    have hcs2 := hc.cs
    walk_at "go"
    have hsub : ∀ e ∈ (superEs s).take i, e.ok R := fun e he => super_ok s R e (List.mem_of_mem_take he)
    refine ⟨A, _, .meta_ i .sb s.d, R, i, _, _, rfl, hc, hok.ok_puts hsub, ⟨rfl, rfl, hv1.tk m.t⟩, ⟨hi, fits_sb s⟩, ?_, fun H3 m3 hc3 => ⟨_, rfl, m.trans m3, ?_⟩⟩
    · rw [CeS.puts_len]
      have : ((superEs s).take i).length ≤ i := List.length_take_le _ _
      omega
    · unfold superEs at hc3 ⊢
      rw [range_take_succ _ hi, CeS.puts_snoc]
      exact hc3
  · rintro σ H' ⟨s2, rfl, m, hc⟩
    have hfull : (superEs s).take 6 = superEs s := List.take_of_length_le (by simp [superEs])
    rw [hfull] at hc
    have hst2 := m.at hst1 hs.st_G
    have hcs2 := hc.cs
    walk_at "go"
    refine ⟨A, _, rfl, hc, ?_, fun H3 m3 hc3 => ?_⟩
    · rw [CeS.puts_len]
      have : (superEs s).length = 6 := by simp [superEs]
      omega
    have m13 : Mv K A.G H1 H3 := m.trans m3
    have hs3 : StateAt K H3 A _ := hs1.setCe m13 hc3
    obtain ⟨w, hst3, _⟩ := hs3.st
    walk_at "go"
    refine ⟨_, _, _, _, rfl, hst3, T.c_State, T.n_State_own_superblock, Nat.le_of_ble_eq_true rfl, ?_⟩
    obtain ⟨hs4, m4⟩ := hs3.setSb (v := v) (s := s) (hv1.tk m13.t)
    exact q _ ((Mv.of_same e1).trans ((m13.sub F_of_G).trans m4)) hs4

def goOn (S : ArrS) (u : UpS) : ArrS := putSuper S (u.app S.sb 1)
def sp_State_go_on (K : PySem.W.Frag) : Sp := fun vs H Q _ => ∃ (A : Ad) (S : ArrS) (f : Addr) (u : UpS) (R : Nat), vs = [.ref A.st, .ref f] ∧ StateAt K H A S ∧ S.ce.ok R ∧ UpAt K H f u ∧ S.ce.done.length ≤ 9000 ∧
  ∀ H', Mv K A.F H H' → StateAt K H' A (goOn S u) → Q .non H'

theorem ok_State_go_on (T : Tx K mg) (g_State_next_superblock : MK P w K mg base "State" "next_superblock" ["self", "step", "fields"] 2 (sp_State_next_superblock K)) (g_State_put_super : MK P w K mg base "State" "put_super" ["self", "superblock"] 4 (sp_State_put_super K)) : MK P w K mg base "State" "go_on" ["self", "fields"] 5 (sp_State_go_on K) := mk_mk T.f_State_go_on T.h_State_go_on T.c_State sc_State_go_on (fun _ _ _ _ _ _ us hl => match us, hl with | [_, _], _ => rfl) (fun _ _ _ _ h => by obtain ⟨_, _, _, _, _, rfl, _⟩ := h; rfl) fun cdv A outer s H vs Q E hr h => by
  have nd := sc_State_go_on.nd
  refine ⟨_, (pss_one (ps_expr (pe_mkK g_State_put_super hr (by decide) (pv 0) (pa_cons (pe_mkK g_State_next_superblock hr (by decide) (pv 0) (pa_cons pe_int (pa_cons (pv 1) pa_nil))) pa_nil)))), ?_⟩
  obtain ⟨A, S, f, u, R, rfl, hs, hok, hu, hl, q⟩ := h
  obtain ⟨v0, hst, _⟩ := hs.st
  walk_at "go"
  refine ⟨A, S, f, u, 1, rfl, hs, hu, fun v H1 e1 hv => ?_⟩
  walk_at "go"
  refine ⟨A, S, _, R, v, rfl, hs.same e1, hok, hv, hl, fun H2 m2 hs2 => ?_⟩
  walk_at "go"
  exact q _ ((Mv.of_same e1).trans m2) hs2


end
end WS
set_option Elab.async false
set_option linter.all false
set_option maxRecDepth 100000
set_option maxHeartbeats 4000000
namespace WS
open PySem PySem.Spec PyProof.Rows L2
local macro_rules | `(tactic| walk_at "tdg") => `(tactic| first | (apply tdg0; walk_at "at") | (apply tdg1; walk_at "at") | (apply tdg2; walk_at "at") | (apply tdg3; walk_at "at") | (apply tdg4; walk_at "at") | (apply tdg5; walk_at "at") | (apply tdg6; walk_at "at") | (apply tdg7; walk_at "at") | (apply tdg8; walk_at "at"))
local macro_rules | `(tactic| walk_at "no") => `(tactic| first | assumption | (apply no_by; assumption; walk_at "sm"))
local macro_rules | `(tactic| walk_at "sm") => `(tactic| first | exact Same.refl _ | assumption | (apply same_up; walk_at "no"; walk_at "sm") | (apply same_by; assumption; walk_at "sm"))
local macro_rules | `(tactic| walk_at "tk") => `(tactic| first | exact TK.refl | assumption | (apply tk_up; walk_at "no"; walk_at "tk") | (apply tk_by; assumption; walk_at "tk") | (apply tk_mv; assumption; walk_at "tk"))
local macro_rules | `(tactic| walk_at "mv") => `(tactic| first | exact Mv.refl | assumption | (apply mv_up; walk_at "no"; walk_at "mv") | (apply mv_mv; assumption; walk_at "mv") | (apply mv_by; assumption; walk_at "mv"))
local macro_rules | `(tactic| walk_at "ne") => `(tactic| first | assumption | (refine Ne.symm ?_; assumption))
local macro_rules | `(tactic| walk_at "at") => `(tactic| first | assumption | exact upd_same | (apply at_new; walk_at "no"; walk_at "at") | (apply at_ne; walk_at "ne"; walk_at "at") | (apply at_same; assumption; walk_at "at") | (apply at_mv; assumption; assumption; walk_at "at"))
local macro_rules | `(tactic| walk_at "rp") => `(tactic| first | assumption | exact Rp.non | exact Rp.int _ | exact Rp.str _ | (apply rp_tk; assumption; walk_at "tk"))
local macro_rules | `(tactic| walk_at "sq") => `(tactic| first | assumption | exact (‹Tx _ _›).t_METAS _ | exact (‹Tx _ _›).t_FIELDS _ | exact (‹Tx _ _›).t_LEFT _ | exact (‹Tx _ _›).t_SYMMETRIC _ | (apply SqT.of; walk_at "at") | (apply SqL.of; walk_at "at") | (apply sqt_tk; assumption; walk_at "tk") | (apply sql_sm; assumption; walk_at "sm"))
local macro_rules | `(tactic| walk_at "sd") => `(tactic| first | rfl | omega | assumption | decide)
local macro_rules | `(tactic| walk_at "fld") => `(tactic| first | refine ⟨_, _, _, _, _, rfl, (by walk_at "at" : _ = some _), (‹Tx _ _›).c_Cells, (‹Tx _ _›).n_Cells_disks, rfl, ?_⟩ | refine ⟨_, _, _, _, _, rfl, (by walk_at "at" : _ = some _), (‹Tx _ _›).c_Cells, (‹Tx _ _›).n_Cells_done, rfl, ?_⟩ | refine ⟨_, _, _, _, _, rfl, (by walk_at "at" : _ = some _), (‹Tx _ _›).c_Cells, (‹Tx _ _›).n_Cells_begun, rfl, ?_⟩ | refine ⟨_, _, _, _, _, rfl, (by walk_at "at" : _ = some _), (‹Tx _ _›).c_Cells, (‹Tx _ _›).n_Cells_is_loose, rfl, ?_⟩ | refine ⟨_, _, _, _, _, rfl, (by walk_at "at" : _ = some _), (‹Tx _ _›).c_State, (‹Tx _ _›).n_State_cells, rfl, ?_⟩ | refine ⟨_, _, _, _, _, rfl, (by walk_at "at" : _ = some _), (‹Tx _ _›).c_State, (‹Tx _ _›).n_State_own_superblock, rfl, ?_⟩ | refine ⟨_, _, _, _, _, rfl, (by walk_at "at" : _ = some _), (‹Tx _ _›).c_Array, (‹Tx _ _›).n_Array_state, rfl, ?_⟩)
local macro_rules | `(tactic| walk_at "w") => `(tactic| first | refine ⟨_, rfl, ⟨_, (by walk_at "sq" : SqT _ _ _ _)⟩, ?_⟩ | refine ⟨_, rfl, ⟨_, (by walk_at "sq" : SqL _ _ _ _)⟩, ?_⟩ | refine ⟨_, rfl, ?_⟩ | refine ⟨_, _, rfl, rfl, ?_⟩ | refine ⟨rfl, ?_⟩ | refine ⟨_, _, rfl, (by walk_at "sq" : SqT _ _ _ _), rfl, ?_⟩ | refine ⟨_, _, rfl, (by walk_at "sq" : SqT _ _ _ _), ?_⟩ | refine ⟨_, _, rfl, (by walk_at "sq" : SqL _ _ _ _), ?_⟩ | refine ⟨_, _, rfl, (by walk_at "tdg" : DGet _ _ _ _), ?_⟩ | refine ⟨_, _, rfl, ?_⟩ | refine ⟨_, _, _, _, rfl, rfl, (by walk_at "sq" : SqT _ _ _ _), rfl, ?_⟩ | refine ⟨_, _, rfl, .inl (by walk_at "sq" : SqL _ _ _ _), rfl, rfl, ?_⟩ | refine ⟨_, _, rfl, .inr (by walk_at "sq" : SqT _ _ _ _), rfl, rfl, ?_⟩ | refine ⟨_, _, rfl, .inl (by walk_at "sq" : SqL _ _ _ _), ?_⟩ | refine ⟨_, _, rfl, .inr (by walk_at "sq" : SqT _ _ _ _), ?_⟩ | refine ⟨_, _, rfl, (by walk_at "at" : _ = some (HO.dK _)), ?_⟩ | refine ⟨_, _, _, _, rfl, rfl, (by walk_at "sq" : SqL _ _ _ _), rfl, ?_⟩ | refine ⟨_, _, _, rfl, (by walk_at "at" : _ = some _), rfl, ?_⟩ | refine ⟨_, _, _, rfl, ?_⟩ | walk_at "fld" | refine ty_d (by walk_at "at") ?_ | refine ty_l (by walk_at "sq") ?_ | refine ty_t (‹Tx _ _›).z_FIELDS ?_ | refine And.intro (by first | omega | decide | exact Nat.le_of_ble_eq_true rfl | (unfold CDiv; omega) | (unfold CMul; omega)) ?_)
local macro_rules | `(tactic| walk_at "go") => `(tactic| repeat walk_at "w")
section
variable {P : Program} {w : World} {K : PySem.W.Frag} {mg : Str → Option Value} {base : Heap}

structure TDAt (K : PySem.W.Frag) (H : Hp) (d : Addr) (s : SB) : Prop where
  ex : ∃ x y, H d = some (.dK (tdOf s x y)) ∧ Rp K H x s.lay.d ∧ Rp K H y s.tgt
theorem TDAt.same {H H' : Hp} {d : Addr} {s : SB} (h : TDAt K H d s) (e : Same H H') : TDAt K H' d s := by
  obtain ⟨x, y, h1, h2, h3⟩ := h.ex
  exact ⟨x, y, e _ _ h1, h2.same e, h3.same e⟩
def sp_told (K : PySem.W.Frag) : Sp := fun vs H Q _ => ∃ (v : V) (s : SB), vs = [v] ∧ Rp K H v s.d ∧ ∀ d H', H d = none → Same H H' → TDAt K H' d s → Q (.ref d) H'

theorem ok_told (T : Tx K mg) (g_as_tuples : GK P w K mg base "as_tuples" ["thing"] 8 (sp_as_tuples K) []) : GK P w K mg base "told" ["superblock"] 9 (sp_told K) [] := gk_mk T.f_told T.m_told (by decide +kernel) sc_told (fun _ _ _ _ _ _ us hl => match us, hl with | [_], _ => rfl) (fun _ _ _ _ h => by obtain ⟨_, _, rfl, _⟩ := h; rfl) fun cdv A outer s H vs Q E hr h => by
  have nd := sc_told.nd
  refine ⟨_, (pss_one (ps_ret (pb_dictZip T.b_dict T.b_zip (pa_cons (pe_gr T.m_FIELDS) (pa_cons (pe_gkK g_as_tuples hr (by decide) (pa_cons (pv 0) pa_nil)) pa_nil))))), ?_⟩
  obtain ⟨v, s, rfl, hv, q⟩ := h
  walk_at "go"
  refine ⟨v, _, rfl, .inl hv, (fits_sb s).le (by decide), fun v1 H1 e1 hv1 => ?_⟩
  obtain ⟨a, x, y, rfl, ha, hx, hy⟩ := sb_open hv1
  walk_at "go"
  refine ⟨_, a, sbK, _, rfl, T.t_FIELDS _, ha, rfl, fun D hD => ?_⟩
  rw [show mergeK [] (sbK.zip (sbV s x y)) = tdOf s x y from td_zip]
  exact q D _ (e1.free hD) (by walk_at "sm") ⟨x, y, upd_same, hx.same (same_new hD), hy.same (same_new hD)⟩

def sp_made_of (K : PySem.W.Frag) : Sp := fun vs H Q _ => ∃ (d : Addr) (s : SB), vs = [.ref d] ∧ TDAt K H d s ∧ ∀ v H', Same H H' → Rp K H' v s.d → Q v H'

theorem ok_made_of (T : Tx K mg)  : GK P w K mg base "made_of" ["found"] 1 (sp_made_of K) [] := gk_mk T.f_made_of T.m_made_of (by decide +kernel) sc_made_of (fun _ _ _ _ _ _ us hl => match us, hl with | [_], _ => rfl) (fun _ _ _ _ h => by obtain ⟨_, _, rfl, _⟩ := h; rfl) fun cdv A outer s H vs Q E hr h => by
  have nd := sc_made_of.nd
  refine ⟨_, (pss_one (ps_ret (pb_tupleK K T.b_tuple (pa_cons (pe_w (pe_lc (own := [("name", 1)]) (g := gName 1) (tt := tYes) rfl nd (pi_tupK K (pe_gr T.m_FIELDS)) (blkOk_by (N := ["found", "name"]) (sc := defScope s_made_of) (by decide +kernel)) (fun _ _ _ _ _ => (pg_name (i := 1) nd rfl (Or.inl rfl))) (fun _ _ _ _ _ => pts_nil) (fun _ _ _ _ _ => (pe_dget (hu_of hr) (pv 0) (pv 1) (fun _ _ => rfl))))) pa_nil)))), ?_⟩
  obtain ⟨d, s, rfl, hd, q⟩ := h
  obtain ⟨x, y, hd, hx, hy⟩ := hd.ex
  walk_at "go"
  refine lc_fields T hd (fun _ => rfl) (fun _ => rfl) (fun _ => rfl) fun p H4 hp e4 hp4 => ?_
  refine ⟨_, _, rfl, .inl ⟨SqL.of hp4, fun l hl => ?_⟩⟩
  have e5 : Same H (upd H4 l (.tup (sbV s x y))) := by walk_at "sm"
  exact q _ _ e5 (sb_rp (SqT.new hl) (hx.same e5) (hy.same e5))

def rowsFrom (f b w : Int) : List Int := if f < b then (List.range ((b - 1) / w + 1 - f / w).toNat).map (fun i => f / w + (i : Nat)) else []
def sp_rows_from (K : PySem.W.Frag) : Sp := fun vs H Q _ => ∃ (f b w : Int), vs = [.int f, .int b, .int w] ∧ 0 < w ∧ w < 1000 ∧ 0 ≤ f ∧ b ≤ 1000 ∧
  ∀ p H', H p = none → Same H H' → H' p = some (.lst ((rowsFrom f b w).map V.int)) → Q (.ref p) H'

theorem ok_rows_from (T : Tx K mg)  : GK P w K mg base "rows_from" ["first", "behind", "wide"] 1 (sp_rows_from K) [] := gk_mk T.f_rows_from T.m_rows_from (by decide +kernel) sc_rows_from (fun _ _ _ _ _ _ us hl => match us, hl with | [_, _, _], _ => rfl) (fun _ _ _ _ h => by obtain ⟨_, _, _, rfl, _⟩ := h; rfl) fun cdv A outer s H vs Q E hr h => by
  have nd := sc_rows_from.nd
  refine ⟨_, (pss_one (ps_ret (pe_ifExp (pt_cmpR op_lt (pv 0) (pv 1) (nomark _)) (pe_listRg rfl rfl T.b_list (prg_2 rfl T.b_range (pe_op op_fdiv (pv 0) (pv 2)) (pe_op op_add (pe_op op_fdiv (pe_op op_sub (pv 1) pe_int) (pv 2)) pe_int))) (pe_lst pa_nil)))), ?_⟩
  obtain ⟨f, b, w, rfl, hw, hw2, hf, hb, q⟩ := h
  walk_at "go"
  by_cases h : f < b
  · rw [decide_eq_true h]
    walk_at "go"
    have h1 : 0 ≤ f / w := Int.ediv_nonneg hf (by omega)
    have h2 : f / w ≤ f := Int.ediv_le_self _ hf
    have h3 : 0 ≤ (b - 1) / w := Int.ediv_nonneg (by omega) (by omega)
    have h4 : (b - 1) / w ≤ b - 1 := Int.ediv_le_self _ (by omega)
    refine ⟨RgOk.of_le h1 (by omega) (by omega) (by omega), fun p hp => ?_⟩
    refine q p _ hp (same_new hp) ?_
    rw [upd_same]
    unfold rowsFrom rgV
    rw [if_pos h, List.map_map]
    rfl
  · rw [decide_eq_false h]
    walk_at "go"
    intro p hp
    refine q p _ hp (same_new hp) ?_
    rw [upd_same]
    unfold rowsFrom
    rw [if_neg h]
    rfl

def over (s : SB) (up : Bool) : Bool := if up = true then decide (s.blocks ≤ s.front) else decide (s.front ≤ 0)
theorem wayV_some {s : SB} {t : Lay} {up : Bool} (h : s.mv = some (t, up)) : s.wayV = .str (wayS up) := by unfold SB.wayV; rw [h]
theorem tgt_some {s : SB} {t : Lay} {up : Bool} (h : s.mv = some (t, up)) : s.tgt = t.d := by unfold SB.tgt; rw [h]
theorem tgt_none {s : SB} (h : s.mv = none) : s.tgt = .none := by unfold SB.tgt; rw [h]
def sp_is_over (K : PySem.W.Frag) : Sp := fun vs H Q _ => ∃ (d : Addr) (s : SB) (t : Lay) (up : Bool), vs = [.ref d] ∧ TDAt K H d s ∧ s.mv = some (t, up) ∧ Q (.bl (over s up)) H

theorem ok_is_over (T : Tx K mg)  : GK P w K mg base "is_over" ["found"] 1 (sp_is_over K) [] := gk_mk T.f_is_over T.m_is_over (by decide +kernel) sc_is_over (fun _ _ _ _ _ _ us hl => match us, hl with | [_], _ => rfl) (fun _ _ _ _ h => by obtain ⟨_, _, _, _, rfl, _⟩ := h; rfl) fun cdv A outer s H vs Q E hr h => by
  have nd := sc_is_over.nd
  refine ⟨_, (pss_one (ps_ret (pe_ifExp (pt_cmpR op_eq (pe_dget (hu_of hr) (pv 0) pe_str (fun _ _ => rfl)) (pe_gs T.m_UP) (nomark _)) (pe_cmpR op_ge (pe_dget (hu_of hr) (pv 0) pe_str (fun _ _ => rfl)) (pe_dget (hu_of hr) (pv 0) pe_str (fun _ _ => rfl)) (nomark _)) (pe_cmpR op_le (pe_dget (hu_of hr) (pv 0) pe_str (fun _ _ => rfl)) pe_int (nomark _))))), ?_⟩
  obtain ⟨d, s, t, up, rfl, hd, hm, q⟩ := h
  obtain ⟨x, y, hd, hx, hy⟩ := hd.ex
  have hw := wayV_some hm
  walk_at "go"
  rw [hw]
  cases up with
  | true =>
    walk_at "go"
    exact q
  | false =>
    walk_at "go"
    exact q

def endedS (s : SB) : SB := match s.mv with
  | none => s
  | some (t, up) => if over s up = true then { s with lay := t, mv := none, front := 0 } else s
def sp_ended (K : PySem.W.Frag) : Sp := fun vs H Q _ => ∃ (d : Addr) (s : SB), vs = [.ref d] ∧ TDAt K H d s ∧ ∀ d' H', Same H H' → TDAt K H' d' (endedS s) → Q (.ref d') H'

theorem ok_ended (T : Tx K mg) (g_is_over : GK P w K mg base "is_over" ["found"] 1 (sp_is_over K) []) : GK P w K mg base "ended" ["found"] 2 (sp_ended K) [] := gk_mk T.f_ended T.m_ended (by decide +kernel) sc_ended (fun _ _ _ _ _ _ us hl => match us, hl with | [_], _ => rfl) (fun _ _ _ _ h => by obtain ⟨_, _, rfl, _⟩ := h; rfl) fun cdv A outer s H vs Q E hr h => by
  have nd := sc_ended.nd
  refine ⟨_, (pss_cons (ps_if (PW.pt (pw_or (pt_cmpR op_isN (pe_dget (hu_of hr) (pv 0) pe_str (fun _ _ => rfl)) pe_non (nomark _)) (pw_or1 (pt_not (pt_val (pe_gkK g_is_over hr (by decide) (pa_cons (pv 0) pa_nil))))))) (pss_one (ps_ret (pv 0))) pss_nil)
  (pss_cons (ps_set (i := 1) nd rfl (Or.inl rfl) (pb_dictD T.b_dict (pa_cons (pv 0) pa_nil)))
  (pss_cons (ps_expr (pe_bm PySem.F.plainAttrs_dict PySem.F.slot_dict_update PySem.F.type_dict_update mtd_update (pv 1) (pa_cons (pe_disp (pps_cons pe_str (pe_dget (hu_of hr) (pv 0) pe_str (fun _ _ => rfl)) (pps_cons pe_str pe_non (pps_cons pe_str pe_non (pps_cons pe_str pe_int pps_nil)))) (by rfl) (by rfl) (fun z => by cases z) (by decide)) pa_nil)))
  (pss_cons (ps_if (PW.pt (pw_and (pt_cmpR op_notN (pe_dget (hu_of hr) (pv 0) pe_str (fun _ _ => rfl)) pe_non (nomark _)) (pw_and1 (pt_cmpR op_ge (pe_dget (hu_of hr) (pv 0) pe_str (fun _ _ => rfl)) (pe_ix (ix_tupK K) (pe_dget (hu_of hr) (pv 0) pe_str (fun _ _ => rfl)) pe_int (fun _ _ => rfl)) (nomark _))))) pss_never pss_nil)
  (pss_one (ps_ret (pv 1))))))), ?_⟩
  obtain ⟨d, s, rfl, hd0, q⟩ := h
  obtain ⟨x, y, hd, hx, hy⟩ := hd0.ex
  cases hm : s.mv with
  | none =>
    rw [tgt_none hm] at hy
    obtain rfl : y = .non := hy.non_eq
    walk_at "go"
    refine q d _ (Same.refl _) ?_
    unfold endedS
    rw [hm]
    exact hd0
  | some m =>
    obtain ⟨t, up⟩ := m
    have hyt := hy
    rw [tgt_some hm] at hyt
    obtain ⟨ay, rfl, hay⟩ := lay_open hyt
    have hen : endedS s = if over s up = true then { s with lay := t, mv := none, front := 0 } else s := by unfold endedS; rw [hm]
    walk_at "go"
    refine ⟨d, s, t, up, rfl, hd0, hm, ?_⟩
    cases ho : over s up with
    | false =>
      rw [ho] at hen
      walk_at "go"
      exact q d _ (Same.refl _) (by rw [hen]; exact hd0)
    | true =>
      rw [ho] at hen
      walk_at "go"
      refine ⟨_, _, rfl, .inl hd, fun l hl => ?_⟩
      have e1 : Same H (upd H l (.dK (tdOf s x (.ref ay)))) := same_new hl
      have hd1 := e1 _ _ hd
      walk_at "go"
      intro p hp
      have hlp : l ≠ p := fun z => by rw [z] at hp; rw [upd_same] at hp; cases hp
      have hd2 := at_new (o := .dK []) hp hd1
      walk_at "go"
      refine ⟨upd_same, [(.inr "layout", .ref ay), (.inr "target", .non), (.inr "way", .non), (.inr "front", .int 0)], rfl, Nat.le_of_ble_eq_true rfl, ?_⟩
      rw [show mergeK [] [((.inr "layout" : Key), V.ref ay), (.inr "target", .non), (.inr "way", .non), (.inr "front", .int 0)] = [(.inr "layout", .ref ay), (.inr "target", .non), (.inr "way", .non), (.inr "front", .int 0)] from by kernel_rfl]
      have hl3 : (upd (upd (upd H l (.dK (tdOf s x (.ref ay)))) p (.dK [])) p (.dK [((.inr "layout" : Key), V.ref ay), (.inr "target", .non), (.inr "way", .non), (.inr "front", .int 0)])) l = some (.dK (tdOf s x (.ref ay))) := by
        rw [upd_ne hlp, upd_ne hlp, upd_same]
      have e3 : Same H (upd (upd (upd H l (.dK (tdOf s x (.ref ay)))) p (.dK [])) p (.dK [((.inr "layout" : Key), V.ref ay), (.inr "target", .non), (.inr "way", .non), (.inr "front", .int 0)])) := same_own (e1.free hp) (by walk_at "sm")
      walk_at "go"
      refine ⟨_, _, _, _, rfl, rfl, hl3, upd_same, hlp, ?_, ?_⟩
      · have h3 : (100 : Nat) < sizeLine := by decide
        show 9 + 4 ≤ _
        omega
      rw [show mergeK (tdOf s x (.ref ay)) [((.inr "layout" : Key), V.ref ay), (.inr "target", .non), (.inr "way", .non), (.inr "front", .int 0)] = tdOf (endedS s) (.ref ay) .non from by rw [hen, if_pos rfl]; exact td_mgEnd]
      generalize hH3 : (upd (upd (upd H l (.dK (tdOf s x (.ref ay)))) p (.dK [])) p (.dK [((.inr "layout" : Key), V.ref ay), (.inr "target", .non), (.inr "way", .non), (.inr "front", .int 0)])) = H3 at hl3 e3 ⊢
      have e4 : Same H (upd H3 l (.dK (tdOf (endedS s) (.ref ay) .non))) := same_own hl e3
      have hd4 := e4 _ _ hd
      walk_at "go"
      have hle : (endedS s).lay.d = t.d := by rw [hen]; rfl
      have hte : (endedS s).tgt = .none := by rw [hen]; rfl
      exact q l _ e4 ⟨_, _, upd_same, by rw [hle]; exact hyt.same e4, by rw [hte]; exact .non⟩

/-! ### rows -/
def usedL (s : SB) : List Int := match s.mv with
  | none => rowsFrom 0 s.blocks (s.lay.n - 1)
  | some (t, up) => rowsFrom 0 s.front (if up = true then t.n - 1 else s.lay.n - 1) ++ rowsFrom s.front s.blocks (if up = true then s.lay.n - 1 else t.n - 1)
theorem rowsFrom_len {f b w : Int} (hw : 0 < w) (hf : 0 ≤ f) (hb : b ≤ 30) : (rowsFrom f b w).length ≤ 30 := by
  unfold rowsFrom
  split
  · have h1 : 0 ≤ f / w := Int.ediv_nonneg hf (by omega)
    have h4 : (b - 1) / w ≤ b - 1 := Int.ediv_le_self _ (by omega)
    simp only [List.length_map, List.length_range]
    omega
  · simp
def sp_rows_in_use (K : PySem.W.Frag) : Sp := fun vs H Q _ => ∃ (v : V) (s : SB), vs = [v] ∧ Rp K H v s.d ∧ s.ok ∧ ∀ (p : Addr) (H' : Hp) (ns : List Int), H p = none → Same H H' → H' p = some (.lst (ns.map V.int)) → (∀ r, r ∈ ns ↔ r ∈ usedL s) → Q (.ref p) H'

theorem ok_rows_in_use (T : Tx K mg) (g_rows_from : GK P w K mg base "rows_from" ["first", "behind", "wide"] 1 (sp_rows_from K) []) (g_told : GK P w K mg base "told" ["superblock"] 9 (sp_told K) []) : GK P w K mg base "rows_in_use" ["superblock"] 10 (sp_rows_in_use K) [] := gk_mk T.f_rows_in_use T.m_rows_in_use (by decide +kernel) sc_rows_in_use (fun _ _ _ _ _ _ us hl => match us, hl with | [_], _ => rfl) (fun _ _ _ _ h => by obtain ⟨_, _, rfl, _⟩ := h; rfl) fun cdv A outer s H vs Q E hr h => by
  have nd := sc_rows_in_use.nd
  refine ⟨_, (pss_cons (ps_set (i := 1) nd rfl (Or.inl rfl) (pe_gkK g_told hr (by decide) (pa_cons (pv 0) pa_nil)))
  (pss_cons (ps_par3 (i := 2) (j := 3) (l := 4) (by rfl) nd rfl rfl rfl (by decide) (by decide) (by decide) rfl rfl rfl (pa_cons (pe_op op_sub (pe_ix (ix_tupK K) (pe_dget (hu_of hr) (pv 1) pe_str (fun _ _ => rfl)) pe_int (fun _ _ => rfl)) pe_int) (pa_cons (pe_dget (hu_of hr) (pv 1) pe_str (fun _ _ => rfl)) (pa_cons (pe_dget (hu_of hr) (pv 1) pe_str (fun _ _ => rfl)) pa_nil))) (by rfl))
  (pss_cons (ps_if (pt_cmpR op_isN (pe_dget (hu_of hr) (pv 1) pe_str (fun _ _ => rfl)) pe_non (nomark _)) (pss_one (ps_ret (pe_gkK g_rows_from hr (by decide) (pa_cons pe_int (pa_cons (pv 4) (pa_cons (pv 2) pa_nil)))))) pss_nil)
  (pss_cons (ps_set (i := 5) nd rfl (Or.inl rfl) (pe_op op_sub (pe_ix (ix_tupK K) (pe_dget (hu_of hr) (pv 1) pe_str (fun _ _ => rfl)) pe_int (fun _ _ => rfl)) pe_int))
  (pss_cons (ps_asg (pe_ifExp (pt_cmpR op_eq (pe_dget (hu_of hr) (pv 1) pe_str (fun _ _ => rfl)) (pe_gs T.m_UP) (nomark _)) (pe_tup (pa_cons (pv 5) (pa_cons (pv 2) pa_nil))) (pe_tup (pa_cons (pv 2) (pa_cons (pv 5) pa_nil)))) (pg_tupK K 2 rfl (pgs_cons (pg_name (i := 6) nd rfl (Or.inl rfl)) (pgs_cons (pg_name (i := 7) nd rfl (Or.inl rfl)) pgs_nil))))
  (pss_one (ps_ret (pb_sortedS T.b_sorted (pa_cons (pb_set T.b_set (pa_cons (pe_op op_cat (pe_gkK g_rows_from hr (by decide) (pa_cons pe_int (pa_cons (pv 3) (pa_cons (pv 6) pa_nil)))) (pe_gkK g_rows_from hr (by decide) (pa_cons (pv 3) (pa_cons (pv 4) (pa_cons (pv 7) pa_nil))))) pa_nil)) pa_nil))))))))), ?_⟩
  obtain ⟨v, s, rfl, hv, hok, q⟩ := h
  walk_at "go"
  refine ⟨v, s, rfl, hv, fun d H1 hdn e1 hd0 => ?_⟩
  obtain ⟨x, y, hd, hx, hy⟩ := hd0.ex
  obtain ⟨ax, rfl, hax⟩ := lay_open hx
  have hl1 := hok.lay.1
  have hl2 := hok.lay.2
  have hb0 := hok.b0
  have hb1 := hok.b1
  have hf0 := hok.f0
  have hf1 := hok.f1
  cases hm : s.mv with
  | none =>
    rw [tgt_none hm] at hy
    obtain rfl : y = .non := hy.non_eq
    walk_at "go"
    intro p H2 hp e2 hp2
    refine q p H2 _ (e1.free hp) (e1.trans e2) hp2 fun r => ?_
    unfold usedL
    rw [hm]
  | some m =>
    obtain ⟨t, up⟩ := m
    rw [tgt_some hm] at hy
    obtain ⟨ay, rfl, hay⟩ := lay_open hy
    have ht1 := (hok.tgt t up hm).1
    have ht2 := (hok.tgt t up hm).2
    have hw := wayV_some hm
    walk_at "go"
    rw [hw]
    have hus : usedL s = rowsFrom 0 s.front (if up = true then t.n - 1 else s.lay.n - 1) ++ rowsFrom s.front s.blocks (if up = true then s.lay.n - 1 else t.n - 1) := by unfold usedL; rw [hm]
    cases up
    all_goals
      walk_at "go"
      intro tp htp
      walk_at "go"
      intro p1 H2 hp1 e2 hr1
      walk_at "go"
      intro p2 H3 hp2 e3 hr2
      have hr1' := e3 _ _ hr1
      have h3 : (100 : Nat) < sizeLine := by decide
      have h4 := rowsFrom_len (f := 0) (b := s.front) (w := s.lay.n - 1) (by omega) (by omega) (by omega)
      have h5 := rowsFrom_len (f := 0) (b := s.front) (w := t.n - 1) (by omega) (by omega) (by omega)
      have h6 := rowsFrom_len (f := s.front) (b := s.blocks) (w := s.lay.n - 1) (by omega) (by omega) (by omega)
      have h7 := rowsFrom_len (f := s.front) (b := s.blocks) (w := t.n - 1) (by omega) (by omega) (by omega)
      refine ⟨_, _, _, _, rfl, rfl, hr1', hr2, by simp only [List.length_map]; omega, fun p3 hp3 => ?_⟩
      rw [← List.map_append]
      walk_at "go"
      refine ⟨by simp only [List.length_append]; omega, fun p4 c hc hp4 => ?_⟩
      refine ⟨_, _, _, rfl, upd_same, by simp only [List.length_append] at hc; omega, fun ns p5 _ hns _ hp5 => ?_⟩
      refine q p5 _ ns ?_ (by walk_at "sm") upd_same fun r => ?_
      · walk_at "no"
      · rw [hns r, hus]
        simp

/-! ### the row that comes next -/
def nextRow (s : SB) : Option Int := match s.mv with
  | none => none
  | some (t, up) => some (if up = true then s.front / (t.n - 1) else (s.front - 1) / (t.n - 1))
theorem nextRow_some {s : SB} {t : Lay} {up : Bool} (h : s.mv = some (t, up)) : nextRow s = some (if up = true then s.front / (t.n - 1) else (s.front - 1) / (t.n - 1)) := by unfold nextRow; rw [h]
theorem nextRow_none {s : SB} (h : s.mv = none) : nextRow s = none := by unfold nextRow; rw [h]
def sp_next_row (K : PySem.W.Frag) : Sp := fun vs H Q _ => ∃ (v : V) (s : SB), vs = [v] ∧ Rp K H v s.d ∧ s.ok ∧ ∀ H', Same H H' → Q (optV (nextRow s)) H'

theorem ok_next_row (T : Tx K mg) (g_told : GK P w K mg base "told" ["superblock"] 9 (sp_told K) []) : GK P w K mg base "next_row" ["superblock"] 10 (sp_next_row K) [] := gk_mk T.f_next_row T.m_next_row (by decide +kernel) sc_next_row (fun _ _ _ _ _ _ us hl => match us, hl with | [_], _ => rfl) (fun _ _ _ _ h => by obtain ⟨_, _, rfl, _⟩ := h; rfl) fun cdv A outer s H vs Q E hr h => by
  have nd := sc_next_row.nd
  refine ⟨_, (pss_cons (ps_set (i := 1) nd rfl (Or.inl rfl) (pe_gkK g_told hr (by decide) (pa_cons (pv 0) pa_nil)))
  (pss_cons (ps_if (pt_cmpR op_isN (pe_dget (hu_of hr) (pv 1) pe_str (fun _ _ => rfl)) pe_non (nomark _)) (pss_one (ps_ret pe_non)) pss_nil)
  (pss_cons (ps_par (i := 2) (j := 3) (by rfl) nd rfl rfl (by decide) rfl rfl (pa_cons (pe_op op_sub (pe_ix (ix_tupK K) (pe_dget (hu_of hr) (pv 1) pe_str (fun _ _ => rfl)) pe_int (fun _ _ => rfl)) pe_int) (pa_cons (pe_dget (hu_of hr) (pv 1) pe_str (fun _ _ => rfl)) pa_nil)) (by rfl))
  (pss_one (ps_ret (pe_ifExp (pt_cmpR op_eq (pe_dget (hu_of hr) (pv 1) pe_str (fun _ _ => rfl)) (pe_gs T.m_UP) (nomark _)) (pe_op op_fdiv (pv 3) (pv 2)) (pe_op op_fdiv (pe_op op_sub (pv 3) pe_int) (pv 2)))))))), ?_⟩
  obtain ⟨v, s, rfl, hv, hok, q⟩ := h
  walk_at "go"
  refine ⟨v, s, rfl, hv, fun d H1 hdn e1 hd0 => ?_⟩
  obtain ⟨x, y, hd, hx, hy⟩ := hd0.ex
  cases hm : s.mv with
  | none =>
    rw [nextRow_none hm] at q
    rw [tgt_none hm] at hy
    obtain rfl : y = .non := hy.non_eq
    walk_at "go"
    exact q _ e1
  | some m =>
    obtain ⟨t, up⟩ := m
    rw [nextRow_some hm] at q
    rw [tgt_some hm] at hy
    obtain ⟨ay, rfl, hay⟩ := lay_open hy
    have ht1 := (hok.tgt t up hm).1
    have ht2 := (hok.tgt t up hm).2
    have hw := wayV_some hm
    walk_at "go"
    rw [hw]
    cases up
    all_goals
      walk_at "go"
      exact q _ e1


end
end WS
set_option Elab.async false
set_option linter.all false
set_option maxRecDepth 100000
set_option maxHeartbeats 4000000
namespace WS
open PySem PySem.Spec PyProof.Rows L2
local macro_rules | `(tactic| walk_at "tdg") => `(tactic| first | (apply tdg0; walk_at "at") | (apply tdg1; walk_at "at") | (apply tdg2; walk_at "at") | (apply tdg3; walk_at "at") | (apply tdg4; walk_at "at") | (apply tdg5; walk_at "at") | (apply tdg6; walk_at "at") | (apply tdg7; walk_at "at") | (apply tdg8; walk_at "at"))
local macro_rules | `(tactic| walk_at "no") => `(tactic| first | assumption | (apply no_by; assumption; walk_at "sm"))
local macro_rules | `(tactic| walk_at "sm") => `(tactic| first | exact Same.refl _ | assumption | (apply same_up; walk_at "no"; walk_at "sm") | (apply same_by; assumption; walk_at "sm"))
local macro_rules | `(tactic| walk_at "tk") => `(tactic| first | exact TK.refl | assumption | (apply tk_up; walk_at "no"; walk_at "tk") | (apply tk_by; assumption; walk_at "tk") | (apply tk_mv; assumption; walk_at "tk"))
local macro_rules | `(tactic| walk_at "mv") => `(tactic| first | exact Mv.refl | assumption | (apply mv_up; walk_at "no"; walk_at "mv") | (apply mv_mv; assumption; walk_at "mv") | (apply mv_by; assumption; walk_at "mv"))
local macro_rules | `(tactic| walk_at "ne") => `(tactic| first | assumption | (refine Ne.symm ?_; assumption))
local macro_rules | `(tactic| walk_at "at") => `(tactic| first | assumption | exact upd_same | (apply at_new; walk_at "no"; walk_at "at") | (apply at_ne; walk_at "ne"; walk_at "at") | (apply at_same; assumption; walk_at "at") | (apply at_mv; assumption; assumption; walk_at "at"))
local macro_rules | `(tactic| walk_at "rp") => `(tactic| first | assumption | exact Rp.non | exact Rp.int _ | exact Rp.str _ | (apply rp_tk; assumption; walk_at "tk"))
local macro_rules | `(tactic| walk_at "sq") => `(tactic| first | assumption | exact (‹Tx _ _›).t_METAS _ | exact (‹Tx _ _›).t_FIELDS _ | exact (‹Tx _ _›).t_LEFT _ | exact (‹Tx _ _›).t_SYMMETRIC _ | (apply SqT.of; walk_at "at") | (apply SqL.of; walk_at "at") | (apply sqt_tk; assumption; walk_at "tk") | (apply sql_sm; assumption; walk_at "sm"))
local macro_rules | `(tactic| walk_at "sd") => `(tactic| first | rfl | omega | assumption | decide)
local macro_rules | `(tactic| walk_at "fld") => `(tactic| first | refine ⟨_, _, _, _, _, rfl, (by walk_at "at" : _ = some _), (‹Tx _ _›).c_Cells, (‹Tx _ _›).n_Cells_disks, rfl, ?_⟩ | refine ⟨_, _, _, _, _, rfl, (by walk_at "at" : _ = some _), (‹Tx _ _›).c_Cells, (‹Tx _ _›).n_Cells_done, rfl, ?_⟩ | refine ⟨_, _, _, _, _, rfl, (by walk_at "at" : _ = some _), (‹Tx _ _›).c_Cells, (‹Tx _ _›).n_Cells_begun, rfl, ?_⟩ | refine ⟨_, _, _, _, _, rfl, (by walk_at "at" : _ = some _), (‹Tx _ _›).c_Cells, (‹Tx _ _›).n_Cells_is_loose, rfl, ?_⟩ | refine ⟨_, _, _, _, _, rfl, (by walk_at "at" : _ = some _), (‹Tx _ _›).c_State, (‹Tx _ _›).n_State_cells, rfl, ?_⟩ | refine ⟨_, _, _, _, _, rfl, (by walk_at "at" : _ = some _), (‹Tx _ _›).c_State, (‹Tx _ _›).n_State_own_superblock, rfl, ?_⟩ | refine ⟨_, _, _, _, _, rfl, (by walk_at "at" : _ = some _), (‹Tx _ _›).c_Array, (‹Tx _ _›).n_Array_state, rfl, ?_⟩)
local macro_rules | `(tactic| walk_at "w") => `(tactic| first | refine ⟨_, rfl, ⟨_, (by walk_at "sq" : SqT _ _ _ _)⟩, ?_⟩ | refine ⟨_, rfl, ⟨_, (by walk_at "sq" : SqL _ _ _ _)⟩, ?_⟩ | refine ⟨_, rfl, ?_⟩ | refine ⟨_, _, rfl, rfl, ?_⟩ | refine ⟨rfl, ?_⟩ | refine ⟨_, _, rfl, (by walk_at "sq" : SqT _ _ _ _), rfl, ?_⟩ | refine ⟨_, _, rfl, (by walk_at "sq" : SqT _ _ _ _), ?_⟩ | refine ⟨_, _, rfl, (by walk_at "sq" : SqL _ _ _ _), ?_⟩ | refine ⟨_, _, rfl, (by walk_at "tdg" : DGet _ _ _ _), ?_⟩ | refine ⟨_, _, rfl, ?_⟩ | refine ⟨_, _, _, _, rfl, rfl, (by walk_at "sq" : SqT _ _ _ _), rfl, ?_⟩ | refine ⟨_, _, rfl, .inl (by walk_at "sq" : SqL _ _ _ _), rfl, rfl, ?_⟩ | refine ⟨_, _, rfl, .inr (by walk_at "sq" : SqT _ _ _ _), rfl, rfl, ?_⟩ | refine ⟨_, _, rfl, .inl (by walk_at "sq" : SqL _ _ _ _), ?_⟩ | refine ⟨_, _, rfl, .inr (by walk_at "sq" : SqT _ _ _ _), ?_⟩ | refine ⟨_, _, rfl, (by walk_at "at" : _ = some (HO.dK _)), ?_⟩ | refine ⟨_, _, _, _, rfl, rfl, (by walk_at "sq" : SqL _ _ _ _), rfl, ?_⟩ | refine ⟨_, _, _, rfl, (by walk_at "at" : _ = some _), rfl, ?_⟩ | refine ⟨_, _, _, rfl, ?_⟩ | walk_at "fld" | refine ty_d (by walk_at "at") ?_ | refine ty_l (by walk_at "sq") ?_ | refine ty_t (‹Tx _ _›).z_FIELDS ?_ | refine And.intro (by first | omega | decide | exact Nat.le_of_ble_eq_true rfl | (unfold CDiv; omega) | (unfold CMul; omega)) ?_)
local macro_rules | `(tactic| walk_at "go") => `(tactic| repeat walk_at "w")
section
variable {P : Program} {w : World} {K : PySem.W.Frag} {mg : Str → Option Value} {base : Heap}

def frontB (s : SB) : Int := match s.mv with
  | none => 0
  | some (t, up) => if up = true then (if s.blocks < (s.front / (t.n - 1) + 1) * (t.n - 1) then s.blocks else (s.front / (t.n - 1) + 1) * (t.n - 1)) else (s.front - 1) / (t.n - 1) * (t.n - 1)
def sp_front_behind (K : PySem.W.Frag) : Sp := fun vs H Q _ => ∃ (v : V) (s : SB) (t : Lay) (up : Bool), vs = [v] ∧ Rp K H v s.d ∧ s.ok ∧ s.mv = some (t, up) ∧ ∀ H', Same H H' → Q (.int (frontB s)) H'

theorem ok_front_behind (T : Tx K mg) (g_next_row : GK P w K mg base "next_row" ["superblock"] 10 (sp_next_row K) []) (g_told : GK P w K mg base "told" ["superblock"] 9 (sp_told K) []) : GK P w K mg base "front_behind" ["superblock"] 11 (sp_front_behind K) [] := gk_mk T.f_front_behind T.m_front_behind (by decide +kernel) sc_front_behind (fun _ _ _ _ _ _ us hl => match us, hl with | [_], _ => rfl) (fun _ _ _ _ h => by obtain ⟨_, _, _, _, rfl, _⟩ := h; rfl) fun cdv A outer s H vs Q E hr h => by
  have nd := sc_front_behind.nd
  refine ⟨_, (pss_cons (ps_par (i := 1) (j := 2) (by rfl) nd rfl rfl (by decide) rfl rfl (pa_cons (pe_gkK g_told hr (by decide) (pa_cons (pv 0) pa_nil)) (pa_cons (pe_gkK g_next_row hr (by decide) (pa_cons (pv 0) pa_nil)) pa_nil)) (by rfl))
  (pss_cons (ps_if (pt_cmpR op_isN (pv 2) pe_non (nomark _)) (pss_one (ps_ret pe_non)) pss_nil)
  (pss_cons (ps_set (i := 3) nd rfl (Or.inl rfl) (pe_op op_sub (pe_ix (ix_tupK K) (pe_dget (hu_of hr) (pv 1) pe_str (fun _ _ => rfl)) pe_int (fun _ _ => rfl)) pe_int))
  (pss_one (ps_ret (pe_ifExp (pt_cmpR op_eq (pe_dget (hu_of hr) (pv 1) pe_str (fun _ _ => rfl)) (pe_gs T.m_UP) (nomark _)) (pb_min2 T.b_min (pa_cons (pe_op op_mul (pe_op op_add (pv 2) pe_int) (pv 3)) (pa_cons (pe_dget (hu_of hr) (pv 1) pe_str (fun _ _ => rfl)) pa_nil))) (pe_op op_mul (pv 2) (pv 3)))))))), ?_⟩
  obtain ⟨v, s, t, up, rfl, hv, hok, hm, q⟩ := h
  walk_at "go"
  refine ⟨v, s, rfl, hv, fun d H1 hdn e1 hd0 => ?_⟩
  walk_at "go"
  refine ⟨v, s, rfl, hv.same e1, hok, fun H2 e2 => ?_⟩
  rw [nextRow_some hm]
  obtain ⟨x, y, hd, hx, hy⟩ := hd0.ex
  rw [tgt_some hm] at hy
  obtain ⟨ay, rfl, hay⟩ := lay_open hy
  have ht1 := (hok.tgt t up hm).1
  have ht2 := (hok.tgt t up hm).2
  have hw := wayV_some hm
  have hd2 := e2 _ _ hd
  have hay2 := SqT.tk hay (tk_same e2)
  unfold frontB at q
  rw [hm] at q
  cases up
  all_goals
    walk_at "go"
    rw [hw]
    walk_at "go"
    exact q _ (e1.trans e2)

def sp_is_critical (K : PySem.W.Frag) : Sp := fun vs H Q _ => ∃ (v : V) (s : SB) (r : Int), vs = [v] ∧ Rp K H v s.d ∧ s.ok ∧ nextRow s = some r ∧ ∀ H', Same H H' → Q (.bl (decide (r ∈ usedL s))) H'

theorem ok_is_critical (T : Tx K mg) (g_next_row : GK P w K mg base "next_row" ["superblock"] 10 (sp_next_row K) []) (g_rows_in_use : GK P w K mg base "rows_in_use" ["superblock"] 10 (sp_rows_in_use K) []) : GK P w K mg base "is_critical" ["superblock"] 11 (sp_is_critical K) [] := gk_mk T.f_is_critical T.m_is_critical (by decide +kernel) sc_is_critical (fun _ _ _ _ _ _ us hl => match us, hl with | [_], _ => rfl) (fun _ _ _ _ h => by obtain ⟨_, _, _, rfl, _⟩ := h; rfl) fun cdv A outer s H vs Q E hr h => by
  have nd := sc_is_critical.nd
  refine ⟨_, (pss_one (ps_ret (pe_cmpR (op_inI K) (pe_gkK g_next_row hr (by decide) (pa_cons (pv 0) pa_nil)) (pe_gkK g_rows_in_use hr (by decide) (pa_cons (pv 0) pa_nil)) (by rfl)))), ?_⟩
  obtain ⟨v, s, r, rfl, hv, hok, hr, q⟩ := h
  walk_at "go"
  refine ⟨v, s, rfl, hv, hok, fun H1 e1 => ?_⟩
  rw [hr]
  walk_at "go"
  refine ⟨v, s, rfl, hv.same e1, hok, fun p H2 ns hp e2 hp2 hns => ?_⟩
  refine ⟨r, p, rfl, rfl, ns, .inl (SqL.of hp2), fun b hb => ?_⟩
  have : b = decide (r ∈ usedL s) := by
    have h1 := hns r
    cases b <;> simp_all
  rw [this]
  exact q _ (e1.trans e2)

def steppedS (s : SB) : SB := endedS { s with front := frontB s, aside := none }
def sp_stepped (K : PySem.W.Frag) : Sp := fun vs H Q _ => ∃ (v : V) (s : SB) (t : Lay) (up : Bool), vs = [v] ∧ Rp K H v s.d ∧ s.ok ∧ s.mv = some (t, up) ∧ ∀ w H', Same H H' → Rp K H' w (steppedS s).d → Q w H'

theorem ok_stepped (T : Tx K mg) (g_ended : GK P w K mg base "ended" ["found"] 2 (sp_ended K) []) (g_front_behind : GK P w K mg base "front_behind" ["superblock"] 11 (sp_front_behind K) []) (g_made_of : GK P w K mg base "made_of" ["found"] 1 (sp_made_of K) []) (g_told : GK P w K mg base "told" ["superblock"] 9 (sp_told K) []) : GK P w K mg base "stepped" ["superblock"] 12 (sp_stepped K) [] := gk_mk T.f_stepped T.m_stepped (by decide +kernel) sc_stepped (fun _ _ _ _ _ _ us hl => match us, hl with | [_], _ => rfl) (fun _ _ _ _ h => by obtain ⟨_, _, _, _, rfl, _⟩ := h; rfl) fun cdv A outer s H vs Q E hr h => by
  have nd := sc_stepped.nd
  refine ⟨_, (pss_cons (ps_set (i := 1) nd rfl (Or.inl rfl) (pe_gkK g_told hr (by decide) (pa_cons (pv 0) pa_nil)))
  (pss_cons (ps_expr (pe_bm PySem.F.plainAttrs_dict PySem.F.slot_dict_update PySem.F.type_dict_update mtd_update (pv 1) (pa_cons (pe_disp (pps_cons pe_str (pe_gkK g_front_behind hr (by decide) (pa_cons (pv 0) pa_nil)) (pps_cons pe_str pe_non pps_nil)) (by rfl) (by rfl) (fun z => by cases z) (by decide)) pa_nil)))
  (pss_one (ps_ret (pe_gkK g_made_of hr (by decide) (pa_cons (pe_gkK g_ended hr (by decide) (pa_cons (pv 1) pa_nil)) pa_nil)))))), ?_⟩
  obtain ⟨v, s, t, up, rfl, hv, hok, hm, q⟩ := h
  walk_at "go"
  refine ⟨v, s, rfl, hv, fun d H1 hdn e1 hd0 => ?_⟩
  obtain ⟨x, y, hd, hx, hy⟩ := hd0.ex
  walk_at "go"
  intro p hp
  have hdp : d ≠ p := fun z => by rw [z, hp] at hd; cases hd
  walk_at "go"
  have e2 : Same H (upd H1 p (.dK [])) := by walk_at "sm"
  refine ⟨v, s, t, up, rfl, hv.same e2, hok, hm, fun H2 e3 => ?_⟩
  walk_at "go"
  have hp2 : H2 p = some (.dK []) := e3 _ _ upd_same
  refine ⟨hp2, [(.inr "front", .int (frontB s)), (.inr "aside", .non)], rfl, Nat.le_of_ble_eq_true rfl, ?_⟩
  rw [show mergeK [] [((.inr "front" : Key), V.int (frontB s)), (.inr "aside", .non)] = [(.inr "front", .int (frontB s)), (.inr "aside", .non)] from by kernel_rfl]
  have hd2 : H2 d = some (.dK (tdOf s x y)) := e3 _ _ (at_new hp hd)
  have hd3 : (upd H2 p (.dK [((.inr "front" : Key), V.int (frontB s)), (.inr "aside", .non)])) d = some (.dK (tdOf s x y)) := by rw [upd_ne hdp]; exact hd2
  have hpH : H p = none := e1.free hp
  have e4 : Same H (upd H2 p (.dK [((.inr "front" : Key), V.int (frontB s)), (.inr "aside", .non)])) := same_own hpH (e2.trans e3)
  have t14 : TK K H1 (upd H2 p (.dK [((.inr "front" : Key), V.int (frontB s)), (.inr "aside", .non)])) := tk_same (same_own hp ((same_new hp).trans e3))
  walk_at "go"
  refine ⟨_, _, _, _, rfl, rfl, hd3, upd_same, hdp, ?_, ?_⟩
  · have h3 : (100 : Nat) < sizeLine := by decide
    show 9 + 2 ≤ _
    omega
  generalize (upd H2 p (.dK [((.inr "front" : Key), V.int (frontB s)), (.inr "aside", .non)])) = H3 at hd3 e4 t14 ⊢
  rw [show mergeK (tdOf s x y) [((.inr "front" : Key), V.int (frontB s)), (.inr "aside", .non)] = tdOf { s with front := frontB s, aside := none } x y from td_mgStep]
  have e5 : Same H (upd H3 d (.dK (tdOf { s with front := frontB s, aside := none } x y))) := same_own hdn e4
  have t5 : TK K H3 (upd H3 d (.dK (tdOf { s with front := frontB s, aside := none } x y))) := tk_upd hd3 (fun _ z => by cases z) (fun _ _ z => by cases z)
  walk_at "go"
  refine ⟨d, _, rfl, ⟨x, y, upd_same, (hx.tk t14).tk t5, (hy.tk t14).tk t5⟩, fun d2 H5 e6 hd5 => ?_⟩
  walk_at "go"
  refine ⟨d2, _, rfl, hd5, fun w H6 e7 hw => ?_⟩
  exact q w H6 (e5.trans (e6.trans e7)) hw

theorem mg4 {a b c d : V} : mergeK [] [((.inr "number" : Key), a), (.inr "target", b), (.inr "way", c), (.inr "front", d)] = [(.inr "number", a), (.inr "target", b), (.inr "way", c), (.inr "front", d)] := by kernel_rfl
theorem mg3 {a b c : V} : mergeK [] [((.inr "layout" : Key), a), (.inr "target", b), (.inr "way", c)] = [(.inr "layout", a), (.inr "target", b), (.inr "way", c)] := by kernel_rfl
def begunS (s : SB) (t : Lay) : SB := { s with num := s.num + 1, mv := some (t, decide (s.lay.n ≤ t.n)), front := if s.lay.n ≤ t.n then 0 else s.blocks }
def sp_begun (K : PySem.W.Frag) : Sp := fun vs H Q _ => ∃ (v x : V) (s : SB) (t : Lay), vs = [v, x] ∧ Rp K H v s.d ∧ Rp K H x t.d ∧ ∀ w H', Same H H' → Rp K H' w (begunS s t).d → Q w H'

theorem ok_begun (T : Tx K mg) (g_as_tuples : GK P w K mg base "as_tuples" ["thing"] 8 (sp_as_tuples K) []) (g_made_of : GK P w K mg base "made_of" ["found"] 1 (sp_made_of K) []) (g_told : GK P w K mg base "told" ["superblock"] 9 (sp_told K) []) : GK P w K mg base "begun" ["superblock", "target"] 10 (sp_begun K) [] := gk_mk T.f_begun T.m_begun (by decide +kernel) sc_begun (fun _ _ _ _ _ _ us hl => match us, hl with | [_, _], _ => rfl) (fun _ _ _ _ h => by obtain ⟨_, _, _, _, rfl, _⟩ := h; rfl) fun cdv A outer s H vs Q E hr h => by
  have nd := sc_begun.nd
  refine ⟨_, (pss_cons (ps_par (i := 2) (j := 1) (by rfl) nd rfl rfl (by decide) rfl rfl (pa_cons (pe_gkK g_told hr (by decide) (pa_cons (pv 0) pa_nil)) (pa_cons (pe_gkK g_as_tuples hr (by decide) (pa_cons (pv 1) pa_nil)) pa_nil)) (by rfl))
  (pss_cons (ps_set (i := 3) nd rfl (Or.inl rfl) (pe_ifExp (pt_cmpR op_ge (pe_ix (ix_tupK K) (pv 1) pe_int (fun _ _ => rfl)) (pe_ix (ix_tupK K) (pe_dget (hu_of hr) (pv 2) pe_str (fun _ _ => rfl)) pe_int (fun _ _ => rfl)) (nomark _)) (pe_gs T.m_UP) (pe_gs T.m_DOWN)))
  (pss_cons (ps_set (i := 4) nd rfl (Or.inl rfl) (pe_ifExp (pt_cmpR op_eq (pv 3) (pe_gs T.m_UP) (nomark _)) pe_int (pe_dget (hu_of hr) (pv 2) pe_str (fun _ _ => rfl))))
  (pss_cons (ps_expr (pe_bm PySem.F.plainAttrs_dict PySem.F.slot_dict_update PySem.F.type_dict_update mtd_update (pv 2) (pa_cons (pe_disp (pps_cons pe_str (pe_op op_add (pe_dget (hu_of hr) (pv 2) pe_str (fun _ _ => rfl)) pe_int) (pps_cons pe_str (pv 1) (pps_cons pe_str (pv 3) (pps_cons pe_str (pv 4) pps_nil)))) (by rfl) (by rfl) (fun z => by cases z) (by decide)) pa_nil)))
  (pss_one (ps_ret (pe_gkK g_made_of hr (by decide) (pa_cons (pv 2) pa_nil)))))))), ?_⟩
  obtain ⟨v, xt, s, t, rfl, hv, hxt, q⟩ := h
  walk_at "go"
  refine ⟨v, s, rfl, hv, fun d H1 hdn e1 hd0 => ?_⟩
  walk_at "go"
  refine ⟨xt, _, rfl, .inl (hxt.same e1), (fits_lay t).le (by decide), fun xt2 H2 e2 hxt2 => ?_⟩
  obtain ⟨x, y, hd, hx, hy⟩ := (hd0.same e2).ex
  obtain ⟨ax, rfl, hax⟩ := lay_open hx
  obtain ⟨ay, rfl, hay⟩ := lay_open hxt2
  have e02 : Same H H2 := e1.trans e2
  walk_at "go"
  by_cases h : s.lay.n ≤ t.n
  · have hb : begunS s t = { s with num := s.num + 1, mv := some (t, true), front := 0 } := by unfold begunS; rw [if_pos h, decide_eq_true h]
    rw [decide_eq_true h]
    walk_at "go"
    intro p hp
    have hdp : d ≠ p := fun z => by rw [z, hp] at hd; cases hd
    walk_at "go"
    refine ⟨upd_same, [(.inr "number", .int (s.num + 1)), (.inr "target", .ref ay), (.inr "way", .str "up"), (.inr "front", .int 0)], rfl, Nat.le_of_ble_eq_true rfl, ?_⟩
    rw [mg4]
    have hd3 : (upd (upd H2 p (.dK [])) p (.dK [((.inr "number" : Key), V.int (s.num + 1)), (.inr "target", .ref ay), (.inr "way", .str "up"), (.inr "front", .int 0)])) d = some (.dK (tdOf s (.ref ax) y)) := by rw [upd_ne hdp, upd_ne hdp]; exact hd
    have e4 : Same H (upd (upd H2 p (.dK [])) p (.dK [((.inr "number" : Key), V.int (s.num + 1)), (.inr "target", .ref ay), (.inr "way", .str "up"), (.inr "front", .int 0)])) := same_own (e02.free hp) (by walk_at "sm")
    have t4 : TK K H2 (upd (upd H2 p (.dK [])) p (.dK [((.inr "number" : Key), V.int (s.num + 1)), (.inr "target", .ref ay), (.inr "way", .str "up"), (.inr "front", .int 0)])) := tk_same (same_own hp (same_new hp))
    walk_at "go"
    refine ⟨_, _, _, _, rfl, rfl, hd3, upd_same, hdp, ?_, ?_⟩
    · have h3 : (100 : Nat) < sizeLine := by decide
      show 9 + 4 ≤ _
      omega
    rw [show mergeK (tdOf s (.ref ax) y) [((.inr "number" : Key), V.int (s.num + 1)), (.inr "target", .ref ay), (.inr "way", .str "up"), (.inr "front", .int 0)] = tdOf (begunS s t) (.ref ax) (.ref ay) from by rw [hb]; exact td_mgBegun]
    have e5 := same_own (o := .dK (tdOf (begunS s t) (.ref ax) (.ref ay))) hdn e4
    have t5 := tk_upd (K := K) (o := .dK (tdOf (begunS s t) (.ref ax) (.ref ay))) hd3 (fun _ z => by cases z) (fun _ _ z => by cases z)
    walk_at "go"
    refine ⟨d, begunS s t, rfl, ⟨.ref ax, .ref ay, upd_same, ?_, ?_⟩, fun w H6 e7 hw => q w H6 (e5.trans e7) hw⟩
    · exact (hx.tk t4).tk t5
    · rw [tgt_some (s := begunS s t) (t := t) (up := true) (by rw [hb])]; exact (hxt2.tk t4).tk t5
  · have hb : begunS s t = { s with num := s.num + 1, mv := some (t, false), front := s.blocks } := by unfold begunS; rw [if_neg h, decide_eq_false h]
    rw [decide_eq_false h]
    walk_at "go"
    intro p hp
    have hdp : d ≠ p := fun z => by rw [z, hp] at hd; cases hd
    walk_at "go"
    refine ⟨upd_same, [(.inr "number", .int (s.num + 1)), (.inr "target", .ref ay), (.inr "way", .str "down"), (.inr "front", .int s.blocks)], rfl, Nat.le_of_ble_eq_true rfl, ?_⟩
    rw [mg4]
    have hd3 : (upd (upd H2 p (.dK [])) p (.dK [((.inr "number" : Key), V.int (s.num + 1)), (.inr "target", .ref ay), (.inr "way", .str "down"), (.inr "front", .int s.blocks)])) d = some (.dK (tdOf s (.ref ax) y)) := by rw [upd_ne hdp, upd_ne hdp]; exact hd
    have e4 : Same H (upd (upd H2 p (.dK [])) p (.dK [((.inr "number" : Key), V.int (s.num + 1)), (.inr "target", .ref ay), (.inr "way", .str "down"), (.inr "front", .int s.blocks)])) := same_own (e02.free hp) (by walk_at "sm")
    have t4 : TK K H2 (upd (upd H2 p (.dK [])) p (.dK [((.inr "number" : Key), V.int (s.num + 1)), (.inr "target", .ref ay), (.inr "way", .str "down"), (.inr "front", .int s.blocks)])) := tk_same (same_own hp (same_new hp))
    walk_at "go"
    refine ⟨_, _, _, _, rfl, rfl, hd3, upd_same, hdp, ?_, ?_⟩
    · have h3 : (100 : Nat) < sizeLine := by decide
      show 9 + 4 ≤ _
      omega
    rw [show mergeK (tdOf s (.ref ax) y) [((.inr "number" : Key), V.int (s.num + 1)), (.inr "target", .ref ay), (.inr "way", .str "down"), (.inr "front", .int s.blocks)] = tdOf (begunS s t) (.ref ax) (.ref ay) from by rw [hb]; exact td_mgBegun]
    have e5 := same_own (o := .dK (tdOf (begunS s t) (.ref ax) (.ref ay))) hdn e4
    have t5 := tk_upd (K := K) (o := .dK (tdOf (begunS s t) (.ref ax) (.ref ay))) hd3 (fun _ z => by cases z) (fun _ _ z => by cases z)
    walk_at "go"
    refine ⟨d, begunS s t, rfl, ⟨.ref ax, .ref ay, upd_same, ?_, ?_⟩, fun w H6 e7 hw => q w H6 (e5.trans e7) hw⟩
    · exact (hx.tk t4).tk t5
    · rw [tgt_some (s := begunS s t) (t := t) (up := false) (by rw [hb])]; exact (hxt2.tk t4).tk t5

def turnS (s : SB) (t : Lay) (up : Bool) : SB := { s with num := s.num + 1, lay := t, mv := some (s.lay, !up) }
def turnedS (s : SB) : SB := match s.mv with
  | none => s
  | some (t, up) => endedS (turnS s t up)
theorem wayS_no (up : Bool) : (if up = true then ("down" : Str) else "up") = wayS (!up) := by cases up <;> rfl
def sp_turned (K : PySem.W.Frag) : Sp := fun vs H Q _ => ∃ (v : V) (s : SB) (t : Lay) (up : Bool), vs = [v] ∧ Rp K H v s.d ∧ s.mv = some (t, up) ∧ ∀ w H', Same H H' → Rp K H' w (turnedS s).d → Q w H'

theorem ok_turned (T : Tx K mg) (g_ended : GK P w K mg base "ended" ["found"] 2 (sp_ended K) []) (g_made_of : GK P w K mg base "made_of" ["found"] 1 (sp_made_of K) []) (g_told : GK P w K mg base "told" ["superblock"] 9 (sp_told K) []) : GK P w K mg base "turned" ["superblock"] 10 (sp_turned K) [] := gk_mk T.f_turned T.m_turned (by decide +kernel) sc_turned (fun _ _ _ _ _ _ us hl => match us, hl with | [_], _ => rfl) (fun _ _ _ _ h => by obtain ⟨_, _, _, _, rfl, _⟩ := h; rfl) fun cdv A outer s H vs Q E hr h => by
  have nd := sc_turned.nd
  refine ⟨_, (pss_cons (ps_set (i := 1) nd rfl (Or.inl rfl) (pe_gkK g_told hr (by decide) (pa_cons (pv 0) pa_nil)))
  (pss_cons (ps_set (i := 2) nd rfl (Or.inl rfl) (pe_ifExp (pt_cmpR op_eq (pe_dget (hu_of hr) (pv 1) pe_str (fun _ _ => rfl)) (pe_gs T.m_UP) (nomark _)) (pe_gs T.m_DOWN) (pe_gs T.m_UP)))
  (pss_cons (ps_expr (pe_bm PySem.F.plainAttrs_dict PySem.F.slot_dict_update PySem.F.type_dict_update mtd_update (pv 1) (pa_cons (pe_disp (pps_cons pe_str (pe_dget (hu_of hr) (pv 1) pe_str (fun _ _ => rfl)) (pps_cons pe_str (pe_dget (hu_of hr) (pv 1) pe_str (fun _ _ => rfl)) (pps_cons pe_str (pv 2) pps_nil))) (by rfl) (by rfl) (fun z => by cases z) (by decide)) pa_nil)))
  (pss_cons (ps_dput (hu_of hr) (pv 1) pe_str (pe_op op_add (pe_dget (hu_of hr) (pv 1) pe_str (fun _ _ => rfl)) pe_int) rfl)
  (pss_one (ps_ret (pe_gkK g_made_of hr (by decide) (pa_cons (pe_gkK g_ended hr (by decide) (pa_cons (pv 1) pa_nil)) pa_nil)))))))), ?_⟩
  obtain ⟨v, s, t, up, rfl, hv, hm, q⟩ := h
  walk_at "go"
  refine ⟨v, s, rfl, hv, fun d H1 hdn e1 hd0 => ?_⟩
  obtain ⟨x, y, hd, hx, hy⟩ := hd0.ex
  rw [tgt_some hm] at hy
  have hw := wayV_some hm
  have htu : turnedS s = endedS (turnS s t up) := by unfold turnedS; rw [hm]
  walk_at "go"
  rw [hw]
  cases up with
  | false =>
    walk_at "go"
    intro p hp
    have hdp : d ≠ p := fun z => by rw [z, hp] at hd; cases hd
    walk_at "go"
    refine ⟨upd_same, [(.inr "layout", y), (.inr "target", x), (.inr "way", .str "up")], rfl, Nat.le_of_ble_eq_true rfl, ?_⟩
    rw [mg3]
    have hd3 : (upd (upd H1 p (.dK [])) p (.dK [((.inr "layout" : Key), y), (.inr "target", x), (.inr "way", .str "up")])) d = some (.dK (tdOf s x y)) := by rw [upd_ne hdp, upd_ne hdp]; exact hd
    have hp3 : (upd (upd H1 p (.dK [])) p (.dK [((.inr "layout" : Key), y), (.inr "target", x), (.inr "way", .str "up")])) p = some (.dK [((.inr "layout" : Key), y), (.inr "target", x), (.inr "way", .str "up")]) := upd_same
    have e4 : Same H (upd (upd H1 p (.dK [])) p (.dK [((.inr "layout" : Key), y), (.inr "target", x), (.inr "way", .str "up")])) := same_own (e1.free hp) (by walk_at "sm")
    have t4 : TK K H1 (upd (upd H1 p (.dK [])) p (.dK [((.inr "layout" : Key), y), (.inr "target", x), (.inr "way", .str "up")])) := tk_same (same_own hp (same_new hp))
    walk_at "go"
    refine ⟨_, _, _, _, rfl, rfl, hd3, hp3, hdp, ?_, ?_⟩
    · have h3 : (100 : Nat) < sizeLine := by decide
      show 9 + 3 ≤ _
      omega
    generalize (upd (upd H1 p (.dK [])) p (.dK [((.inr "layout" : Key), y), (.inr "target", x), (.inr "way", .str "up")])) = H3 at hd3 hp3 e4 t4 ⊢
    rw [show mergeK (tdOf s x y) [((.inr "layout" : Key), y), (.inr "target", x), (.inr "way", .str "up")] = tdOf { s with lay := t, mv := some (s.lay, true) } y x from td_mgTurn]
    have e5 : Same H (upd H3 d (.dK (tdOf { s with lay := t, mv := some (s.lay, true) } y x))) := same_own hdn e4
    have t5 : TK K H3 (upd H3 d (.dK (tdOf { s with lay := t, mv := some (s.lay, true) } y x))) := tk_upd hd3 (fun _ z => by cases z) (fun _ _ z => by cases z)
    have hd5 : (upd H3 d (.dK (tdOf { s with lay := t, mv := some (s.lay, true) } y x))) d = some (.dK (tdOf { s with lay := t, mv := some (s.lay, true) } y x)) := upd_same
    generalize (upd H3 d (.dK (tdOf { s with lay := t, mv := some (s.lay, true) } y x))) = H5 at e5 t5 hd5 ⊢
    walk_at "go"
    refine ⟨_, _, rfl, .inl ⟨_, .inr "number", hd5, rfl, Nat.le_of_ble_eq_true rfl, rfl⟩, ?_⟩
    rw [show putK (tdOf { s with lay := t, mv := some (s.lay, true) } y x) (.inr "number") (.int (s.num + 1)) = tdOf (turnS s t false) y x from td_put0]
    have e6 : Same H (upd H5 d (.dK (tdOf (turnS s t false) y x))) := same_own hdn e5
    have t6 : TK K H5 (upd H5 d (.dK (tdOf (turnS s t false) y x))) := tk_upd hd5 (fun _ z => by cases z) (fun _ _ z => by cases z)
    walk_at "go"
    refine ⟨d, turnS s t false, rfl, ⟨y, x, upd_same, ((hy.tk t4).tk t5).tk t6, ((hx.tk t4).tk t5).tk t6⟩, fun d2 H7 e7 hd7 => ?_⟩
    walk_at "go"
    refine ⟨d2, _, rfl, hd7, fun w H8 e8 hw8 => ?_⟩
    exact q w H8 (e6.trans (e7.trans e8)) (by rw [htu]; exact hw8)
  | true =>
    walk_at "go"
    intro p hp
    have hdp : d ≠ p := fun z => by rw [z, hp] at hd; cases hd
    walk_at "go"
    refine ⟨upd_same, [(.inr "layout", y), (.inr "target", x), (.inr "way", .str "down")], rfl, Nat.le_of_ble_eq_true rfl, ?_⟩
    rw [mg3]
    have hd3 : (upd (upd H1 p (.dK [])) p (.dK [((.inr "layout" : Key), y), (.inr "target", x), (.inr "way", .str "down")])) d = some (.dK (tdOf s x y)) := by rw [upd_ne hdp, upd_ne hdp]; exact hd
    have hp3 : (upd (upd H1 p (.dK [])) p (.dK [((.inr "layout" : Key), y), (.inr "target", x), (.inr "way", .str "down")])) p = some (.dK [((.inr "layout" : Key), y), (.inr "target", x), (.inr "way", .str "down")]) := upd_same
    have e4 : Same H (upd (upd H1 p (.dK [])) p (.dK [((.inr "layout" : Key), y), (.inr "target", x), (.inr "way", .str "down")])) := same_own (e1.free hp) (by walk_at "sm")
    have t4 : TK K H1 (upd (upd H1 p (.dK [])) p (.dK [((.inr "layout" : Key), y), (.inr "target", x), (.inr "way", .str "down")])) := tk_same (same_own hp (same_new hp))
    walk_at "go"
    refine ⟨_, _, _, _, rfl, rfl, hd3, hp3, hdp, ?_, ?_⟩
    · have h3 : (100 : Nat) < sizeLine := by decide
      show 9 + 3 ≤ _
      omega
    generalize (upd (upd H1 p (.dK [])) p (.dK [((.inr "layout" : Key), y), (.inr "target", x), (.inr "way", .str "down")])) = H3 at hd3 hp3 e4 t4 ⊢
    rw [show mergeK (tdOf s x y) [((.inr "layout" : Key), y), (.inr "target", x), (.inr "way", .str "down")] = tdOf { s with lay := t, mv := some (s.lay, false) } y x from td_mgTurn]
    have e5 : Same H (upd H3 d (.dK (tdOf { s with lay := t, mv := some (s.lay, false) } y x))) := same_own hdn e4
    have t5 : TK K H3 (upd H3 d (.dK (tdOf { s with lay := t, mv := some (s.lay, false) } y x))) := tk_upd hd3 (fun _ z => by cases z) (fun _ _ z => by cases z)
    have hd5 : (upd H3 d (.dK (tdOf { s with lay := t, mv := some (s.lay, false) } y x))) d = some (.dK (tdOf { s with lay := t, mv := some (s.lay, false) } y x)) := upd_same
    generalize (upd H3 d (.dK (tdOf { s with lay := t, mv := some (s.lay, false) } y x))) = H5 at e5 t5 hd5 ⊢
    walk_at "go"
    refine ⟨_, _, rfl, .inl ⟨_, .inr "number", hd5, rfl, Nat.le_of_ble_eq_true rfl, rfl⟩, ?_⟩
    rw [show putK (tdOf { s with lay := t, mv := some (s.lay, false) } y x) (.inr "number") (.int (s.num + 1)) = tdOf (turnS s t true) y x from td_put0]
    have e6 : Same H (upd H5 d (.dK (tdOf (turnS s t true) y x))) := same_own hdn e5
    have t6 : TK K H5 (upd H5 d (.dK (tdOf (turnS s t true) y x))) := tk_upd hd5 (fun _ z => by cases z) (fun _ _ z => by cases z)
    walk_at "go"
    refine ⟨d, turnS s t true, rfl, ⟨y, x, upd_same, ((hy.tk t4).tk t5).tk t6, ((hx.tk t4).tk t5).tk t6⟩, fun d2 H7 e7 hd7 => ?_⟩
    walk_at "go"
    refine ⟨d2, _, rfl, hd7, fun w H8 e8 hw8 => ?_⟩
    exact q w H8 (e6.trans (e7.trans e8)) (by rw [htu]; exact hw8)

theorem ch_put (s : SB) (x y : V) : ∀ j, j < 8 → ∃ (k : Str) (w : V), [V.str "number", V.str "blocks", V.str "layout", V.str "target", V.str "way", V.str "front", V.str "aside", V.str "missing", V.str "rebuilt"][j + 1]? = some (V.str k) ∧ (sbV s x y)[j + 1]? = some w ∧ decide (V.str k = V.str "number") = false ∧ putK ((allKv s x y).take j) (.inr k) w = (allKv s x y).take (j + 1)
  | 0, _ => ⟨_, _, rfl, rfl, by decide +kernel, by kernel_rfl⟩
  | 1, _ => ⟨_, _, rfl, rfl, by decide +kernel, by kernel_rfl⟩
  | 2, _ => ⟨_, _, rfl, rfl, by decide +kernel, by kernel_rfl⟩
  | 3, _ => ⟨_, _, rfl, rfl, by decide +kernel, by kernel_rfl⟩
  | 4, _ => ⟨_, _, rfl, rfl, by decide +kernel, by kernel_rfl⟩
  | 5, _ => ⟨_, _, rfl, rfl, by decide +kernel, by kernel_rfl⟩
  | 6, _ => ⟨_, _, rfl, rfl, by decide +kernel, by kernel_rfl⟩
  | 7, _ => ⟨_, _, rfl, rfl, by decide +kernel, by kernel_rfl⟩
  | i + 8, h => absurd h (by omega)
def sp_changes (K : PySem.W.Frag) : Sp := fun vs H Q _ => ∃ (v : V) (s : SB), vs = [v] ∧ Rp K H v s.d ∧ ∀ f H', H f = none → Same H H' → UpAt K H' f (.all s) → Q (.ref f) H'

theorem ok_changes (T : Tx K mg)  : GK P w K mg base "changes" ["superblock"] 1 (sp_changes K) [] := gk_mk T.f_changes T.m_changes (by decide +kernel) sc_changes (fun _ _ _ _ _ _ us hl => match us, hl with | [_], _ => rfl) (fun _ _ _ _ h => by obtain ⟨_, _, rfl, _⟩ := h; rfl) fun cdv A outer s H vs Q E hr h => by
  have nd := sc_changes.nd
  refine ⟨_, (pss_one (ps_ret (pe_wd (pe_dc (own := [("name", 1), ("value", 2)]) (g := gTup K 2 (gCons (gName 1) (gCons (gName 2) gNil))) (tt := _) rfl nd (RZ.pi_zipA rfl T.b_zip (pa_cons (pe_gr T.m_FIELDS) (pa_cons (pv 0) pa_nil))) (blkOk_by (N := ["superblock", "name", "value"]) (sc := defScope s_changes) (by decide +kernel)) (fun _ _ _ _ _ => (pg_tupK K 2 rfl (pgs_cons (pg_name (i := 1) nd rfl (Or.inl rfl)) (pgs_cons (pg_name (i := 2) nd rfl (Or.inl rfl)) pgs_nil)))) (fun _ _ _ _ _ => (pts_one (pt_cmpR op_ne (pv 1) pe_str (nomark _)))) (fun _ _ _ _ _ => (pv 1)) (fun _ _ _ _ _ => (pv 2)))))), ?_⟩
  obtain ⟨v, s, rfl, hv, q⟩ := h
  obtain ⟨a, x, y, rfl, ha, hx, hy⟩ := sb_open hv
  walk_at "go"
  refine ⟨_, _, _, _, rfl, .inr ⟨T.t_FIELDS _, ha, ?_⟩⟩
  refine dcG (n := 9) (fun D i H' => Same H H' ∧ H' D = some (.dK ((allKv s x y).take (i - 1)))) (fun D hD => ⟨same_new hD, upd_same⟩) (fun D i H' hi h => ⟨_, _, _, _, T.t_FIELDS _, SqT.tk ha (tk_same h.1), List.getElem?_eq_getElem hi, List.getElem?_eq_getElem hi⟩) (fun D H' h => ⟨_, _, T.t_FIELDS _, SqT.tk ha (tk_same h.1), .inl (by decide)⟩) ?_ ?_
  · rintro D i H' z H2 hD hi ⟨e, hk⟩ ⟨t, z1, z2, rfl, ht, rfl, hz1, hz2⟩
    have hz1 := hz1 _ (T.t_FIELDS _)
    have hz2 := hz2 _ (SqT.tk ha (tk_same e))
    have e2 : Same H (upd H' t (.tup [z1, z2])) := e.trans (same_new ht)
    have hDt : D ≠ t := fun z => by rw [z, ht] at hk; cases hk
    have hk2 := at_ne (o := .tup [z1, z2]) hDt hk
    refine ⟨_, _, rfl, SqT.new ht, rfl, ?_⟩
    match i, hi with
    | 0, _ =>
      cases hz1
      walk_at "go"
      first | exact hk2 | exact ⟨e2, hk2⟩
    | j + 1, hi =>
      obtain ⟨k, w, h1, h2, h3, h4⟩ := ch_put s x y j (by omega)
      rw [h1] at hz1
      cases hz1
      rw [h2] at hz2
      cases hz2
      walk_at "go"
      rw [h3]
      walk_at "go"
      refine ⟨_, .inr k, rfl, hk2, ?_, same_own hD e2, ?_⟩
      · have h5 : (100 : Nat) < sizeLine := by decide
        have h6 : ((allKv s x y).take (j + 1 - 1)).length ≤ 8 := by
          rw [List.length_take]
          exact Nat.le_trans (Nat.min_le_right _ _) (Nat.le_of_ble_eq_true rfl)
        omega
      · rw [upd_same]
        exact congrArg (fun l => some (HO.dK l)) h4
  · rintro D H' hD ⟨e, hk⟩
    exact q D H' hD e ⟨x, y, hk, hx.same e, hy.same e⟩

def sp_fields_behind (K : PySem.W.Frag) : Sp := fun vs H Q _ => ∃ (A : Ad) (S : ArrS) (t : Lay) (up : Bool), vs = [.ref A.st] ∧ StateAt K H A S ∧ S.sb.ok ∧ S.sb.mv = some (t, up) ∧ ∀ f H', H f = none → Same H H' → UpAt K H' f (.all (steppedS S.sb)) → Q (.ref f) H'

theorem ok_fields_behind (T : Tx K mg) (g_changes : GK P w K mg base "changes" ["superblock"] 1 (sp_changes K) []) (g_stepped : GK P w K mg base "stepped" ["superblock"] 12 (sp_stepped K) []) : GK P w K mg base "fields_behind" ["state"] 13 (sp_fields_behind K) [] := gk_mk T.f_fields_behind T.m_fields_behind (by decide +kernel) sc_fields_behind (fun _ _ _ _ _ _ us hl => match us, hl with | [_], _ => rfl) (fun _ _ _ _ h => by obtain ⟨_, _, _, _, rfl, _⟩ := h; rfl) fun cdv A outer s H vs Q E hr h => by
  have nd := sc_fields_behind.nd
  refine ⟨_, (pss_one (ps_ret (pe_gkK g_changes hr (by decide) (pa_cons (pe_gkK g_stepped hr (by decide) (pa_cons (pe_fldK K (pv 0)) pa_nil)) pa_nil)))), ?_⟩
  obtain ⟨A, S, t, up, rfl, hs, hok, hm, q⟩ := h
  obtain ⟨v, hst, hv⟩ := hs.st
  walk_at "go"
  refine ⟨v, S.sb, t, up, rfl, hv, hok, hm, fun w H1 e1 hw => ?_⟩
  walk_at "go"
  refine ⟨w, _, rfl, hw, fun f H2 hf e2 hu => ?_⟩
  exact q f H2 (e1.free hf) (e1.trans e2) hu


end
end WS
set_option Elab.async false
set_option linter.all false
set_option maxRecDepth 100000
set_option maxHeartbeats 4000000
namespace WS
open PySem PySem.Spec PyProof.Rows L2
local macro_rules | `(tactic| walk_at "tdg") => `(tactic| first | (apply tdg0; walk_at "at") | (apply tdg1; walk_at "at") | (apply tdg2; walk_at "at") | (apply tdg3; walk_at "at") | (apply tdg4; walk_at "at") | (apply tdg5; walk_at "at") | (apply tdg6; walk_at "at") | (apply tdg7; walk_at "at") | (apply tdg8; walk_at "at"))
local macro_rules | `(tactic| walk_at "no") => `(tactic| first | assumption | (apply no_by; assumption; walk_at "sm"))
local macro_rules | `(tactic| walk_at "sm") => `(tactic| first | exact Same.refl _ | assumption | (apply same_up; walk_at "no"; walk_at "sm") | (apply same_by; assumption; walk_at "sm"))
local macro_rules | `(tactic| walk_at "tk") => `(tactic| first | exact TK.refl | assumption | (apply tk_up; walk_at "no"; walk_at "tk") | (apply tk_by; assumption; walk_at "tk") | (apply tk_mv; assumption; walk_at "tk"))
local macro_rules | `(tactic| walk_at "mv") => `(tactic| first | exact Mv.refl | assumption | (apply mv_up; walk_at "no"; walk_at "mv") | (apply mv_mv; assumption; walk_at "mv") | (apply mv_by; assumption; walk_at "mv"))
local macro_rules | `(tactic| walk_at "ne") => `(tactic| first | assumption | (refine Ne.symm ?_; assumption))
local macro_rules | `(tactic| walk_at "at") => `(tactic| first | assumption | exact upd_same | (apply at_new; walk_at "no"; walk_at "at") | (apply at_ne; walk_at "ne"; walk_at "at") | (apply at_same; assumption; walk_at "at") | (apply at_mv; assumption; assumption; walk_at "at"))
local macro_rules | `(tactic| walk_at "rp") => `(tactic| first | assumption | exact Rp.non | exact Rp.int _ | exact Rp.str _ | (apply rp_tk; assumption; walk_at "tk"))
local macro_rules | `(tactic| walk_at "sq") => `(tactic| first | assumption | exact (‹Tx _ _›).t_METAS _ | exact (‹Tx _ _›).t_FIELDS _ | exact (‹Tx _ _›).t_LEFT _ | exact (‹Tx _ _›).t_SYMMETRIC _ | (apply SqT.of; walk_at "at") | (apply SqL.of; walk_at "at") | (apply sqt_tk; assumption; walk_at "tk") | (apply sql_sm; assumption; walk_at "sm"))
local macro_rules | `(tactic| walk_at "sd") => `(tactic| first | rfl | omega | assumption | decide)
local macro_rules | `(tactic| walk_at "fld") => `(tactic| first | refine ⟨_, _, _, _, _, rfl, (by walk_at "at" : _ = some _), (‹Tx _ _›).c_Cells, (‹Tx _ _›).n_Cells_disks, rfl, ?_⟩ | refine ⟨_, _, _, _, _, rfl, (by walk_at "at" : _ = some _), (‹Tx _ _›).c_Cells, (‹Tx _ _›).n_Cells_done, rfl, ?_⟩ | refine ⟨_, _, _, _, _, rfl, (by walk_at "at" : _ = some _), (‹Tx _ _›).c_Cells, (‹Tx _ _›).n_Cells_begun, rfl, ?_⟩ | refine ⟨_, _, _, _, _, rfl, (by walk_at "at" : _ = some _), (‹Tx _ _›).c_Cells, (‹Tx _ _›).n_Cells_is_loose, rfl, ?_⟩ | refine ⟨_, _, _, _, _, rfl, (by walk_at "at" : _ = some _), (‹Tx _ _›).c_State, (‹Tx _ _›).n_State_cells, rfl, ?_⟩ | refine ⟨_, _, _, _, _, rfl, (by walk_at "at" : _ = some _), (‹Tx _ _›).c_State, (‹Tx _ _›).n_State_own_superblock, rfl, ?_⟩ | refine ⟨_, _, _, _, _, rfl, (by walk_at "at" : _ = some _), (‹Tx _ _›).c_Array, (‹Tx _ _›).n_Array_state, rfl, ?_⟩)
local macro_rules | `(tactic| walk_at "w") => `(tactic| first | refine ⟨_, rfl, ⟨_, (by walk_at "sq" : SqT _ _ _ _)⟩, ?_⟩ | refine ⟨_, rfl, ⟨_, (by walk_at "sq" : SqL _ _ _ _)⟩, ?_⟩ | refine ⟨_, rfl, ?_⟩ | refine ⟨_, _, rfl, rfl, ?_⟩ | refine ⟨rfl, ?_⟩ | refine ⟨_, _, rfl, (by walk_at "sq" : SqT _ _ _ _), rfl, ?_⟩ | refine ⟨_, _, rfl, (by walk_at "sq" : SqT _ _ _ _), ?_⟩ | refine ⟨_, _, rfl, (by walk_at "sq" : SqL _ _ _ _), ?_⟩ | refine ⟨_, _, rfl, (by walk_at "tdg" : DGet _ _ _ _), ?_⟩ | refine ⟨_, _, rfl, ?_⟩ | refine ⟨_, _, _, _, rfl, rfl, (by walk_at "sq" : SqT _ _ _ _), rfl, ?_⟩ | refine ⟨_, _, rfl, .inl (by walk_at "sq" : SqL _ _ _ _), rfl, rfl, ?_⟩ | refine ⟨_, _, rfl, .inr (by walk_at "sq" : SqT _ _ _ _), rfl, rfl, ?_⟩ | refine ⟨_, _, rfl, .inl (by walk_at "sq" : SqL _ _ _ _), ?_⟩ | refine ⟨_, _, rfl, .inr (by walk_at "sq" : SqT _ _ _ _), ?_⟩ | refine ⟨_, _, rfl, (by walk_at "at" : _ = some (HO.dK _)), ?_⟩ | refine ⟨_, _, _, _, rfl, rfl, (by walk_at "sq" : SqL _ _ _ _), rfl, ?_⟩ | refine ⟨_, _, _, rfl, (by walk_at "at" : _ = some _), rfl, ?_⟩ | refine ⟨_, _, _, rfl, ?_⟩ | walk_at "fld" | refine ty_d (by walk_at "at") ?_ | refine ty_l (by walk_at "sq") ?_ | refine ty_t (‹Tx _ _›).z_FIELDS ?_ | refine And.intro (by first | omega | decide | exact Nat.le_of_ble_eq_true rfl | (unfold CDiv; omega) | (unfold CMul; omega)) ?_)
local macro_rules | `(tactic| walk_at "go") => `(tactic| repeat walk_at "w")
section
variable {P : Program} {w : World} {K : PySem.W.Frag} {mg : Str → Option Value} {base : Heap}

/-- new pairs of ints -/
def RawP (H : Hp) (ys : List V) (ps : List (Int × Int)) : Prop := PySem.Paired (fun (p : Int × Int) (y : V) => ∃ t, y = V.ref t ∧ H t = some (.tup [.int p.1, .int p.2])) ps ys
theorem RawP.nl {H H' : Hp} {ys : List V} {ps : List (Int × Int)} (h : RawP H ys ps) (e : NL H H') : RawP H' ys ps := pmono (fun p y ⟨t, h1, h2⟩ => ⟨t, h1, e _ _ h2 fun _ z => by cases z⟩) h
def pairOf : Option HO → Int × Int
  | some (.tup [.int a, .int b]) => (a, b)
  | _ => (0, 0)
def kOf (H : Hp) : V → Int × Int
  | .ref t => pairOf (H t)
  | _ => (0, 0)
theorem RawP.k {H : Hp} : ∀ {ys : List V} {ps : List (Int × Int)}, RawP H ys ps → ys.map (kOf H) = ps ∧ ∀ y ∈ ys, ∃ t, y = V.ref t ∧ H t = some (.tup [.int (kOf H y).1, .int (kOf H y).2])
  | _, _, .nil => ⟨rfl, by simp⟩
  | _, _, .cons ⟨t, h1, h2⟩ r => by
    obtain ⟨q1, q2⟩ := RawP.k r
    subst h1
    have hk : ∀ p : Int × Int, H t = some (.tup [.int p.1, .int p.2]) → kOf H (.ref t) = p := fun p h => by show pairOf (H t) = p; rw [h]; rfl
    refine ⟨by rw [List.map_cons, q1, hk _ h2], fun y hy => ?_⟩
    rcases List.mem_cons.mp hy with z | z
    · subst z; exact ⟨t, rfl, by rw [hk _ h2]; exact h2⟩
    · exact q2 y z
theorem RawP.of {H : Hp} : ∀ (ys : List V), (∀ y ∈ ys, ∃ t, y = V.ref t ∧ H t = some (.tup [.int (kOf H y).1, .int (kOf H y).2])) → RawP H ys (ys.map (kOf H))
  | [], _ => .nil
  | y :: ys, h => .cons (h y (by simp)) (RawP.of ys fun z hz => h z (by simp [hz]))
theorem RawP.snoc {H : Hp} {ys : List V} {ps : List (Int × Int)} {t : Addr} {p : Int × Int} (h : RawP H ys ps) (ht : H t = some (.tup [.int p.1, .int p.2])) : RawP H (ys ++ [.ref t]) (ps ++ [p]) := PySem.Paired.snoc h ⟨t, rfl, ht⟩
def dataCells (l : Lay) (row : Int) (vals : List Int) : List (Int × Int) := (List.range vals.length).map fun i => (dat l row (i : Nat), vals.getD i 0)
def sp_row_cells (K : PySem.W.Frag) : Sp := fun vs H Q _ => ∃ (x : V) (l : Lay) (row : Int) (a : Addr) (vals : List Int), vs = [x, .int row, .ref a] ∧ Rp K H x l.d ∧ 0 < l.n ∧ SqT K H a (vals.map V.int) ∧ vals.length ≤ 100 ∧
  ∀ (p : Addr) (H' : Hp) (ys : List V) (ps : List (Int × Int)) (q : Int), H p = none → Same H H' → H' p = some (.lst ys) → RawP H' ys ps → ps.Perm (dataCells l row vals ++ [(par l row, q)]) → Q (.ref p) H'

theorem ok_row_cells (T : Tx K mg) (g_data_disk : GK P w K mg base "data_disk" ["layout", "row", "place"] 2 (sp_data_disk K) []) (g_parity_disk : GK P w K mg base "parity_disk" ["layout", "row"] 1 (sp_parity_disk K) []) : GK P w K mg base "row_cells" ["layout", "row", "values"] 3 (sp_row_cells K) [] := gk_mk T.f_row_cells T.m_row_cells (by decide +kernel) sc_row_cells (fun _ _ _ _ _ _ us hl => match us, hl with | [_, _, _], _ => rfl) (fun _ _ _ _ h => by obtain ⟨_, _, _, _, _, rfl, _⟩ := h; rfl) fun cdv A outer s H vs Q E hr h => by
  have nd := sc_row_cells.nd
  refine ⟨_, (pss_cons (ps_par (i := 3) (j := 4) (by rfl) nd rfl rfl (by decide) rfl rfl (pa_cons pe_int (pa_cons (pe_lst pa_nil) pa_nil)) (by rfl))
  (pss_cons (ps_wf (ps_for PassesOwn.never rfl (pi_enumT rfl T.b_enumerate (pa_cons (pv 2) pa_nil)) (pg_tupK K 2 rfl (pgs_cons (pg_name (i := 5) nd rfl (Or.inl rfl)) (pgs_cons (pg_name (i := 6) nd rfl (Or.inl rfl)) pgs_nil))) (pss_cons (ps_set (i := 3) nd rfl (Or.inl rfl) (pe_op op_xor (pv 3) (pv 6)))
  (pss_one (ps_expr (pe_bm PySem.F.plainAttrs_list PySem.F.slot_list_append PySem.F.type_list_append mt_append (pv 4) (pa_cons (pe_tup (pa_cons (pe_gkK g_data_disk hr (by decide) (pa_cons (pv 0) (pa_cons (pv 1) (pa_cons (pv 5) pa_nil)))) (pa_cons (pv 6) pa_nil))) pa_nil)))))))
  (pss_one (ps_ret (pb_sortedP T.b_sorted (pa_cons (pe_op op_cat (pv 4) (pe_lst (pa_cons (pe_tup (pa_cons (pe_gkK g_parity_disk hr (by decide) (pa_cons (pv 0) (pa_cons (pv 1) pa_nil))) (pa_cons (pv 3) pa_nil))) pa_nil))) pa_nil)))))), ?_⟩
  obtain ⟨x, l, row, a, vals, rfl, hx, hn, ha, hl, q⟩ := h
  walk_at "go"
  intro f hf
  walk_at "go"
  refine forG (n := vals.length) (fun i σ H' => ∃ s5 s6 w ys, σ = [some x, some (.int row), some (.ref a), some (.int w), some (.ref f), s5, s6] ∧ Same H H' ∧ H' f = some (.lst ys) ∧ RawP H' ys ((dataCells l row vals).take i)) ⟨none, none, 0, [], rfl, same_new hf, upd_same, .nil⟩
    (fun i σ H' hi ⟨_, _, _, _, _, e, _⟩ => ite_go (SqT.tk ha (tk_same e)) (by simpa using hi)) (fun σ H' ⟨_, _, _, _, _, e, _⟩ => by have h1 := ite_stop (SqT.tk ha (tk_same e)); rw [List.length_map] at h1; exact h1) ?_ ?_
  · rintro i σ H' z H2 hi ⟨s5, s6, w, ys, rfl, e, hf2, hr⟩ hy
    obtain ⟨t, z, rfl, ht, rfl, hz⟩ := ite_yld (SqT.tk ha (tk_same e)) hy
    rw [List.getElem?_map, List.getElem?_eq_getElem hi] at hz
    cases hz
    have hft : f ≠ t := fun z => by rw [z, ht] at hf2; cases hf2
    have e2 : Same H (upd H' t (.tup [.int (i : Nat), .int vals[i]])) := e.trans (same_new ht)
    refine ⟨_, _, rfl, SqT.new ht, rfl, ?_⟩
    walk_at "go"
    refine ⟨x, l, row, (i : Nat), rfl, hx.same e2, hn, ?_⟩
    walk_at "go"
    intro p hp
    have hfp : f ≠ p := fun z => by
      have h1 := at_ne (o := .tup [.int (i : Nat), .int vals[i]]) hft hf2
      rw [z, hp] at h1
      cases h1
    have hf3 := at_ne (o := .tup [.int (dat l row (i : Nat)), .int vals[i]]) hfp (at_ne (o := .tup [.int (i : Nat), .int vals[i]]) hft hf2)
    walk_at "go"
    have hyl : ys.length < sizeLine := by
      have h1 := plen hr
      have h2 : ((dataCells l row vals).take i).length ≤ i := List.length_take_le _ _
      have h3 : (1000 : Nat) < sizeLine := by decide
      omega
    refine ⟨_, _, _, rfl, rfl, hf3, hyl, ?_⟩
    refine ⟨_, _, _, ys ++ [.ref p], rfl, ?_, upd_same, ?_⟩
    · exact same_own hf (e2.trans (same_new hp))
    · have h1 : (dataCells l row vals)[i]? = some (dat l row (i : Nat), vals[i]) := by
        unfold dataCells
        rw [List.getElem?_map, List.getElem?_range hi]
        simp [List.getD_eq_getElem?_getD, List.getElem?_eq_getElem hi]
      rw [List.take_succ, h1]
      have hr3 : RawP (upd (upd H' t (.tup [.int (i : Nat), .int vals[i]])) p (.tup [.int (dat l row (i : Nat)), .int vals[i]])) ys ((dataCells l row vals).take i) := hr.nl (.of_same ((same_new ht).trans (same_new hp)))
      exact (hr3.snoc (p := (dat l row (i : Nat), vals[i])) upd_same).nl (NL.upd hf3)
  · rintro σ H' ⟨s5, s6, w, ys, rfl, e, hf2, hr⟩
    have hfull : (dataCells l row vals).take vals.length = dataCells l row vals := List.take_of_length_le (by simp [dataCells])
    rw [hfull] at hr
    walk_at "go"
    refine ⟨x, l, row, rfl, hx.same e, hn, ?_⟩
    walk_at "go"
    intro p hp
    walk_at "go"
    intro p2 hp2
    have hf3 : (upd (upd H' p (.tup [.int (par l row), .int w])) p2 (.lst [.ref p])) f = some (.lst ys) := at_new hp2 (at_new hp hf2)
    have hyl : ys.length ≤ 100 := by
      have h1 := plen hr
      simp [dataCells] at h1
      omega
    walk_at "go"
    refine ⟨_, _, _, _, rfl, rfl, hf3, upd_same, ?_, fun p3 hp3 => ?_⟩
    · have h3 : (1000 : Nat) < sizeLine := by decide
      simp only [List.length_cons, List.length_nil]
      omega
    walk_at "go"
    have e3 : Same H' (upd (upd (upd H' p (.tup [.int (par l row), .int w])) p2 (.lst [.ref p])) p3 (.lst (ys ++ [.ref p]))) := by walk_at "sm"
    have hp4 : (upd (upd (upd H' p (.tup [.int (par l row), .int w])) p2 (.lst [.ref p])) p3 (.lst (ys ++ [.ref p]))) p = some (.tup [.int (par l row), .int w]) := at_new hp3 (at_new hp2 upd_same)
    have hr4 := (hr.nl (.of_same e3)).snoc (p := (par l row, w)) hp4
    obtain ⟨k1, k2⟩ := hr4.k
    have hp5 : (upd (upd (upd H' p (.tup [.int (par l row), .int w])) p2 (.lst [.ref p])) p3 (.lst (ys ++ [.ref p]))) p3 = some (.lst (ys ++ [.ref p])) := upd_same
    have e03 := e.trans e3
    generalize (upd (upd (upd H' p (.tup [.int (par l row), .int w])) p2 (.lst [.ref p])) p3 (.lst (ys ++ [.ref p]))) = H3 at k1 k2 hp5 e03 hr4 ⊢
    refine ⟨_, _, kOf H3, rfl, SqL.of hp5, k2, fun zs p6 _ hst hp6 => ?_⟩
    have hperm := hst.perm
    have hz : ∀ y ∈ zs, ∃ t, y = V.ref t ∧ H3 t = some (.tup [.int (kOf H3 y).1, .int (kOf H3 y).2]) := fun y hy => k2 y (hperm.mem_iff.mp hy)
    exact q p6 _ zs (zs.map (kOf H3)) w (e03.free hp6) (e03.trans (same_new hp6)) upd_same ((RawP.of zs hz).nl (.of_same (same_new hp6))) (by rw [← k1]; exact hperm.map _)

def rowVals (s : SB) (ds : List DiskS) (t : Lay) (row : Int) : List Int := (List.range (t.n - 1).toNat).map fun i => if row * (t.n - 1) + (i : Nat) < s.blocks then valAt s ds (row * (t.n - 1) + (i : Nat)) else 0
def sp_row_values (K : PySem.W.Frag) : Sp := fun vs H Q _ => ∃ (A : Ad) (S : ArrS) (row : Int) (t : Lay) (up : Bool) (R : Nat), vs = [.ref A.st, .int row] ∧ StateAt K H A S ∧ S.sb.ok ∧ S.ce.ok R ∧ S.sb.blocks ≤ 2 * R ∧ S.sb.mv = some (t, up) ∧ 0 ≤ row ∧ row ≤ 1000 ∧
  ∀ p H', Same H H' → SqT K H' p ((rowVals S.sb S.ce.disks t row).map V.int) → Q (.ref p) H'

theorem ok_row_values (T : Tx K mg) (g_State_field : MK P w K mg base "State" "field" ["self", "name"] 1 (sp_State_field K)) (g_State_value : MK P w K mg base "State" "value" ["self", "block"] 5 (sp_State_value K)) : GK P w K mg base "row_values" ["state", "row"] 6 (sp_row_values K) [] := gk_mk T.f_row_values T.m_row_values (by decide +kernel) sc_row_values (fun _ _ _ _ _ _ us hl => match us, hl with | [_, _], _ => rfl) (fun _ _ _ _ h => by obtain ⟨_, _, _, _, _, _, rfl, _⟩ := h; rfl) fun cdv A outer s H vs Q E hr h => by
  have nd := sc_row_values.nd
  refine ⟨_, (pss_cons (ps_asg (pe_tup (pa_cons (pe_op op_sub (pe_ix (ix_tupK K) (pe_mkK g_State_field hr (by decide) (pv 0) (pa_cons pe_str pa_nil)) pe_int (fun _ _ => rfl)) pe_int) (pa_cons (pe_mkK g_State_field hr (by decide) (pv 0) (pa_cons pe_str pa_nil)) pa_nil))) (pg_tupK K 2 rfl (pgs_cons (pg_name (i := 2) nd rfl (Or.inl rfl)) (pgs_cons (pg_name (i := 3) nd rfl (Or.inr rfl)) pgs_nil))))
  (pss_one (ps_ret (pb_tupleK K T.b_tuple (pa_cons (pe_w (pe_lc (own := [("block", 4)]) (g := gName 4) (tt := tYes) rfl nd (pi_range2 rfl T.b_range (pa_cons (pe_op op_mul (pv 1) (pv 2)) (pa_cons (pe_op op_mul (pe_op op_add (pv 1) pe_int) (pv 2)) pa_nil))) (blkOk_by (N := ["state", "row", "wide", "blocks", "block"]) (sc := defScope s_row_values) (by decide +kernel)) (fun _ _ _ _ _ => (pg_name (i := 4) nd rfl (Or.inl rfl))) (fun _ _ _ _ _ => pts_nil) (fun _ _ _ _ _ => (pe_ifExp (pt_cmpR op_lt (pv 4) (pv 3) (nomark _)) (pe_mkK g_State_value hr (by decide) (pv 0) (pa_cons (pv 4) pa_nil)) pe_int)))) pa_nil))))), ?_⟩
  obtain ⟨A, S, row, t, up, R, rfl, hs, hsb, hok, hbR, hm, hr0, hr1, q⟩ := h
  obtain ⟨v, hst, hv⟩ := hs.st
  have ht1 := (hsb.tgt t up hm).1
  have ht2 := (hsb.tgt t up hm).2
  walk_at "go"
  refine ⟨A, S, 3, _, rfl, hs, rfl, fun w hw => ?_⟩
  rw [show S.sb.l.getD 3 .none = S.sb.tgt from rfl, tgt_some hm] at hw
  obtain ⟨aw, rfl, haw⟩ := lay_open hw
  walk_at "go"
  refine ⟨A, S, 1, _, rfl, hs, rfl, fun w hw => ?_⟩
  obtain rfl : w = .int S.sb.blocks := hw.int_eq
  walk_at "go"
  intro tp htp
  walk_at "go"
  have b0 : 0 ≤ row * (t.n - 1) := Int.mul_nonneg hr0 (by omega)
  have b1 : row * (t.n - 1) ≤ 1000 * 5 := Int.mul_le_mul hr1 (by omega) (by omega) (by omega)
  have b2 : (row + 1) * (t.n - 1) = row * (t.n - 1) + (t.n - 1) := by rw [Int.add_mul, Int.one_mul]
  refine ⟨⟨by omega, by omega, by omega, by omega⟩, ?_⟩
  have b3 : ((row + 1) * (t.n - 1) - row * (t.n - 1)).toNat = (t.n - 1).toNat := by rw [b2]; omega
  have e1 : Same H (upd H tp (.tup [.int (t.n - 1), .int S.sb.blocks])) := same_new htp
  refine lcA (n := (t.n - 1).toNat) (fun i y _ => y = .int (if row * (t.n - 1) + (i : Nat) < S.sb.blocks then valAt S.sb S.ce.disks (row * (t.n - 1) + (i : Nat)) else 0)) (by omega) (fun _ _ _ _ _ h => h) (fun i H' hi e => by show i < _; rw [b3]; exact hi) (fun H' e => by show _ ≤ _; rw [b3]; exact Nat.le_refl _) ?_ ?_
  · rintro i H' x H2 hi e ⟨rfl, rfl⟩ R2 hR2
    have hs2 := hs.same (e1.trans e)
    obtain ⟨v2, hst2, _⟩ := hs2.st
    refine ⟨rfl, ?_⟩
    walk_at "go"
    by_cases hb : row * (t.n - 1) + (i : Nat) < S.sb.blocks
    · rw [decide_eq_true hb]
      walk_at "go"
      refine ⟨A, S, _, R, rfl, hs2, hsb, hok, by omega, by omega, fun H3 e3 => hR2 _ _ e3 ?_⟩
      rw [if_pos hb]
    · rw [decide_eq_false hb]
      walk_at "go"
      exact hR2 _ _ (Same.refl _) (by rw [if_neg hb])
  · intro p ys H' hp hy e hq
    rw [peq hq] at hy
    have hy2 : H' p = some (.lst ((rowVals S.sb S.ce.disks t row).map V.int)) := by
      rw [hy]
      unfold rowVals
      rw [List.map_map]
      rfl
    refine ⟨_, _, rfl, .inl ⟨SqL.of hy2, fun l hl => ?_⟩⟩
    exact q _ _ (by walk_at "sm") (SqT.new hl)


end
end WS
set_option Elab.async false
set_option linter.all false
set_option maxRecDepth 100000
set_option maxHeartbeats 4000000
namespace WS
open PySem PySem.Spec PyProof.Rows L2
local macro_rules | `(tactic| walk_at "tdg") => `(tactic| first | (apply tdg0; walk_at "at") | (apply tdg1; walk_at "at") | (apply tdg2; walk_at "at") | (apply tdg3; walk_at "at") | (apply tdg4; walk_at "at") | (apply tdg5; walk_at "at") | (apply tdg6; walk_at "at") | (apply tdg7; walk_at "at") | (apply tdg8; walk_at "at"))
local macro_rules | `(tactic| walk_at "no") => `(tactic| first | assumption | (apply no_by; assumption; walk_at "sm"))
local macro_rules | `(tactic| walk_at "sm") => `(tactic| first | exact Same.refl _ | assumption | (apply same_up; walk_at "no"; walk_at "sm") | (apply same_by; assumption; walk_at "sm"))
local macro_rules | `(tactic| walk_at "tk") => `(tactic| first | exact TK.refl | assumption | (apply tk_up; walk_at "no"; walk_at "tk") | (apply tk_by; assumption; walk_at "tk") | (apply tk_mv; assumption; walk_at "tk"))
local macro_rules | `(tactic| walk_at "mv") => `(tactic| first | exact Mv.refl | assumption | (apply mv_up; walk_at "no"; walk_at "mv") | (apply mv_mv; assumption; walk_at "mv") | (apply mv_by; assumption; walk_at "mv"))
local macro_rules | `(tactic| walk_at "ne") => `(tactic| first | assumption | (refine Ne.symm ?_; assumption))
local macro_rules | `(tactic| walk_at "at") => `(tactic| first | assumption | exact upd_same | (apply at_new; walk_at "no"; walk_at "at") | (apply at_ne; walk_at "ne"; walk_at "at") | (apply at_same; assumption; walk_at "at") | (apply at_mv; assumption; assumption; walk_at "at"))
local macro_rules | `(tactic| walk_at "rp") => `(tactic| first | assumption | exact Rp.non | exact Rp.int _ | exact Rp.str _ | (apply rp_tk; assumption; walk_at "tk"))
local macro_rules | `(tactic| walk_at "sq") => `(tactic| first | assumption | exact (‹Tx _ _›).t_METAS _ | exact (‹Tx _ _›).t_FIELDS _ | exact (‹Tx _ _›).t_LEFT _ | exact (‹Tx _ _›).t_SYMMETRIC _ | (apply SqT.of; walk_at "at") | (apply SqL.of; walk_at "at") | (apply sqt_tk; assumption; walk_at "tk") | (apply sql_sm; assumption; walk_at "sm"))
local macro_rules | `(tactic| walk_at "sd") => `(tactic| first | rfl | omega | assumption | decide)
local macro_rules | `(tactic| walk_at "fld") => `(tactic| first | refine ⟨_, _, _, _, _, rfl, (by walk_at "at" : _ = some _), (‹Tx _ _›).c_Cells, (‹Tx _ _›).n_Cells_disks, rfl, ?_⟩ | refine ⟨_, _, _, _, _, rfl, (by walk_at "at" : _ = some _), (‹Tx _ _›).c_Cells, (‹Tx _ _›).n_Cells_done, rfl, ?_⟩ | refine ⟨_, _, _, _, _, rfl, (by walk_at "at" : _ = some _), (‹Tx _ _›).c_Cells, (‹Tx _ _›).n_Cells_begun, rfl, ?_⟩ | refine ⟨_, _, _, _, _, rfl, (by walk_at "at" : _ = some _), (‹Tx _ _›).c_Cells, (‹Tx _ _›).n_Cells_is_loose, rfl, ?_⟩ | refine ⟨_, _, _, _, _, rfl, (by walk_at "at" : _ = some _), (‹Tx _ _›).c_State, (‹Tx _ _›).n_State_cells, rfl, ?_⟩ | refine ⟨_, _, _, _, _, rfl, (by walk_at "at" : _ = some _), (‹Tx _ _›).c_State, (‹Tx _ _›).n_State_own_superblock, rfl, ?_⟩ | refine ⟨_, _, _, _, _, rfl, (by walk_at "at" : _ = some _), (‹Tx _ _›).c_Array, (‹Tx _ _›).n_Array_state, rfl, ?_⟩)
local macro_rules | `(tactic| walk_at "w") => `(tactic| first | refine ⟨_, rfl, ⟨_, (by walk_at "sq" : SqT _ _ _ _)⟩, ?_⟩ | refine ⟨_, rfl, ⟨_, (by walk_at "sq" : SqL _ _ _ _)⟩, ?_⟩ | refine ⟨_, rfl, ?_⟩ | refine ⟨_, _, rfl, rfl, ?_⟩ | refine ⟨rfl, ?_⟩ | refine ⟨_, _, rfl, (by walk_at "sq" : SqT _ _ _ _), rfl, ?_⟩ | refine ⟨_, _, rfl, (by walk_at "sq" : SqT _ _ _ _), ?_⟩ | refine ⟨_, _, rfl, (by walk_at "sq" : SqL _ _ _ _), ?_⟩ | refine ⟨_, _, rfl, (by walk_at "tdg" : DGet _ _ _ _), ?_⟩ | refine ⟨_, _, rfl, ?_⟩ | refine ⟨_, _, _, _, rfl, rfl, (by walk_at "sq" : SqT _ _ _ _), rfl, ?_⟩ | refine ⟨_, _, rfl, .inl (by walk_at "sq" : SqL _ _ _ _), rfl, rfl, ?_⟩ | refine ⟨_, _, rfl, .inr (by walk_at "sq" : SqT _ _ _ _), rfl, rfl, ?_⟩ | refine ⟨_, _, rfl, .inl (by walk_at "sq" : SqL _ _ _ _), ?_⟩ | refine ⟨_, _, rfl, .inr (by walk_at "sq" : SqT _ _ _ _), ?_⟩ | refine ⟨_, _, rfl, (by walk_at "at" : _ = some (HO.dK _)), ?_⟩ | refine ⟨_, _, _, _, rfl, rfl, (by walk_at "sq" : SqL _ _ _ _), rfl, ?_⟩ | refine ⟨_, _, _, rfl, (by walk_at "at" : _ = some _), rfl, ?_⟩ | refine ⟨_, _, _, rfl, ?_⟩ | walk_at "fld" | refine ty_d (by walk_at "at") ?_ | refine ty_l (by walk_at "sq") ?_ | refine ty_t (‹Tx _ _›).z_FIELDS ?_ | refine And.intro (by first | omega | decide | exact Nat.le_of_ble_eq_true rfl | (unfold CDiv; omega) | (unfold CMul; omega)) ?_)
local macro_rules | `(tactic| walk_at "go") => `(tactic| repeat walk_at "w")
section
variable {P : Program} {w : World} {K : PySem.W.Frag} {mg : Str → Option Value} {base : Heap}

def asideC (s : SB) (row : Int) (vals : List Int) : PyData := .tuple [.int (s.num + 1), .int row, .tuple (vals.map PyData.int)]
def asideEs (s : SB) (row : Int) (vals : List Int) : List En := (List.range 6).map fun k => .meta_ k .as (asideC s row vals)
theorem fits_ints {l : List Int} (h : l.length ≤ 10000) : fits 2 (.tuple (l.map PyData.int)) := fits_tup (n := 1) (by simpa using h) fun x hx => by
  obtain ⟨i, _, rfl⟩ := List.mem_map.mp hx
  trivial
theorem fits_aside {s : SB} {row : Int} {vals : List Int} (h : vals.length ≤ 10000) : fits 3 (asideC s row vals) := fits_tup (n := 2) (by simp) fun x hx => by
  simp only [List.mem_cons, List.not_mem_nil, or_false] at hx
  rcases hx with z | z | z <;> subst z
  · trivial
  · trivial
  · exact fits_ints h
theorem aside_ok {s : SB} {row : Int} {vals : List Int} (h : vals.length ≤ 10000) (R : Nat) : ∀ e ∈ asideEs s row vals, e.ok R := fun e he => by
  obtain ⟨k, hk, rfl⟩ := List.mem_map.mp he
  exact ⟨List.mem_range.mp hk, fits_aside h⟩
def putAside (S : ArrS) (row : Int) (vals : List Int) : ArrS := goOn ⟨S.sb, (S.ce.puts (asideEs S.sb row vals)).flush⟩ (.aside row)
def sp_put_aside (K : PySem.W.Frag) : Sp := fun vs H Q _ => ∃ (A : Ad) (S : ArrS) (R : Nat) (row : Int) (a : Addr) (vals : List Int), vs = [.ref A.st, .int row, .ref a] ∧ StateAt K H A S ∧ S.ce.ok R ∧ SqT K H a (vals.map V.int) ∧ vals.length ≤ 100 ∧ S.ce.done.length ≤ 8000 ∧
  ∀ H', Mv K A.F H H' → StateAt K H' A (putAside S row vals) → Q .non H'

theorem ok_put_aside (T : Tx K mg) (g_Cells_flush : MK P w K mg base "Cells" "flush" ["self"] 1 (sp_Cells_flush K)) (g_Cells_numbers : MK P w K mg base "Cells" "numbers" ["self"] 2 (sp_Cells_numbers K)) (g_Cells_put : MK P w K mg base "Cells" "put" ["self", "disk", "place", "contents"] 3 (sp_Cells_put K)) (g_State_field : MK P w K mg base "State" "field" ["self", "name"] 1 (sp_State_field K)) (g_State_go_on : MK P w K mg base "State" "go_on" ["self", "fields"] 5 (sp_State_go_on K)) : GK P w K mg base "put_aside" ["state", "row", "values"] 6 (sp_put_aside K) [] := gk_mk T.f_put_aside T.m_put_aside (by decide +kernel) sc_put_aside (fun _ _ _ _ _ _ us hl => match us, hl with | [_, _, _], _ => rfl) (fun _ _ _ _ h => by obtain ⟨_, _, _, _, _, _, rfl, _⟩ := h; rfl) fun cdv A outer s H vs Q E hr h => by
  have nd := sc_put_aside.nd
  refine ⟨_, (pss_cons (ps_set (i := 3) nd rfl (Or.inl rfl) (pe_op op_add (pe_mkK g_State_field hr (by decide) (pv 0) (pa_cons pe_str pa_nil)) pe_int))
  (pss_cons (ps_wf (ps_for PassesOwn.never rfl (pi_listK K (pe_mk0K g_Cells_numbers hr (by decide) (pe_fldK K (pv 0)))) (pg_name (i := 4) nd rfl (Or.inl rfl)) (pss_one (ps_expr (pe_mkK g_Cells_put hr (by decide) (pe_fldK K (pv 0)) (pa_cons (pv 4) (pa_cons pe_str (pa_cons (pe_tup (pa_cons (pv 3) (pa_cons (pv 1) (pa_cons (pv 2) pa_nil)))) pa_nil))))))))
  (pss_cons (ps_expr (pe_mk0K g_Cells_flush hr (by decide) (pe_fldK K (pv 0))))
  (pss_one (ps_expr (pe_mkK g_State_go_on hr (by decide) (pv 0) (pa_cons (pe_disp (pps_cons pe_str (pv 1) pps_nil) (by rfl) (by rfl) (fun z => by cases z) (by decide)) pa_nil))))))), ?_⟩
  obtain ⟨A, S, R, row, a, vals, rfl, hs, hok, ha, hl, hdl, q⟩ := h
  obtain ⟨v0, hst, _⟩ := hs.st
  have hcs := hs.ce.cs
  walk_at "go"
  refine ⟨A, S, 0, _, rfl, hs, rfl, fun w hw => ?_⟩
  obtain rfl : w = .int S.sb.num := hw.int_eq
  walk_at "go"
  refine ⟨A, _, rfl, hs.ce, fun p H1 hp e1 hp1 => ?_⟩
  have hpG := not_G hs.ce hp
  have hs1 := hs.same e1
  have hst1 := e1 _ _ hst
  have ha1 := SqT.tk ha (tk_same e1)
  walk_at "go"
  refine forG (n := 6) (fun i σ H' => ∃ s4, σ = [some (.ref A.st), some (.int row), some (.ref a), some (.int (S.sb.num + 1)), s4] ∧ Mv K A.G H1 H' ∧ CellsAt K H' A (S.ce.puts ((asideEs S.sb row vals).take i))) ⟨none, rfl, .refl, hs1.ce⟩ (fun i σ H' hi ⟨_, _, m, _⟩ => itl_go (SqL.of (m.at hp1 hpG)) (by simpa [six] using hi)) (fun σ H' ⟨_, _, m, _⟩ => itl_stop (SqL.of (m.at hp1 hpG))) ?_ ?_
  · rintro i σ H' x H2 hi ⟨s2, rfl, m, hc⟩ hy
    obtain ⟨rfl, hx⟩ := itl_yld (SqL.of (m.at hp1 hpG)) hy
    obtain ⟨_, rfl⟩ := six_at hx
    have hst2 := m.at hst1 hs.st_G
    have hcs2 := hc.cs
    walk_at "go"
    intro p hp
    have hsub : ∀ e ∈ (asideEs S.sb row vals).take i, e.ok R := fun e he => aside_ok (by omega) R e (List.mem_of_mem_take he)
    have hcp := hc.same (same_new (o := .tup [.int (S.sb.num + 1), .int row, .ref a]) hp)
    have ha2 := SqT.tk (SqT.tk ha1 m.t) (tk_same (same_new (o := .tup [.int (S.sb.num + 1), .int row, .ref a]) hp))
    walk_at "go"
    refine ⟨A, _, .meta_ i .as (asideC S.sb row vals), R, i, _, _, rfl, hcp, hok.ok_puts hsub, ⟨rfl, rfl, .tup (SqT.new hp) (.cons (.int _) (.cons (.int _) (.cons (.tup ha2 (RpL.ints vals)) .nil)))⟩, ⟨hi, fits_aside (by omega)⟩, ?_, fun H3 m3 hc3 => ⟨_, rfl, m.trans ((Mv.of_same (same_new hp)).trans m3), ?_⟩⟩
    · rw [CeS.puts_len]
      have : ((asideEs S.sb row vals).take i).length ≤ i := List.length_take_le _ _
      omega
    · unfold asideEs at hc3 ⊢
      rw [range_take_succ _ hi, CeS.puts_snoc]
      exact hc3
  · rintro σ H' ⟨s2, rfl, m, hc⟩
    have hfull : (asideEs S.sb row vals).take 6 = asideEs S.sb row vals := List.take_of_length_le (by simp [asideEs])
    rw [hfull] at hc
    have hst2 := m.at hst1 hs.st_G
    have hcs2 := hc.cs
    have hlen : (asideEs S.sb row vals).length = 6 := by simp [asideEs]
    walk_at "go"
    refine ⟨A, _, rfl, hc, by rw [CeS.puts_len]; omega, fun H3 m3 hc3 => ?_⟩
    have m13 : Mv K A.G H1 H3 := m.trans m3
    have hs3 : StateAt K H3 A ⟨S.sb, (S.ce.puts (asideEs S.sb row vals)).flush⟩ := hs1.setCe m13 hc3
    obtain ⟨w, hst3, _⟩ := hs3.st
    walk_at "go"
    intro d hd
    walk_at "go"
    refine ⟨upd_same, [(.inr "aside", .int row)], rfl, Nat.le_of_ble_eq_true rfl, ?_⟩
    rw [show mergeK [] [((.inr "aside" : Key), V.int row)] = [(.inr "aside", .int row)] from rfl]
    have e4 : Same H3 (upd (upd H3 d (.dK [])) d (.dK [((.inr "aside" : Key), V.int row)])) := same_own hd (same_new hd)
    have hd4 : (upd (upd H3 d (.dK [])) d (.dK [((.inr "aside" : Key), V.int row)])) d = some (.dK [((.inr "aside" : Key), V.int row)]) := upd_same
    generalize (upd (upd H3 d (.dK [])) d (.dK [((.inr "aside" : Key), V.int row)])) = H4 at e4 hd4 ⊢
    walk_at "go"
    refine ⟨A, _, d, .aside row, R, rfl, hs3.same e4, ((hok.ok_puts (aside_ok (by omega) R)).ok_flush), hd4, ?_, fun H5 m5 hs5 => ?_⟩
    · have h1 := CeS.flush_len (S.ce.puts (asideEs S.sb row vals))
      rw [CeS.puts_len, hlen] at h1
      show (S.ce.puts (asideEs S.sb row vals)).flush.done.length ≤ 9000
      omega
    walk_at "go"
    exact q _ ((Mv.of_same e1).trans ((m13.sub F_of_G).trans ((Mv.of_same e4).trans m5))) hs5

def dataEs (row : Int) (ps : List (Int × Int)) : List En := ps.map fun p => .data p.1.toNat row.toNat p.2
def stepA (S : ArrS) (row : Int) (vals : List Int) (crit : Bool) : ArrS := if crit = true then putAside S row vals else S
def stepD (S : ArrS) (row : Int) (ps : List (Int × Int)) : ArrS := ⟨S.sb, (S.ce.puts (dataEs row ps)).flush⟩
def stepF (S : ArrS) : ArrS := goOn S (.all (steppedS S.sb))
def stepS (S : ArrS) (row : Int) (vals : List Int) (crit : Bool) (ps : List (Int × Int)) : ArrS := stepF (stepD (stepA S row vals crit) row ps)
theorem ArrAt.setSa {H H' : Hp} {A : Ad} {S S' : ArrS} (h : ArrAt K H A S) (m : Mv K A.F H H') (hs : StateAt K H' A S') : ArrAt K H' A S' := by
  refine ⟨m.at h.arr fun z => ?_, hs, h.n1, h.n2⟩
  simp only [Ad.F, List.mem_cons] at z
  have ha := h.arr
  rcases z with z | z | z | z
  · exact h.n1 z
  · exact h.n2 z
  · obtain ⟨es, h2, _⟩ := h.sa.ce.dn
    rw [← z, ha] at h2
    cases h2
  · obtain ⟨kvs, h2⟩ := h.sa.ce.ds.isdk z
    rw [ha] at h2
    cases h2
theorem putAside_sb (S : ArrS) (row : Int) (vals : List Int) : (putAside S row vals).sb = { S.sb with num := S.sb.num + 1, aside := some row } := rfl
theorem goOn_ok {S : ArrS} {u : UpS} {R : Nat} (h : S.ce.ok R) : (goOn S u).ce.ok R := (h.ok_puts (super_ok _ R)).ok_flush
theorem goOn_len (S : ArrS) (u : UpS) : (goOn S u).ce.done.length ≤ S.ce.done.length + 7 := by
  have h1 := CeS.flush_len (S.ce.puts (superEs (u.app S.sb 1)))
  rw [CeS.puts_len] at h1
  have h2 : (superEs (u.app S.sb 1)).length = 6 := by simp [superEs]
  show (S.ce.puts (superEs (u.app S.sb 1))).flush.done.length ≤ _
  omega
theorem putAside_ok {S : ArrS} {row : Int} {vals : List Int} {R : Nat} (h : S.ce.ok R) (hl : vals.length ≤ 100) : (putAside S row vals).ce.ok R := goOn_ok (S := ⟨S.sb, (S.ce.puts (asideEs S.sb row vals)).flush⟩) ((h.ok_puts (aside_ok (by omega) R)).ok_flush)
theorem putAside_len (S : ArrS) (row : Int) (vals : List Int) : (putAside S row vals).ce.done.length ≤ S.ce.done.length + 14 := by
  have h0 := goOn_len ⟨S.sb, (S.ce.puts (asideEs S.sb row vals)).flush⟩ (.aside row)
  have h1 := CeS.flush_len (S.ce.puts (asideEs S.sb row vals))
  rw [CeS.puts_len] at h1
  have h2 : (asideEs S.sb row vals).length = 6 := by simp [asideEs]
  show (goOn _ _).ce.done.length ≤ _
  have h3 : (ArrS.mk S.sb (S.ce.puts (asideEs S.sb row vals)).flush).ce.done.length = (S.ce.puts (asideEs S.sb row vals)).flush.done.length := rfl
  omega

end
end WS
set_option Elab.async false
set_option linter.all false
set_option maxRecDepth 100000
set_option maxHeartbeats 4000000
namespace WS
open PySem PySem.Spec PyProof.Rows L2
local macro_rules | `(tactic| walk_at "tdg") => `(tactic| first | (apply tdg0; walk_at "at") | (apply tdg1; walk_at "at") | (apply tdg2; walk_at "at") | (apply tdg3; walk_at "at") | (apply tdg4; walk_at "at") | (apply tdg5; walk_at "at") | (apply tdg6; walk_at "at") | (apply tdg7; walk_at "at") | (apply tdg8; walk_at "at"))
local macro_rules | `(tactic| walk_at "no") => `(tactic| first | assumption | (apply no_by; assumption; walk_at "sm"))
local macro_rules | `(tactic| walk_at "sm") => `(tactic| first | exact Same.refl _ | assumption | (apply same_up; walk_at "no"; walk_at "sm") | (apply same_by; assumption; walk_at "sm"))
local macro_rules | `(tactic| walk_at "tk") => `(tactic| first | exact TK.refl | assumption | (apply tk_up; walk_at "no"; walk_at "tk") | (apply tk_by; assumption; walk_at "tk") | (apply tk_mv; assumption; walk_at "tk"))
local macro_rules | `(tactic| walk_at "mv") => `(tactic| first | exact Mv.refl | assumption | (apply mv_up; walk_at "no"; walk_at "mv") | (apply mv_mv; assumption; walk_at "mv") | (apply mv_by; assumption; walk_at "mv"))
local macro_rules | `(tactic| walk_at "ne") => `(tactic| first | assumption | (refine Ne.symm ?_; assumption))
local macro_rules | `(tactic| walk_at "at") => `(tactic| first | assumption | exact upd_same | (apply at_new; walk_at "no"; walk_at "at") | (apply at_ne; walk_at "ne"; walk_at "at") | (apply at_same; assumption; walk_at "at") | (apply at_mv; assumption; assumption; walk_at "at"))
local macro_rules | `(tactic| walk_at "rp") => `(tactic| first | assumption | exact Rp.non | exact Rp.int _ | exact Rp.str _ | (apply rp_tk; assumption; walk_at "tk"))
local macro_rules | `(tactic| walk_at "sq") => `(tactic| first | assumption | exact (‹Tx _ _›).t_METAS _ | exact (‹Tx _ _›).t_FIELDS _ | exact (‹Tx _ _›).t_LEFT _ | exact (‹Tx _ _›).t_SYMMETRIC _ | (apply SqT.of; walk_at "at") | (apply SqL.of; walk_at "at") | (apply sqt_tk; assumption; walk_at "tk") | (apply sql_sm; assumption; walk_at "sm"))
local macro_rules | `(tactic| walk_at "sd") => `(tactic| first | rfl | omega | assumption | decide)
local macro_rules | `(tactic| walk_at "fld") => `(tactic| first | refine ⟨_, _, _, _, _, rfl, (by walk_at "at" : _ = some _), (‹Tx _ _›).c_Cells, (‹Tx _ _›).n_Cells_disks, rfl, ?_⟩ | refine ⟨_, _, _, _, _, rfl, (by walk_at "at" : _ = some _), (‹Tx _ _›).c_Cells, (‹Tx _ _›).n_Cells_done, rfl, ?_⟩ | refine ⟨_, _, _, _, _, rfl, (by walk_at "at" : _ = some _), (‹Tx _ _›).c_Cells, (‹Tx _ _›).n_Cells_begun, rfl, ?_⟩ | refine ⟨_, _, _, _, _, rfl, (by walk_at "at" : _ = some _), (‹Tx _ _›).c_Cells, (‹Tx _ _›).n_Cells_is_loose, rfl, ?_⟩ | refine ⟨_, _, _, _, _, rfl, (by walk_at "at" : _ = some _), (‹Tx _ _›).c_State, (‹Tx _ _›).n_State_cells, rfl, ?_⟩ | refine ⟨_, _, _, _, _, rfl, (by walk_at "at" : _ = some _), (‹Tx _ _›).c_State, (‹Tx _ _›).n_State_own_superblock, rfl, ?_⟩ | refine ⟨_, _, _, _, _, rfl, (by walk_at "at" : _ = some _), (‹Tx _ _›).c_Array, (‹Tx _ _›).n_Array_state, rfl, ?_⟩)
local macro_rules | `(tactic| walk_at "w") => `(tactic| first | refine ⟨_, rfl, ⟨_, (by walk_at "sq" : SqT _ _ _ _)⟩, ?_⟩ | refine ⟨_, rfl, ⟨_, (by walk_at "sq" : SqL _ _ _ _)⟩, ?_⟩ | refine ⟨_, rfl, ?_⟩ | refine ⟨_, _, rfl, rfl, ?_⟩ | refine ⟨rfl, ?_⟩ | refine ⟨_, _, rfl, (by walk_at "sq" : SqT _ _ _ _), rfl, ?_⟩ | refine ⟨_, _, rfl, (by walk_at "sq" : SqT _ _ _ _), ?_⟩ | refine ⟨_, _, rfl, (by walk_at "sq" : SqL _ _ _ _), ?_⟩ | refine ⟨_, _, rfl, (by walk_at "tdg" : DGet _ _ _ _), ?_⟩ | refine ⟨_, _, rfl, ?_⟩ | refine ⟨_, _, _, _, rfl, rfl, (by walk_at "sq" : SqT _ _ _ _), rfl, ?_⟩ | refine ⟨_, _, rfl, .inl (by walk_at "sq" : SqL _ _ _ _), rfl, rfl, ?_⟩ | refine ⟨_, _, rfl, .inr (by walk_at "sq" : SqT _ _ _ _), rfl, rfl, ?_⟩ | refine ⟨_, _, rfl, .inl (by walk_at "sq" : SqL _ _ _ _), ?_⟩ | refine ⟨_, _, rfl, .inr (by walk_at "sq" : SqT _ _ _ _), ?_⟩ | refine ⟨_, _, rfl, (by walk_at "at" : _ = some (HO.dK _)), ?_⟩ | refine ⟨_, _, _, _, rfl, rfl, (by walk_at "sq" : SqL _ _ _ _), rfl, ?_⟩ | refine ⟨_, _, _, rfl, (by walk_at "at" : _ = some _), rfl, ?_⟩ | refine ⟨_, _, _, rfl, ?_⟩ | walk_at "fld" | refine ty_d (by walk_at "at") ?_ | refine ty_l (by walk_at "sq") ?_ | refine ty_t (‹Tx _ _›).z_FIELDS ?_ | refine And.intro (by first | omega | decide | exact Nat.le_of_ble_eq_true rfl | (unfold CDiv; omega) | (unfold CMul; omega)) ?_)
local macro_rules | `(tactic| walk_at "go") => `(tactic| repeat walk_at "w")
section
variable {P : Program} {w : World} {K : PySem.W.Frag} {mg : Str → Option Value} {base : Heap}

theorem data_ok {t : Lay} {r q : Int} {R : Nat} {vals : List Int} {ps : List (Int × Int)} (ht : t.ok) (hv : vals.length = (t.n - 1).toNat) (hr0 : 0 ≤ r) (hr1 : r < R) (hp : ps.Perm (dataCells t r vals ++ [(par t r, q)])) :
    (∀ p ∈ ps, 0 ≤ p.1 ∧ p.1 < t.n) ∧ ∀ e ∈ dataEs r ps, e.ok R := by
  have h1 : ∀ p ∈ ps, 0 ≤ p.1 ∧ p.1 < t.n := fun p hpm => by
    have h3 := ht.1
    have hm := hp.mem_iff.mp hpm
    rcases List.mem_append.mp hm with hm | hm
    · obtain ⟨i, hi, rfl⟩ := List.mem_map.mp hm
      have hi := List.mem_range.mp hi
      exact dat_range (by omega) r (by omega) (by omega)
    · rw [List.mem_singleton.mp hm]
      exact par_range (by omega) r
  refine ⟨h1, fun e he => ?_⟩
  obtain ⟨p, hpm, rfl⟩ := List.mem_map.mp he
  obtain ⟨a, b⟩ := h1 p hpm
  have := ht.2
  exact ⟨by omega, by omega⟩
theorem RawP.get {H : Hp} {ys : List V} {ps : List (Int × Int)} (h : RawP H ys ps) {i : Nat} {y : V} (hy : ys[i]? = some y) : ∃ p t, ps[i]? = some p ∧ y = V.ref t ∧ H t = some (.tup [.int p.1, .int p.2]) := by
  have hl := plen h
  have hi : i < ps.length := by have := (List.getElem?_eq_some_iff.mp hy).1; omega
  have hp : ps[i]? = some ps[i] := List.getElem?_eq_getElem hi
  obtain ⟨t, h1, h2⟩ := pget h hp hy
  exact ⟨_, t, hp, h1, h2⟩
theorem map_take_succ {α : Type} {f : α → En} {ps : List α} {i : Nat} {p : α} (h : ps[i]? = some p) : (ps.map f).take (i + 1) = (ps.map f).take i ++ [f p] := by
  rw [List.take_succ, List.getElem?_map, h]
  rfl
theorem rowVals_len (s : SB) (ds : List DiskS) (t : Lay) (r : Int) : (rowVals s ds t r).length = (t.n - 1).toNat := by simp [rowVals]
theorem stepA_sb (S : ArrS) (r : Int) (vals : List Int) (c : Bool) : (stepA S r vals c).sb = if c = true then { S.sb with num := S.sb.num + 1, aside := some r } else S.sb := by cases c <;> rfl
theorem stepA_mv (S : ArrS) (r : Int) (vals : List Int) (c : Bool) : (stepA S r vals c).sb.mv = S.sb.mv := by cases c <;> rfl
theorem stepA_sbok {S : ArrS} {r : Int} {vals : List Int} {c : Bool} (h : S.sb.ok) : (stepA S r vals c).sb.ok := by
  cases c with
  | false => exact h
  | true => exact ⟨h.lay, h.tgt, h.b0, h.b1, h.f0, h.f1⟩
theorem stepA_ok {S : ArrS} {r : Int} {vals : List Int} {c : Bool} {R : Nat} (h : S.ce.ok R) (hl : vals.length ≤ 100) : (stepA S r vals c).ce.ok R := by
  cases c with
  | false => exact h
  | true => exact putAside_ok h hl
theorem stepA_len (S : ArrS) (r : Int) (vals : List Int) (c : Bool) : (stepA S r vals c).ce.done.length ≤ S.ce.done.length + 14 := by
  cases c with
  | false => show S.ce.done.length ≤ _; omega
  | true => exact putAside_len S r vals
def sp_step (K : PySem.W.Frag) : Sp := fun vs H Q _ => ∃ (A : Ad) (S : ArrS) (R : Nat) (t : Lay) (up : Bool) (r : Int), vs = [.ref A.arr] ∧ ArrAt K H A S ∧ S.sb.ok ∧ S.ce.ok R ∧ S.sb.blocks ≤ 2 * R ∧ S.sb.mv = some (t, up) ∧ nextRow S.sb = some r ∧ 0 ≤ r ∧ r < R ∧ S.ce.done.length ≤ 7000 ∧
  ∀ (v : V) (H' : Hp) (ps : List (Int × Int)) (q : Int), ps.Perm (dataCells t r (rowVals S.sb S.ce.disks t r) ++ [(par t r, q)]) → Mv K A.F H H' → ArrAt K H' A (stepS S r (rowVals S.sb S.ce.disks t r) (decide (r ∈ usedL S.sb)) ps) → (∃ a, v = .ref a ∧ SqT K H' a [.int r, .bl (decide (r ∈ usedL S.sb))]) → Q v H'

theorem ok_step (T : Tx K mg) (g_Cells_flush : MK P w K mg base "Cells" "flush" ["self"] 1 (sp_Cells_flush K)) (g_Cells_put : MK P w K mg base "Cells" "put" ["self", "disk", "place", "contents"] 3 (sp_Cells_put K)) (g_State_field : MK P w K mg base "State" "field" ["self", "name"] 1 (sp_State_field K)) (g_State_go_on : MK P w K mg base "State" "go_on" ["self", "fields"] 5 (sp_State_go_on K)) (g_State_is_open : MK P w K mg base "State" "is_open" ["self", "disk", "row"] 2 (sp_State_is_open K)) (g_fields_behind : GK P w K mg base "fields_behind" ["state"] 13 (sp_fields_behind K) []) (g_is_critical : GK P w K mg base "is_critical" ["superblock"] 11 (sp_is_critical K) []) (g_next_row : GK P w K mg base "next_row" ["superblock"] 10 (sp_next_row K) []) (g_put_aside : GK P w K mg base "put_aside" ["state", "row", "values"] 6 (sp_put_aside K) []) (g_row_cells : GK P w K mg base "row_cells" ["layout", "row", "values"] 3 (sp_row_cells K) []) (g_row_values : GK P w K mg base "row_values" ["state", "row"] 6 (sp_row_values K) []) : GK P w K mg base "step" ["array"] 14 (sp_step K) [] := gk_mk T.f_step T.m_step (by decide +kernel) sc_step (fun _ _ _ _ _ _ us hl => match us, hl with | [_], _ => rfl) (fun _ _ _ _ h => by obtain ⟨_, _, _, _, _, _, rfl, _⟩ := h; rfl) fun cdv A outer s H vs Q E hr h => by
  have nd := sc_step.nd
  refine ⟨_, (pss_cons (ps_set (i := 1) nd rfl (Or.inl rfl) (pe_fldK K (pv 0)))
  (pss_cons (ps_set (i := 2) nd rfl (Or.inl rfl) (pe_gkK g_next_row hr (by decide) (pa_cons (pe_fldK K (pv 1)) pa_nil)))
  (pss_cons (ps_if (pt_cmpR op_isN (pv 2) pe_non (nomark _)) pss_never pss_nil)
  (pss_cons (ps_par (i := 3) (j := 4) (by rfl) nd rfl rfl (by decide) rfl rfl (pa_cons (pe_gkK g_is_critical hr (by decide) (pa_cons (pe_fldK K (pv 1)) pa_nil)) (pa_cons (pe_gkK g_row_values hr (by decide) (pa_cons (pv 1) (pa_cons (pv 2) pa_nil))) pa_nil)) (by rfl))
  (pss_cons (ps_if (pt_val (pv 3)) (pss_one (ps_expr (pe_gkK g_put_aside hr (by decide) (pa_cons (pv 1) (pa_cons (pv 2) (pa_cons (pv 4) pa_nil)))))) pss_nil)
  (pss_cons (ps_wf (ps_for PassesOwn.never rfl (pi_listK K (pe_gkK g_row_cells hr (by decide) (pa_cons (pe_mkK g_State_field hr (by decide) (pv 1) (pa_cons pe_str pa_nil)) (pa_cons (pv 2) (pa_cons (pv 4) pa_nil))))) (pg_tupK K 2 rfl (pgs_cons (pg_name (i := 5) nd rfl (Or.inl rfl)) (pgs_cons (pg_name (i := 6) nd rfl (Or.inl rfl)) pgs_nil))) (pss_one (ps_if (pt_val (pe_mkK g_State_is_open hr (by decide) (pv 1) (pa_cons (pv 5) (pa_cons (pv 2) pa_nil)))) (pss_one (ps_expr (pe_mkK g_Cells_put hr (by decide) (pe_fldK K (pv 1)) (pa_cons (pv 5) (pa_cons (pv 2) (pa_cons (pv 6) pa_nil)))))) pss_nil))))
  (pss_cons (ps_expr (pe_mk0K g_Cells_flush hr (by decide) (pe_fldK K (pv 1))))
  (pss_cons (ps_expr (pe_mkK g_State_go_on hr (by decide) (pv 1) (pa_cons (pe_gkK g_fields_behind hr (by decide) (pa_cons (pv 1) pa_nil)) pa_nil)))
  (pss_one (ps_ret (pe_tup (pa_cons (pv 2) (pa_cons (pv 3) pa_nil))))))))))))), ?_⟩
  obtain ⟨A, S, R, t, up, r, rfl, har, hsb, hok, hbR, hm, hnr, hr0, hr1, hdl, q⟩ := h
  have ht := hsb.tgt t up hm
  have ht1 := ht.1
  have ht2 := ht.2
  have hR20 := hok.r1
  have hs := har.sa
  have hH := har.arr
  obtain ⟨v0, hst, hv⟩ := hs.st
  walk_at "go"
  refine ⟨v0, S.sb, rfl, hv, hsb, fun H1 e1 => ?_⟩
  rw [hnr]
  have hst1 := e1 _ _ hst
  walk_at "go"
  refine ⟨v0, S.sb, r, rfl, hv.same e1, hsb, hnr, fun H2 e2 => ?_⟩
  have hst2 := e2 _ _ hst1
  have e02 := e1.trans e2
  walk_at "go"
  refine ⟨A, S, r, t, up, R, rfl, hs.same e02, hsb, hok, hbR, hm, hr0, by omega, fun av H3 e3 hav => ?_⟩
  have hs3 := hs.same (e02.trans e3)
  have e03 := e02.trans e3
  generalize hvals : rowVals S.sb S.ce.disks t r = vals at q hav
  have hvl : vals.length = (t.n - 1).toNat := by rw [← hvals]; exact rowVals_len _ _ _ _
  walk_at "go"
  generalize hcr : decide (r ∈ usedL S.sb) = c at q ⊢
  cases c with
  | false =>
    obtain ⟨H4, hH4⟩ : ∃ H4, H4 = H3 := ⟨_, rfl⟩
    have m4 : Mv K A.F H3 H4 := by rw [hH4]; exact .refl
    have hs4 : StateAt K H4 A (stepA S r vals false) := by rw [hH4]; exact hs3
    rw [← hH4]
    have har4 := har.setSa ((Mv.of_same e03).trans m4) hs4
    have hsb4 : (stepA S r vals false).sb.ok := stepA_sbok hsb
    have hok4 : (stepA S r vals false).ce.ok R := stepA_ok hok (by omega)
    have hmv4 : (stepA S r vals false).sb.mv = some (t, up) := by rw [stepA_mv]; exact hm
    have hlen4 := stepA_len S r vals false
    have hav4 := SqT.tk hav m4.t
    obtain ⟨v4, hst4, _⟩ := hs4.st
    generalize hS1 : stepA S r vals false = S1 at har4 hsb4 hok4 hmv4 hlen4 hs4
    walk_at "go"
    refine ⟨A, S1, 3, _, rfl, hs4, rfl, fun w hw => ?_⟩
    rw [show S1.sb.l.getD 3 .none = S1.sb.tgt from rfl, tgt_some hmv4] at hw
    walk_at "go"
    refine ⟨w, t, r, av, vals, rfl, hw, by omega, hav4, by omega, fun p H5 ys ps qq hp e5 hp5 hraw hperm => ?_⟩
    have hs5 := hs4.same e5
    have hpG := not_G hs4.ce hp
    obtain ⟨v5, hst5, _⟩ := hs5.st
    obtain ⟨hpr, hde⟩ := data_ok ht hvl hr0 hr1 hperm
    have hpsl : ps.length ≤ 6 := by
      have h1 := hperm.length_eq
      simp only [dataCells, List.length_append, List.length_map, List.length_range, List.length_singleton] at h1
      omega
    have hysl := plen hraw
    walk_at "go"
    refine forG (n := ys.length) (fun i σ H' => ∃ s5 s6, σ = [some (.ref A.arr), some (.ref A.st), some (.int r), some (.bl false), some (.ref av), s5, s6] ∧ Mv K A.G H5 H' ∧ CellsAt K H' A (S1.ce.puts ((dataEs r ps).take i))) ⟨none, none, rfl, .refl, hs5.ce⟩ (fun i σ H' hi ⟨_, _, _, m, _⟩ => itl_go (SqL.of (m.at hp5 hpG)) hi) (fun σ H' ⟨_, _, _, m, _⟩ => itl_stop (SqL.of (m.at hp5 hpG))) ?_ ?_
    · rintro i σ H' x H2 hi ⟨s5, s6, rfl, m, hc⟩ hy
      obtain ⟨rfl, hx⟩ := itl_yld (SqL.of (m.at hp5 hpG)) hy
      obtain ⟨pp, tt, hpp, rfl, htt⟩ := hraw.get hx
      have htt2 := SqT.tk (SqT.of (K := K) htt) m.t
      obtain ⟨hp0, hp1⟩ := hpr pp (List.mem_of_getElem? hpp)
      have hs' := hs5.setCe m hc
      obtain ⟨v6, hst6, _⟩ := hs'.st
      have hcs6 := hc.cs
      refine ⟨_, _, rfl, htt2, rfl, ?_⟩
      walk_at "go"
      refine ⟨A, _, pp.1, r, rfl, hs', hp0, by omega, ?_⟩
      walk_at "go"
      have hsub : ∀ e ∈ (dataEs r ps).take i, e.ok R := fun e he => hde e (List.mem_of_mem_take he)
      refine ⟨A, _, .data pp.1.toNat r.toNat pp.2, R, pp.1.toNat, .int r, .int pp.2, ?_, hc, hok4.ok_puts hsub, ⟨rfl, by rw [Int.toNat_of_nonneg hr0], rfl⟩, hde _ (List.mem_map.mpr ⟨pp, List.mem_of_getElem? hpp, rfl⟩), ?_, fun H3 m3 hc3 => ⟨_, _, rfl, m.trans m3, ?_⟩⟩
      · rw [Int.toNat_of_nonneg hp0]
        rfl
      · rw [CeS.puts_len]
        have : ((dataEs r ps).take i).length ≤ i := List.length_take_le _ _
        omega
      · unfold dataEs at hc3 ⊢
        rw [map_take_succ hpp, CeS.puts_snoc]
        exact hc3
    · rintro σ H' ⟨s5, s6, rfl, m, hc⟩
      have hfull : (dataEs r ps).take ys.length = dataEs r ps := List.take_of_length_le (by simp [dataEs]; omega)
      rw [hfull] at hc
      have hs' := hs5.setCe m hc
      obtain ⟨v6, hst6, _⟩ := hs'.st
      have hcs6 := hc.cs
      have hdel : (dataEs r ps).length ≤ 6 := by simp [dataEs]; omega
      walk_at "go"
      refine ⟨A, _, rfl, hc, by rw [CeS.puts_len]; omega, fun H7 m7 hc7 => ?_⟩
      have m57 : Mv K A.G H5 H7 := m.trans m7
      have hs7 : StateAt K H7 A (stepD S1 r ps) := hs5.setCe m57 hc7
      obtain ⟨v7, hst7, _⟩ := hs7.st
      have hsb7 : (stepD S1 r ps).sb.ok := hsb4
      have hmv7 : (stepD S1 r ps).sb.mv = some (t, up) := hmv4
      walk_at "go"
      refine ⟨A, _, t, up, rfl, hs7, hsb7, hmv7, fun f H8 hf e8 hu => ?_⟩
      have hok7 : (stepD S1 r ps).ce.ok R := (hok4.ok_puts hde).ok_flush
      have hlen7 : (stepD S1 r ps).ce.done.length ≤ 9000 := by
        have h1 := CeS.flush_len (S1.ce.puts (dataEs r ps))
        rw [CeS.puts_len] at h1
        show (S1.ce.puts (dataEs r ps)).flush.done.length ≤ _
        omega
      walk_at "go"
      refine ⟨A, _, f, _, R, rfl, hs7.same e8, hok7, hu, hlen7, fun H9 m9 hs9 => ?_⟩
      walk_at "go"
      intro l hl
      have mm : Mv K A.F H (upd H9 l (.tup [.int r, .bl false])) := (Mv.of_same e03).trans (m4.trans ((Mv.of_same e5).trans ((m57.sub F_of_G).trans ((Mv.of_same e8).trans (m9.trans (Mv.of_same (same_new hl)))))))
      refine q _ _ ps qq hperm mm ?_ ⟨l, rfl, SqT.new hl⟩
      have hfin : stepS S r vals false ps = goOn (stepD S1 r ps) (.all (steppedS (stepD S1 r ps).sb)) := by rw [← hS1]; rfl
      rw [hfin]
      exact har.setSa mm (hs9.same (same_new hl))
  | true =>
    walk_at "go"
    refine ⟨A, S, R, r, av, vals, rfl, hs3, hok, hav, by omega, by omega, fun H4 m4 hs4 => ?_⟩
    have hs4 : StateAt K H4 A (stepA S r vals true) := hs4
    have har4 := har.setSa ((Mv.of_same e03).trans m4) hs4
    have hsb4 : (stepA S r vals true).sb.ok := stepA_sbok hsb
    have hok4 : (stepA S r vals true).ce.ok R := stepA_ok hok (by omega)
    have hmv4 : (stepA S r vals true).sb.mv = some (t, up) := by rw [stepA_mv]; exact hm
    have hlen4 := stepA_len S r vals true
    have hav4 := SqT.tk hav m4.t
    obtain ⟨v4, hst4, _⟩ := hs4.st
    generalize hS1 : stepA S r vals true = S1 at har4 hsb4 hok4 hmv4 hlen4 hs4
    walk_at "go"
    refine ⟨A, S1, 3, _, rfl, hs4, rfl, fun w hw => ?_⟩
    rw [show S1.sb.l.getD 3 .none = S1.sb.tgt from rfl, tgt_some hmv4] at hw
    walk_at "go"
    refine ⟨w, t, r, av, vals, rfl, hw, by omega, hav4, by omega, fun p H5 ys ps qq hp e5 hp5 hraw hperm => ?_⟩
    have hs5 := hs4.same e5
    have hpG := not_G hs4.ce hp
    obtain ⟨v5, hst5, _⟩ := hs5.st
    obtain ⟨hpr, hde⟩ := data_ok ht hvl hr0 hr1 hperm
    have hpsl : ps.length ≤ 6 := by
      have h1 := hperm.length_eq
      simp only [dataCells, List.length_append, List.length_map, List.length_range, List.length_singleton] at h1
      omega
    have hysl := plen hraw
    walk_at "go"
    refine forG (n := ys.length) (fun i σ H' => ∃ s5 s6, σ = [some (.ref A.arr), some (.ref A.st), some (.int r), some (.bl true), some (.ref av), s5, s6] ∧ Mv K A.G H5 H' ∧ CellsAt K H' A (S1.ce.puts ((dataEs r ps).take i))) ⟨none, none, rfl, .refl, hs5.ce⟩ (fun i σ H' hi ⟨_, _, _, m, _⟩ => itl_go (SqL.of (m.at hp5 hpG)) hi) (fun σ H' ⟨_, _, _, m, _⟩ => itl_stop (SqL.of (m.at hp5 hpG))) ?_ ?_
    · rintro i σ H' x H2 hi ⟨s5, s6, rfl, m, hc⟩ hy
      obtain ⟨rfl, hx⟩ := itl_yld (SqL.of (m.at hp5 hpG)) hy
      obtain ⟨pp, tt, hpp, rfl, htt⟩ := hraw.get hx
      have htt2 := SqT.tk (SqT.of (K := K) htt) m.t
      obtain ⟨hp0, hp1⟩ := hpr pp (List.mem_of_getElem? hpp)
      have hs' := hs5.setCe m hc
      obtain ⟨v6, hst6, _⟩ := hs'.st
      have hcs6 := hc.cs
      refine ⟨_, _, rfl, htt2, rfl, ?_⟩
      walk_at "go"
      refine ⟨A, _, pp.1, r, rfl, hs', hp0, by omega, ?_⟩
      walk_at "go"
      have hsub : ∀ e ∈ (dataEs r ps).take i, e.ok R := fun e he => hde e (List.mem_of_mem_take he)
      refine ⟨A, _, .data pp.1.toNat r.toNat pp.2, R, pp.1.toNat, .int r, .int pp.2, ?_, hc, hok4.ok_puts hsub, ⟨rfl, by rw [Int.toNat_of_nonneg hr0], rfl⟩, hde _ (List.mem_map.mpr ⟨pp, List.mem_of_getElem? hpp, rfl⟩), ?_, fun H3 m3 hc3 => ⟨_, _, rfl, m.trans m3, ?_⟩⟩
      · rw [Int.toNat_of_nonneg hp0]
        rfl
      · rw [CeS.puts_len]
        have : ((dataEs r ps).take i).length ≤ i := List.length_take_le _ _
        omega
      · unfold dataEs at hc3 ⊢
        rw [map_take_succ hpp, CeS.puts_snoc]
        exact hc3
    · rintro σ H' ⟨s5, s6, rfl, m, hc⟩
      have hfull : (dataEs r ps).take ys.length = dataEs r ps := List.take_of_length_le (by simp [dataEs]; omega)
      rw [hfull] at hc
      have hs' := hs5.setCe m hc
      obtain ⟨v6, hst6, _⟩ := hs'.st
      have hcs6 := hc.cs
      have hdel : (dataEs r ps).length ≤ 6 := by simp [dataEs]; omega
      walk_at "go"
      refine ⟨A, _, rfl, hc, by rw [CeS.puts_len]; omega, fun H7 m7 hc7 => ?_⟩
      have m57 : Mv K A.G H5 H7 := m.trans m7
      have hs7 : StateAt K H7 A (stepD S1 r ps) := hs5.setCe m57 hc7
      obtain ⟨v7, hst7, _⟩ := hs7.st
      have hsb7 : (stepD S1 r ps).sb.ok := hsb4
      have hmv7 : (stepD S1 r ps).sb.mv = some (t, up) := hmv4
      walk_at "go"
      refine ⟨A, _, t, up, rfl, hs7, hsb7, hmv7, fun f H8 hf e8 hu => ?_⟩
      have hok7 : (stepD S1 r ps).ce.ok R := (hok4.ok_puts hde).ok_flush
      have hlen7 : (stepD S1 r ps).ce.done.length ≤ 9000 := by
        have h1 := CeS.flush_len (S1.ce.puts (dataEs r ps))
        rw [CeS.puts_len] at h1
        show (S1.ce.puts (dataEs r ps)).flush.done.length ≤ _
        omega
      walk_at "go"
      refine ⟨A, _, f, _, R, rfl, hs7.same e8, hok7, hu, hlen7, fun H9 m9 hs9 => ?_⟩
      walk_at "go"
      intro l hl
      have mm : Mv K A.F H (upd H9 l (.tup [.int r, .bl true])) := (Mv.of_same e03).trans (m4.trans ((Mv.of_same e5).trans ((m57.sub F_of_G).trans ((Mv.of_same e8).trans (m9.trans (Mv.of_same (same_new hl)))))))
      refine q _ _ ps qq hperm mm ?_ ⟨l, rfl, SqT.new hl⟩
      have hfin : stepS S r vals true ps = goOn (stepD S1 r ps) (.all (steppedS (stepD S1 r ps).sb)) := by rw [← hS1]; rfl
      rw [hfin]
      exact har.setSa mm (hs9.same (same_new hl))


end
end WS
set_option Elab.async false
set_option linter.all false
set_option maxRecDepth 100000
set_option maxHeartbeats 4000000
namespace WS
open PySem PySem.Spec PyProof.Rows L2
local macro_rules | `(tactic| walk_at "tdg") => `(tactic| first | (apply tdg0; walk_at "at") | (apply tdg1; walk_at "at") | (apply tdg2; walk_at "at") | (apply tdg3; walk_at "at") | (apply tdg4; walk_at "at") | (apply tdg5; walk_at "at") | (apply tdg6; walk_at "at") | (apply tdg7; walk_at "at") | (apply tdg8; walk_at "at"))
local macro_rules | `(tactic| walk_at "no") => `(tactic| first | assumption | (apply no_by; assumption; walk_at "sm"))
local macro_rules | `(tactic| walk_at "sm") => `(tactic| first | exact Same.refl _ | assumption | (apply same_up; walk_at "no"; walk_at "sm") | (apply same_by; assumption; walk_at "sm"))
local macro_rules | `(tactic| walk_at "tk") => `(tactic| first | exact TK.refl | assumption | (apply tk_up; walk_at "no"; walk_at "tk") | (apply tk_by; assumption; walk_at "tk") | (apply tk_mv; assumption; walk_at "tk"))
local macro_rules | `(tactic| walk_at "mv") => `(tactic| first | exact Mv.refl | assumption | (apply mv_up; walk_at "no"; walk_at "mv") | (apply mv_mv; assumption; walk_at "mv") | (apply mv_by; assumption; walk_at "mv"))
local macro_rules | `(tactic| walk_at "ne") => `(tactic| first | assumption | (refine Ne.symm ?_; assumption))
local macro_rules | `(tactic| walk_at "at") => `(tactic| first | assumption | exact upd_same | (apply at_new; walk_at "no"; walk_at "at") | (apply at_ne; walk_at "ne"; walk_at "at") | (apply at_same; assumption; walk_at "at") | (apply at_mv; assumption; assumption; walk_at "at"))
local macro_rules | `(tactic| walk_at "rp") => `(tactic| first | assumption | exact Rp.non | exact Rp.int _ | exact Rp.str _ | (apply rp_tk; assumption; walk_at "tk"))
local macro_rules | `(tactic| walk_at "sq") => `(tactic| first | assumption | exact (‹Tx _ _›).t_METAS _ | exact (‹Tx _ _›).t_FIELDS _ | exact (‹Tx _ _›).t_LEFT _ | exact (‹Tx _ _›).t_SYMMETRIC _ | (apply SqT.of; walk_at "at") | (apply SqL.of; walk_at "at") | (apply sqt_tk; assumption; walk_at "tk") | (apply sql_sm; assumption; walk_at "sm"))
local macro_rules | `(tactic| walk_at "sd") => `(tactic| first | rfl | omega | assumption | decide)
local macro_rules | `(tactic| walk_at "fld") => `(tactic| first | refine ⟨_, _, _, _, _, rfl, (by walk_at "at" : _ = some _), (‹Tx _ _›).c_Cells, (‹Tx _ _›).n_Cells_disks, rfl, ?_⟩ | refine ⟨_, _, _, _, _, rfl, (by walk_at "at" : _ = some _), (‹Tx _ _›).c_Cells, (‹Tx _ _›).n_Cells_done, rfl, ?_⟩ | refine ⟨_, _, _, _, _, rfl, (by walk_at "at" : _ = some _), (‹Tx _ _›).c_Cells, (‹Tx _ _›).n_Cells_begun, rfl, ?_⟩ | refine ⟨_, _, _, _, _, rfl, (by walk_at "at" : _ = some _), (‹Tx _ _›).c_Cells, (‹Tx _ _›).n_Cells_is_loose, rfl, ?_⟩ | refine ⟨_, _, _, _, _, rfl, (by walk_at "at" : _ = some _), (‹Tx _ _›).c_State, (‹Tx _ _›).n_State_cells, rfl, ?_⟩ | refine ⟨_, _, _, _, _, rfl, (by walk_at "at" : _ = some _), (‹Tx _ _›).c_State, (‹Tx _ _›).n_State_own_superblock, rfl, ?_⟩ | refine ⟨_, _, _, _, _, rfl, (by walk_at "at" : _ = some _), (‹Tx _ _›).c_Array, (‹Tx _ _›).n_Array_state, rfl, ?_⟩)
local macro_rules | `(tactic| walk_at "w") => `(tactic| first | refine ⟨_, rfl, ⟨_, (by walk_at "sq" : SqT _ _ _ _)⟩, ?_⟩ | refine ⟨_, rfl, ⟨_, (by walk_at "sq" : SqL _ _ _ _)⟩, ?_⟩ | refine ⟨_, rfl, ?_⟩ | refine ⟨_, _, rfl, rfl, ?_⟩ | refine ⟨rfl, ?_⟩ | refine ⟨_, _, rfl, (by walk_at "sq" : SqT _ _ _ _), rfl, ?_⟩ | refine ⟨_, _, rfl, (by walk_at "sq" : SqT _ _ _ _), ?_⟩ | refine ⟨_, _, rfl, (by walk_at "sq" : SqL _ _ _ _), ?_⟩ | refine ⟨_, _, rfl, (by walk_at "tdg" : DGet _ _ _ _), ?_⟩ | refine ⟨_, _, rfl, ?_⟩ | refine ⟨_, _, _, _, rfl, rfl, (by walk_at "sq" : SqT _ _ _ _), rfl, ?_⟩ | refine ⟨_, _, rfl, .inl (by walk_at "sq" : SqL _ _ _ _), rfl, rfl, ?_⟩ | refine ⟨_, _, rfl, .inr (by walk_at "sq" : SqT _ _ _ _), rfl, rfl, ?_⟩ | refine ⟨_, _, rfl, .inl (by walk_at "sq" : SqL _ _ _ _), ?_⟩ | refine ⟨_, _, rfl, .inr (by walk_at "sq" : SqT _ _ _ _), ?_⟩ | refine ⟨_, _, rfl, (by walk_at "at" : _ = some (HO.dK _)), ?_⟩ | refine ⟨_, _, _, _, rfl, rfl, (by walk_at "sq" : SqL _ _ _ _), rfl, ?_⟩ | refine ⟨_, _, _, rfl, (by walk_at "at" : _ = some _), rfl, ?_⟩ | refine ⟨_, _, _, rfl, ?_⟩ | walk_at "fld" | refine ty_d (by walk_at "at") ?_ | refine ty_l (by walk_at "sq") ?_ | refine ty_t (‹Tx _ _›).z_FIELDS ?_ | refine And.intro (by first | omega | decide | exact Nat.le_of_ble_eq_true rfl | (unfold CDiv; omega) | (unfold CMul; omega)) ?_)
local macro_rules | `(tactic| walk_at "go") => `(tactic| repeat walk_at "w")
section
variable {P : Program} {w : World} {K : PySem.W.Frag} {mg : Str → Option Value} {base : Heap}

def sp_turn (K : PySem.W.Frag) : Sp := fun vs H Q _ => ∃ (A : Ad) (S : ArrS) (R : Nat) (t : Lay) (up : Bool), vs = [.ref A.arr] ∧ ArrAt K H A S ∧ S.ce.ok R ∧ S.sb.mv = some (t, up) ∧ S.ce.done.length ≤ 8000 ∧
  ∀ H', Mv K A.F H H' → ArrAt K H' A (goOn S (.all (turnedS S.sb))) → Q .non H'

theorem ok_turn (T : Tx K mg) (g_State_field : MK P w K mg base "State" "field" ["self", "name"] 1 (sp_State_field K)) (g_State_go_on : MK P w K mg base "State" "go_on" ["self", "fields"] 5 (sp_State_go_on K)) (g_changes : GK P w K mg base "changes" ["superblock"] 1 (sp_changes K) []) (g_turned : GK P w K mg base "turned" ["superblock"] 10 (sp_turned K) []) : GK P w K mg base "turn" ["array"] 11 (sp_turn K) [] := gk_mk T.f_turn T.m_turn (by decide +kernel) sc_turn (fun _ _ _ _ _ _ us hl => match us, hl with | [_], _ => rfl) (fun _ _ _ _ h => by obtain ⟨_, _, _, _, _, rfl, _⟩ := h; rfl) fun cdv A outer s H vs Q E hr h => by
  have nd := sc_turn.nd
  refine ⟨_, (pss_cons (ps_set (i := 1) nd rfl (Or.inl rfl) (pe_fldK K (pv 0)))
  (pss_cons (ps_if (pt_cmpR op_isN (pe_mkK g_State_field hr (by decide) (pv 1) (pa_cons pe_str pa_nil)) pe_non (nomark _)) pss_never pss_nil)
  (pss_one (ps_expr (pe_mkK g_State_go_on hr (by decide) (pv 1) (pa_cons (pe_gkK g_changes hr (by decide) (pa_cons (pe_gkK g_turned hr (by decide) (pa_cons (pe_fldK K (pv 1)) pa_nil)) pa_nil)) pa_nil)))))), ?_⟩
  obtain ⟨A, S, R, t, up, rfl, har, hok, hm, hdl, q⟩ := h
  have hs := har.sa
  have hH := har.arr
  obtain ⟨v0, hst, hv⟩ := hs.st
  walk_at "go"
  refine ⟨A, S, 3, _, rfl, hs, rfl, fun w hw => ?_⟩
  rw [show S.sb.l.getD 3 .none = S.sb.tgt from rfl, tgt_some hm] at hw
  obtain ⟨aw, rfl, _⟩ := lay_open hw
  walk_at "go"
  refine ⟨v0, S.sb, t, up, rfl, hv, hm, fun w H1 e1 hw1 => ?_⟩
  walk_at "go"
  refine ⟨w, _, rfl, hw1, fun f H2 hf e2 hu => ?_⟩
  have e02 := e1.trans e2
  walk_at "go"
  refine ⟨A, S, f, _, R, rfl, hs.same e02, hok, hu, by omega, fun H3 m3 hs3 => ?_⟩
  walk_at "go"
  have mm : Mv K A.F H H3 := (Mv.of_same e02).trans m3
  exact q _ mm (har.setSa mm hs3)

def sp_change (K : PySem.W.Frag) : Sp := fun vs H Q _ => ∃ (A : Ad) (S : ArrS) (R : Nat) (x : V) (t : Lay), vs = [.ref A.arr, x] ∧ ArrAt K H A S ∧ S.ce.ok R ∧ S.sb.mv = none ∧ Rp K H x t.d ∧ t.ok ∧ S.sb.blocks ≤ 2 * R ∧ S.ce.done.length ≤ 8000 ∧
  ∀ H', Mv K A.F H H' → ArrAt K H' A (goOn S (.all (begunS S.sb t))) → Q .non H'

theorem ok_change (T : Tx K mg) (g_Cells_rows : MK P w K mg base "Cells" "rows" ["self"] 3 (sp_Cells_rows K)) (g_Cells_there : MK P w K mg base "Cells" "there" ["self", "disk"] 1 (sp_Cells_there K)) (g_State_field : MK P w K mg base "State" "field" ["self", "name"] 1 (sp_State_field K)) (g_State_go_on : MK P w K mg base "State" "go_on" ["self", "fields"] 5 (sp_State_go_on K)) (g_as_tuples : GK P w K mg base "as_tuples" ["thing"] 8 (sp_as_tuples K) []) (g_begun : GK P w K mg base "begun" ["superblock", "target"] 10 (sp_begun K) []) (g_changes : GK P w K mg base "changes" ["superblock"] 1 (sp_changes K) []) : GK P w K mg base "change" ["array", "target"] 11 (sp_change K) [] := gk_mk T.f_change T.m_change (by decide +kernel) sc_change (fun _ _ _ _ _ _ us hl => match us, hl with | [_, _], _ => rfl) (fun _ _ _ _ h => by obtain ⟨_, _, _, _, _, rfl, _⟩ := h; rfl) fun cdv A outer s H vs Q E hr h => by
  have nd := sc_change.nd
  refine ⟨_, (pss_cons (ps_par (i := 2) (j := 1) (by rfl) nd rfl rfl (by decide) rfl rfl (pa_cons (pe_fldK K (pv 0)) (pa_cons (pe_gkK g_as_tuples hr (by decide) (pa_cons (pv 1) pa_nil)) pa_nil)) (by rfl))
  (pss_cons (ps_if (pt_cmpR op_notN (pe_mkK g_State_field hr (by decide) (pv 2) (pa_cons pe_str pa_nil)) pe_non (nomark _)) pss_never pss_nil)
  (pss_cons (ps_if (pt_cmpR op_lt (pe_op op_mul (pe_mk0K g_Cells_rows hr (by decide) (pe_fldK K (pv 2))) (pe_op op_sub (pe_ix (ix_tupK K) (pv 1) pe_int (fun _ _ => rfl)) pe_int)) (pe_mkK g_State_field hr (by decide) (pv 2) (pa_cons pe_str pa_nil)) (nomark _)) pss_never pss_nil)
  (pss_cons (ps_wf (ps_for PassesOwn.never rfl (pi_range1 rfl T.b_range (pa_cons (pe_ix (ix_tupK K) (pv 1) pe_int (fun _ _ => rfl)) pa_nil)) (pg_name (i := 3) nd rfl (Or.inl rfl)) (pss_one (ps_if (PW.pt (pw_and (pt_not (pt_val (pe_mkK g_Cells_there hr (by decide) (pe_fldK K (pv 2)) (pa_cons (pv 3) pa_nil)))) (pw_and1 (pt_cmpR op_ne (pv 3) (pe_mkK g_State_field hr (by decide) (pv 2) (pa_cons pe_str pa_nil)) (nomark _))))) pss_never pss_nil))))
  (pss_one (ps_expr (pe_mkK g_State_go_on hr (by decide) (pv 2) (pa_cons (pe_gkK g_changes hr (by decide) (pa_cons (pe_gkK g_begun hr (by decide) (pa_cons (pe_fldK K (pv 2)) (pa_cons (pv 1) pa_nil))) pa_nil)) pa_nil)))))))), ?_⟩
  obtain ⟨A, S, R, x, t, rfl, har, hok, hm, hx, ht, hbR, hdl, q⟩ := h
  have hs := har.sa
  have hH := har.arr
  have ht1 := ht.1
  have ht2 := ht.2
  obtain ⟨v0, hst, hv⟩ := hs.st
  have hcs := hs.ce.cs
  walk_at "go"
  refine ⟨x, _, rfl, .inl hx, (fits_lay t).le (by decide), fun x1 H1 e1 hx1 => ?_⟩
  obtain ⟨ax, rfl, hax⟩ := lay_open hx1
  have hs1 := hs.same e1
  have hst1 := e1 _ _ hst
  have hcs1 := e1 _ _ hcs
  walk_at "go"
  refine ⟨A, S, 3, _, rfl, hs1, rfl, fun w hw => ?_⟩
  rw [show S.sb.l.getD 3 .none = S.sb.tgt from rfl, tgt_none hm] at hw
  obtain rfl : w = .non := hw.non_eq
  walk_at "go"
  refine ⟨A, _, R, rfl, hs1.ce, fun d hd => (hok.od d hd).n, fun H2 e2 => ?_⟩
  have hs2 := hs1.same e2
  have hst2 := e2 _ _ hst1
  have hcs2 := e2 _ _ hcs1
  have hax2 := SqT.tk hax (tk_same e2)
  have hR20 := hok.r1
  walk_at "go"
  refine ⟨A, S, 1, _, rfl, hs2, rfl, fun w hw => ?_⟩
  obtain rfl : w = .int S.sb.blocks := hw.int_eq
  have hge : S.sb.blocks ≤ (R : Int) * (t.n - 1) := by
    have h4 : (R : Int) * 2 ≤ (R : Int) * (t.n - 1) := Int.mul_le_mul_of_nonneg_left (by omega) (by omega)
    omega
  walk_at "go"
  rw [decide_eq_false (by omega)]
  walk_at "go"
  refine forG (n := t.n.toNat) (fun i σ H' => ∃ s3, σ = [some (.ref A.arr), some (.ref ax), some (.ref A.st), s3] ∧ H' = H2) ⟨none, rfl, rfl⟩ (fun i σ H' hi _ => by show i < _; exact hi) (fun σ H' _ => by show _ ≤ _; exact Nat.le_refl _) ?_ ?_
  · rintro i σ H' x H3 hi ⟨s3, rfl, rfl⟩ ⟨rfl, rfl⟩
    walk_at "go"
    refine ⟨A, _, _, rfl, hs2.ce, ?_⟩
    rw [decide_eq_true (by omega)]
    walk_at "go"
    first | exact rfl | exact ⟨_, rfl, rfl⟩ | exact ⟨rfl, rfl⟩
  · rintro σ H' ⟨s3, rfl, rfl⟩
    walk_at "go"
    refine ⟨v0, .ref ax, S.sb, t, rfl, (hv.same e1).same e2, hx1.same e2, fun w H3 e3 hw3 => ?_⟩
    walk_at "go"
    refine ⟨w, _, rfl, hw3, fun f H4 hf e4 hu => ?_⟩
    have e24 := e3.trans e4
    walk_at "go"
    refine ⟨A, S, f, _, R, rfl, hs2.same e24, hok, hu, by omega, fun H5 m5 hs5 => ?_⟩
    walk_at "go"
    have mm : Mv K A.F H H5 := (Mv.of_same (e1.trans (e2.trans e24))).trans m5
    exact q _ mm (har.setSa mm hs5)


end
end WS
set_option Elab.async false
set_option linter.all false
set_option maxRecDepth 100000
set_option maxHeartbeats 4000000
namespace WS
open PySem PySem.Spec PyProof.Rows L2
local macro_rules | `(tactic| walk_at "tdg") => `(tactic| first | (apply tdg0; walk_at "at") | (apply tdg1; walk_at "at") | (apply tdg2; walk_at "at") | (apply tdg3; walk_at "at") | (apply tdg4; walk_at "at") | (apply tdg5; walk_at "at") | (apply tdg6; walk_at "at") | (apply tdg7; walk_at "at") | (apply tdg8; walk_at "at"))
local macro_rules | `(tactic| walk_at "no") => `(tactic| first | assumption | (apply no_by; assumption; walk_at "sm"))
local macro_rules | `(tactic| walk_at "sm") => `(tactic| first | exact Same.refl _ | assumption | (apply same_up; walk_at "no"; walk_at "sm") | (apply same_by; assumption; walk_at "sm"))
local macro_rules | `(tactic| walk_at "tk") => `(tactic| first | exact TK.refl | assumption | (apply tk_up; walk_at "no"; walk_at "tk") | (apply tk_by; assumption; walk_at "tk") | (apply tk_mv; assumption; walk_at "tk"))
local macro_rules | `(tactic| walk_at "mv") => `(tactic| first | exact Mv.refl | assumption | (apply mv_up; walk_at "no"; walk_at "mv") | (apply mv_mv; assumption; walk_at "mv") | (apply mv_by; assumption; walk_at "mv"))
local macro_rules | `(tactic| walk_at "ne") => `(tactic| first | assumption | (refine Ne.symm ?_; assumption))
local macro_rules | `(tactic| walk_at "at") => `(tactic| first | assumption | exact upd_same | (apply at_new; walk_at "no"; walk_at "at") | (apply at_ne; walk_at "ne"; walk_at "at") | (apply at_same; assumption; walk_at "at") | (apply at_mv; assumption; assumption; walk_at "at"))
local macro_rules | `(tactic| walk_at "rp") => `(tactic| first | assumption | exact Rp.non | exact Rp.int _ | exact Rp.str _ | (apply rp_tk; assumption; walk_at "tk"))
local macro_rules | `(tactic| walk_at "sq") => `(tactic| first | assumption | exact (‹Tx _ _›).t_METAS _ | exact (‹Tx _ _›).t_FIELDS _ | exact (‹Tx _ _›).t_LEFT _ | exact (‹Tx _ _›).t_SYMMETRIC _ | (apply SqT.of; walk_at "at") | (apply SqL.of; walk_at "at") | (apply sqt_tk; assumption; walk_at "tk") | (apply sql_sm; assumption; walk_at "sm"))
local macro_rules | `(tactic| walk_at "sd") => `(tactic| first | rfl | omega | assumption | decide)
local macro_rules | `(tactic| walk_at "fld") => `(tactic| first | refine ⟨_, _, _, _, _, rfl, (by walk_at "at" : _ = some _), (‹Tx _ _›).c_Cells, (‹Tx _ _›).n_Cells_disks, rfl, ?_⟩ | refine ⟨_, _, _, _, _, rfl, (by walk_at "at" : _ = some _), (‹Tx _ _›).c_Cells, (‹Tx _ _›).n_Cells_done, rfl, ?_⟩ | refine ⟨_, _, _, _, _, rfl, (by walk_at "at" : _ = some _), (‹Tx _ _›).c_Cells, (‹Tx _ _›).n_Cells_begun, rfl, ?_⟩ | refine ⟨_, _, _, _, _, rfl, (by walk_at "at" : _ = some _), (‹Tx _ _›).c_Cells, (‹Tx _ _›).n_Cells_is_loose, rfl, ?_⟩ | refine ⟨_, _, _, _, _, rfl, (by walk_at "at" : _ = some _), (‹Tx _ _›).c_State, (‹Tx _ _›).n_State_cells, rfl, ?_⟩ | refine ⟨_, _, _, _, _, rfl, (by walk_at "at" : _ = some _), (‹Tx _ _›).c_State, (‹Tx _ _›).n_State_own_superblock, rfl, ?_⟩ | refine ⟨_, _, _, _, _, rfl, (by walk_at "at" : _ = some _), (‹Tx _ _›).c_Array, (‹Tx _ _›).n_Array_state, rfl, ?_⟩)
local macro_rules | `(tactic| walk_at "w") => `(tactic| first | refine ⟨_, rfl, ⟨_, (by walk_at "sq" : SqT _ _ _ _)⟩, ?_⟩ | refine ⟨_, rfl, ⟨_, (by walk_at "sq" : SqL _ _ _ _)⟩, ?_⟩ | refine ⟨_, rfl, ?_⟩ | refine ⟨_, _, rfl, rfl, ?_⟩ | refine ⟨rfl, ?_⟩ | refine ⟨_, _, rfl, (by walk_at "sq" : SqT _ _ _ _), rfl, ?_⟩ | refine ⟨_, _, rfl, (by walk_at "sq" : SqT _ _ _ _), ?_⟩ | refine ⟨_, _, rfl, (by walk_at "sq" : SqL _ _ _ _), ?_⟩ | refine ⟨_, _, rfl, (by walk_at "tdg" : DGet _ _ _ _), ?_⟩ | refine ⟨_, _, rfl, ?_⟩ | refine ⟨_, _, _, _, rfl, rfl, (by walk_at "sq" : SqT _ _ _ _), rfl, ?_⟩ | refine ⟨_, _, rfl, .inl (by walk_at "sq" : SqL _ _ _ _), rfl, rfl, ?_⟩ | refine ⟨_, _, rfl, .inr (by walk_at "sq" : SqT _ _ _ _), rfl, rfl, ?_⟩ | refine ⟨_, _, rfl, .inl (by walk_at "sq" : SqL _ _ _ _), ?_⟩ | refine ⟨_, _, rfl, .inr (by walk_at "sq" : SqT _ _ _ _), ?_⟩ | refine ⟨_, _, rfl, (by walk_at "at" : _ = some (HO.dK _)), ?_⟩ | refine ⟨_, _, _, _, rfl, rfl, (by walk_at "sq" : SqL _ _ _ _), rfl, ?_⟩ | refine ⟨_, _, _, rfl, (by walk_at "at" : _ = some _), rfl, ?_⟩ | refine ⟨_, _, _, rfl, ?_⟩ | walk_at "fld" | refine ty_d (by walk_at "at") ?_ | refine ty_l (by walk_at "sq") ?_ | refine ty_t (‹Tx _ _›).z_FIELDS ?_ | refine And.intro (by first | omega | decide | exact Nat.le_of_ble_eq_true rfl | (unfold CDiv; omega) | (unfold CMul; omega)) ?_)
local macro_rules | `(tactic| walk_at "go") => `(tactic| repeat walk_at "w")
section
variable {P : Program} {w : World} {K : PySem.W.Frag} {mg : Str → Option Value} {base : Heap}

def sp_look_for (K : PySem.W.Frag) : Sp := fun vs H Q _ => ∃ (A : Ad) (S : ArrS) (b : Int), vs = [.ref A.arr, .int b] ∧ ArrAt K H A S ∧ 0 ≤ b ∧ b < S.sb.blocks ∧ Q .non H

theorem ok_look_for (T : Tx K mg) (g_State_field : MK P w K mg base "State" "field" ["self", "name"] 1 (sp_State_field K)) : GK P w K mg base "look_for" ["array", "block"] 2 (sp_look_for K) [] := gk_mk T.f_look_for T.m_look_for (by decide +kernel) sc_look_for (fun _ _ _ _ _ _ us hl => match us, hl with | [_, _], _ => rfl) (fun _ _ _ _ h => by obtain ⟨_, _, _, rfl, _⟩ := h; rfl) fun cdv A outer s H vs Q E hr h => by
  have nd := sc_look_for.nd
  refine ⟨_, (pss_one (ps_if (pt_not (pt_chain op_le op_lt pe_int (pv 1) (pe_mkK g_State_field hr (by decide) (pe_fldK K (pv 0)) (pa_cons pe_str pa_nil)))) pss_never pss_nil)), ?_⟩
  obtain ⟨A, S, b, rfl, har, h0, h1, q⟩ := h
  have hs := har.sa
  have hH := har.arr
  obtain ⟨v0, hst, hv⟩ := hs.st
  walk_at "go"
  rw [decide_eq_true h0]
  walk_at "go"
  refine ⟨A, S, 1, _, rfl, hs, rfl, fun w hw => ?_⟩
  obtain rfl : w = .int S.sb.blocks := hw.int_eq
  walk_at "go"
  rw [decide_eq_true h1]
  walk_at "go"
  exact q

def sp_bad_disks (K : PySem.W.Frag) : Sp := fun vs H Q _ => ∃ (A : Ad) (S : ArrS) (x : V) (l : Lay) (r R : Nat), vs = [.ref A.st, x, .int r] ∧ StateAt K H A S ∧ S.ce.ok R ∧ Rp K H x l.d ∧ l.ok ∧ r < R ∧ ∀ p H', H p = none → Same H H' → H' p = some (.lst []) → Q (.ref p) H'

theorem ok_bad_disks (T : Tx K mg) (g_State_good : MK P w K mg base "State" "good" ["self", "disk", "row"] 3 (sp_State_good K)) : GK P w K mg base "bad_disks" ["state", "layout", "row"] 4 (sp_bad_disks K) [] := gk_mk T.f_bad_disks T.m_bad_disks (by decide +kernel) sc_bad_disks (fun _ _ _ _ _ _ us hl => match us, hl with | [_, _, _], _ => rfl) (fun _ _ _ _ h => by obtain ⟨_, _, _, _, _, _, rfl, _⟩ := h; rfl) fun cdv A outer s H vs Q E hr h => by
  have nd := sc_bad_disks.nd
  refine ⟨_, (pss_one (ps_ret (pe_w (pe_lc (own := [("disk", 3)]) (g := gName 3) (tt := _) rfl nd (pi_range1 rfl T.b_range (pa_cons (pe_ix (ix_tupK K) (pv 1) pe_int (fun _ _ => rfl)) pa_nil)) (blkOk_by (N := ["state", "layout", "row", "disk"]) (sc := defScope s_bad_disks) (by decide +kernel)) (fun _ _ _ _ _ => (pg_name (i := 3) nd rfl (Or.inl rfl))) (fun _ _ _ _ _ => (pts_one (pt_not (pt_val (pe_mkK g_State_good hr (by decide) (pv 0) (pa_cons (pv 3) (pa_cons (pv 2) pa_nil))))))) (fun _ _ _ _ _ => (pv 3)))))), ?_⟩
  obtain ⟨A, S, x, l, r, R, rfl, hs, hok, hx, hl, hr, q⟩ := h
  obtain ⟨ax, rfl, hax⟩ := lay_open hx
  obtain ⟨v0, hst, hv⟩ := hs.st
  have hl1 := hl.1
  have hl2 := hl.2
  walk_at "go"
  refine lcK (n := l.n.toNat) (fun _ => false) (fun _ _ _ => True) (by omega) (fun _ _ _ _ _ _ => trivial) (fun i H' hi e => by show i < _; exact hi) (fun H' e => by show _ ≤ _; exact Nat.le_refl _) ?_ ?_
  · rintro i H' x H2 hi e ⟨rfl, rfl⟩ R2 Z hR2 hZ
    have hs2 := hs.same e
    have hst2 := e _ _ hst
    obtain ⟨d, hd, hx⟩ := cell_get hok.nd hok.od (k := i) (r := r) (by omega) hr
    refine ⟨rfl, ?_⟩
    walk_at "go"
    refine ⟨A, S, i, r, d, _, by rw [Int.zero_add]; rfl, hs2, hd, hx, ?_⟩
    walk_at "go"
    exact hZ rfl _ (Same.refl _)
  · intro p ys H' hp hy e hq
    have hnil : (List.range l.n.toNat).filter (fun _ => false) = [] := by simp
    rw [hnil] at hq
    cases hq
    exact q p H' hp e hy

def sp_look_known (K : PySem.W.Frag) : Sp := fun vs H Q _ => ∃ (A : Ad) (S : ArrS) (x : V) (l : Lay) (r R : Nat), vs = [.ref A.st, x, .int r, .non] ∧ StateAt K H A S ∧ S.ce.ok R ∧ Rp K H x l.d ∧ l.ok ∧ r < R ∧ ∀ H', Same H H' → Q .non H'

theorem ok_look_known (T : Tx K mg) (g_bad_disks : GK P w K mg base "bad_disks" ["state", "layout", "row"] 4 (sp_bad_disks K) []) : GK P w K mg base "look_known" ["state", "layout", "row", "disk"] 5 (sp_look_known K) [.non] := gk_mk1 3 0 (by decide) T.f_look_known T.m_look_known (by decide +kernel) sc_look_known rfl (fun _ _ _ _ _ _ _ us its hl hi => match us, its, hl, hi with | [_, _, _], [_], _, _ => ⟨_, rfl, rfl⟩) (fun _ _ _ _ h => by obtain ⟨_, _, _, _, _, _, rfl, _⟩ := h; rfl) fun cdv A outer s H vs Q E hr h => by
  have nd := sc_look_known.nd
  refine ⟨_, (pss_cons (ps_set (i := 4) nd rfl (Or.inl rfl) (pe_gkK g_bad_disks hr (by decide) (pa_cons (pv 0) (pa_cons (pv 1) (pa_cons (pv 2) pa_nil)))))
  (pss_cons (ps_set (i := 5) nd rfl (Or.inl rfl) (pe_ifExp (PW.pt (pw_or (pt_cmpR op_isN (pv 3) pe_non (nomark _)) (pw_or1 pt_never))) (pv 4) pe_never))
  (pss_one (ps_if (pt_cmpR op_gt (pb_lenK K T.b_len (pa_cons (pv 5) pa_nil)) pe_int (nomark _)) pss_never pss_nil)))), ?_⟩
  obtain ⟨A, S, x, l, r, R, rfl, hs, hok, hx, hl, hr, q⟩ := h
  walk_at "go"
  refine ⟨A, S, x, l, r, R, rfl, hs, hok, hx, hl, hr, fun p H1 hp e1 hp1 => ?_⟩
  walk_at "go"
  exact q _ e1

def sp_partial_at (K : PySem.W.Frag) : Sp := fun vs H Q _ => ∃ (A : Ad) (S : ArrS) (b : Int) (R : Nat), vs = [.ref A.st, .int b] ∧ StateAt K H A S ∧ S.sb.ok ∧ S.ce.ok R ∧ 0 ≤ b ∧ b < 2 * R ∧ ∀ x H', Same H H' → Q (.int x) H'

theorem ok_partial_at (T : Tx K mg) (g_State_known : MK P w K mg base "State" "known" ["self", "layout", "row", "disk"] 4 (sp_State_known K)) (g_State_layout_of : MK P w K mg base "State" "layout_of" ["self", "block"] 2 (sp_State_layout_of K)) (g_look_known : GK P w K mg base "look_known" ["state", "layout", "row", "disk"] 5 (sp_look_known K) [.non]) (g_parity_disk : GK P w K mg base "parity_disk" ["layout", "row"] 1 (sp_parity_disk K) []) (g_place_of : GK P w K mg base "place_of" ["layout", "block"] 3 (sp_place_of K) []) : GK P w K mg base "partial_at" ["state", "block"] 6 (sp_partial_at K) [] := gk_mk T.f_partial_at T.m_partial_at (by decide +kernel) sc_partial_at (fun _ _ _ _ _ _ us hl => match us, hl with | [_, _], _ => rfl) (fun _ _ _ _ h => by obtain ⟨_, _, _, _, rfl, _⟩ := h; rfl) fun cdv A outer s H vs Q E hr h => by
  have nd := sc_partial_at.nd
  refine ⟨_, (pss_cons (ps_set (i := 2) nd rfl (Or.inl rfl) (pe_mkK g_State_layout_of hr (by decide) (pv 0) (pa_cons (pv 1) pa_nil)))
  (pss_cons (ps_asg (pe_gkK g_place_of hr (by decide) (pa_cons (pv 2) (pa_cons (pv 1) pa_nil))) (pg_tupK K 2 rfl (pgs_cons (pg_name (i := 3) nd rfl (Or.inl rfl)) (pgs_cons (pg_name (i := 4) nd rfl (Or.inl rfl)) pgs_nil))))
  (pss_cons (ps_expr (pe_gkK g_look_known hr (by decide) (pa_cons (pv 0) (pa_cons (pv 2) (pa_cons (pv 3) pa_nil)))))
  (pss_cons (ps_set (i := 5) nd rfl (Or.inl rfl) pe_int)
  (pss_cons (ps_wf (ps_for PassesOwn.never rfl (pi_range1 rfl T.b_range (pa_cons (pe_ix (ix_tupK K) (pv 2) pe_int (fun _ _ => rfl)) pa_nil)) (pg_name (i := 6) nd rfl (Or.inl rfl)) (pss_one (ps_if (pt_cmpR (op_notInI K) (pv 6) (pe_tup (pa_cons (pv 4) (pa_cons (pe_gkK g_parity_disk hr (by decide) (pa_cons (pv 2) (pa_cons (pv 3) pa_nil))) pa_nil))) (by rfl)) (pss_one (ps_aug (i := 5) nd rfl (Or.inl rfl) (pe_mkK g_State_known hr (by decide) (pv 0) (pa_cons (pv 2) (pa_cons (pv 3) (pa_cons (pv 6) pa_nil)))) ip_xor)) pss_nil))))
  (pss_one (ps_ret (pv 5)))))))), ?_⟩
  obtain ⟨A, S, b, R, rfl, hs, hsb, hok, h0, hR, q⟩ := h
  obtain ⟨v, hst, hv⟩ := hs.st
  walk_at "go"
  refine ⟨A, S, b, rfl, hs, fun w hw => ?_⟩
  have hlo := layAt_ok hsb b
  have hl1 := hlo.1
  have hl2 := hlo.2
  walk_at "go"
  refine ⟨w, _, b, rfl, hw, by omega, by omega, fun pv H1 e1 ⟨a, ea, ha⟩ => ?_⟩
  subst ea
  have hs1 := hs.same e1
  have hst1 := e1 _ _ hst
  have hw1 := hw.same e1
  obtain ⟨r0, r1⟩ := row_range hsb h0 hR
  walk_at "go"
  have hrn : (rowOf (layAt S.sb b) b) = ((rowOf (layAt S.sb b) b).toNat : Int) := by omega
  refine ⟨A, S, w, layAt S.sb b, (rowOf (layAt S.sb b) b).toNat, R, ?_, hs1, hok, hw1, hlo, by omega, fun H2 e2 => ?_⟩
  · rw [← hrn]; rfl
  have hs2 := hs1.same e2
  have hst2 := e2 _ _ hst1
  have hw2 := hw1.same e2
  obtain ⟨aw, rfl, haw⟩ := lay_open hw2
  walk_at "go"
  refine forG (n := (layAt S.sb b).n.toNat) (fun i σ H' => ∃ s6 y, σ = [some (.ref A.st), some (.int b), some (.ref aw), some (.int (rowOf (layAt S.sb b) b)), some (.int (dskOf (layAt S.sb b) b)), some (.int y), s6] ∧ Same H2 H') ⟨none, 0, rfl, Same.refl _⟩ (fun i σ H' hi _ => by show i < _; exact hi) (fun σ H' _ => by show _ ≤ _; exact Nat.le_refl _) ?_ ?_
  · rintro i σ H' x H3 hi ⟨s6, y, rfl, e3⟩ ⟨rfl, rfl⟩
    have hs3 := hs2.same e3
    have hst3 := e3 _ _ hst2
    have hw3 := hw2.same e3
    walk_at "go"
    refine ⟨_, layAt S.sb b, _, rfl, hw3, by omega, ?_⟩
    walk_at "go"
    intro tp htp
    walk_at "go"
    refine ⟨[dskOf (layAt S.sb b) b, par (layAt S.sb b) (rowOf (layAt S.sb b) b)], .inr (SqT.new htp), fun bb hbb => ⟨_, rfl, ?_⟩⟩
    have e4 : Same H2 (upd H3 tp (.tup [.int (dskOf (layAt S.sb b) b), .int (par (layAt S.sb b) (rowOf (layAt S.sb b) b))])) := e3.trans (same_new htp)
    have hs4 := hs2.same e4
    have hst4 := e4 _ _ hst2
    cases bb with
    | false =>
      walk_at "go"
      first | exact e4 | exact ⟨_, _, rfl, e4⟩
    | true =>
      obtain ⟨d, hd, hx⟩ := cell_get hok.nd hok.od (k := i) (r := (rowOf (layAt S.sb b) b).toNat) (by omega) (by omega)
      walk_at "go"
      refine ⟨.ref aw, A, S, i, (rowOf (layAt S.sb b) b).toNat, d, _, ?_, hs4, hd, hx, ?_⟩
      · rw [← hrn, Int.zero_add]; rfl
      walk_at "go"
      first | exact e4 | exact ⟨_, _, rfl, e4⟩
  · rintro σ H' ⟨s6, y, rfl, e3⟩
    walk_at "go"
    exact q _ _ (e1.trans (e2.trans e3))

def sp_put_data (K : PySem.W.Frag) : Sp := fun vs H Q _ => ∃ (A : Ad) (S : ArrS) (b x : Int) (R : Nat), vs = [.ref A.st, .int b, .int x] ∧ StateAt K H A S ∧ S.sb.ok ∧ S.ce.ok R ∧ 0 ≤ b ∧ b < 2 * R ∧ S.ce.done.length ≤ 9000 ∧
  ∀ H', Mv K A.G H H' → CellsAt K H' A (S.ce.put (.data (dskOf (layAt S.sb b) b).toNat (rowOf (layAt S.sb b) b).toNat x)) → Q (.int 1) H'

theorem ok_put_data (T : Tx K mg) (g_Cells_put : MK P w K mg base "Cells" "put" ["self", "disk", "place", "contents"] 3 (sp_Cells_put K)) (g_State_is_open : MK P w K mg base "State" "is_open" ["self", "disk", "row"] 2 (sp_State_is_open K)) (g_State_layout_of : MK P w K mg base "State" "layout_of" ["self", "block"] 2 (sp_State_layout_of K)) (g_place_of : GK P w K mg base "place_of" ["layout", "block"] 3 (sp_place_of K) []) : GK P w K mg base "put_data" ["state", "block", "value"] 4 (sp_put_data K) [] := gk_mk T.f_put_data T.m_put_data (by decide +kernel) sc_put_data (fun _ _ _ _ _ _ us hl => match us, hl with | [_, _, _], _ => rfl) (fun _ _ _ _ h => by obtain ⟨_, _, _, _, _, rfl, _⟩ := h; rfl) fun cdv A outer s H vs Q E hr h => by
  have nd := sc_put_data.nd
  refine ⟨_, (pss_cons (ps_asg (pe_gkK g_place_of hr (by decide) (pa_cons (pe_mkK g_State_layout_of hr (by decide) (pv 0) (pa_cons (pv 1) pa_nil)) (pa_cons (pv 1) pa_nil))) (pg_tupK K 2 rfl (pgs_cons (pg_name (i := 3) nd rfl (Or.inl rfl)) (pgs_cons (pg_name (i := 4) nd rfl (Or.inl rfl)) pgs_nil))))
  (pss_cons (ps_if (pt_not (pt_val (pe_mkK g_State_is_open hr (by decide) (pv 0) (pa_cons (pv 4) (pa_cons (pv 3) pa_nil))))) (pss_one (ps_ret pe_int)) pss_nil)
  (pss_cons (ps_expr (pe_mkK g_Cells_put hr (by decide) (pe_fldK K (pv 0)) (pa_cons (pv 4) (pa_cons (pv 3) (pa_cons (pv 2) pa_nil)))))
  (pss_one (ps_ret pe_int))))), ?_⟩
  obtain ⟨A, S, b, x, R, rfl, hs, hsb, hok, h0, hR, hdl, q⟩ := h
  obtain ⟨v, hst, hv⟩ := hs.st
  have hcs := hs.ce.cs
  walk_at "go"
  refine ⟨A, S, b, rfl, hs, fun w hw => ?_⟩
  have hlo := layAt_ok hsb b
  have hl1 := hlo.1
  have hl2 := hlo.2
  walk_at "go"
  refine ⟨w, _, b, rfl, hw, by omega, by omega, fun pv H1 e1 ⟨a, ea, ha⟩ => ?_⟩
  subst ea
  have hs1 := hs.same e1
  have hst1 := e1 _ _ hst
  have hcs1 := e1 _ _ hcs
  obtain ⟨r0, r1⟩ := row_range hsb h0 hR
  obtain ⟨k0, k1⟩ := dsk_range hlo b
  walk_at "go"
  refine ⟨A, S, _, _, rfl, hs1, k0, by omega, ?_⟩
  walk_at "go"
  refine ⟨A, _, .data (dskOf (layAt S.sb b) b).toNat (rowOf (layAt S.sb b) b).toNat x, R, (dskOf (layAt S.sb b) b).toNat, .int (rowOf (layAt S.sb b) b), .int x, ?_, hs1.ce, hok, ⟨rfl, by rw [Int.toNat_of_nonneg r0], rfl⟩, ⟨by omega, by omega⟩, by omega, fun H2 m2 hc2 => ?_⟩
  · rw [Int.toNat_of_nonneg k0]; rfl
  walk_at "go"
  exact q _ ((Mv.of_same e1).trans m2) hc2


end
end WS
set_option Elab.async false
set_option linter.all false
set_option maxRecDepth 100000
set_option maxHeartbeats 4000000
namespace WS
open PySem PySem.Spec PyProof.Rows L2
local macro_rules | `(tactic| walk_at "tdg") => `(tactic| first | (apply tdg0; walk_at "at") | (apply tdg1; walk_at "at") | (apply tdg2; walk_at "at") | (apply tdg3; walk_at "at") | (apply tdg4; walk_at "at") | (apply tdg5; walk_at "at") | (apply tdg6; walk_at "at") | (apply tdg7; walk_at "at") | (apply tdg8; walk_at "at"))
local macro_rules | `(tactic| walk_at "no") => `(tactic| first | assumption | (apply no_by; assumption; walk_at "sm"))
local macro_rules | `(tactic| walk_at "sm") => `(tactic| first | exact Same.refl _ | assumption | (apply same_up; walk_at "no"; walk_at "sm") | (apply same_by; assumption; walk_at "sm"))
local macro_rules | `(tactic| walk_at "tk") => `(tactic| first | exact TK.refl | assumption | (apply tk_up; walk_at "no"; walk_at "tk") | (apply tk_by; assumption; walk_at "tk") | (apply tk_mv; assumption; walk_at "tk"))
local macro_rules | `(tactic| walk_at "mv") => `(tactic| first | exact Mv.refl | assumption | (apply mv_up; walk_at "no"; walk_at "mv") | (apply mv_mv; assumption; walk_at "mv") | (apply mv_by; assumption; walk_at "mv"))
local macro_rules | `(tactic| walk_at "ne") => `(tactic| first | assumption | (refine Ne.symm ?_; assumption))
local macro_rules | `(tactic| walk_at "at") => `(tactic| first | assumption | exact upd_same | (apply at_new; walk_at "no"; walk_at "at") | (apply at_ne; walk_at "ne"; walk_at "at") | (apply at_same; assumption; walk_at "at") | (apply at_mv; assumption; assumption; walk_at "at"))
local macro_rules | `(tactic| walk_at "rp") => `(tactic| first | assumption | exact Rp.non | exact Rp.int _ | exact Rp.str _ | (apply rp_tk; assumption; walk_at "tk"))
local macro_rules | `(tactic| walk_at "sq") => `(tactic| first | assumption | exact (‹Tx _ _›).t_METAS _ | exact (‹Tx _ _›).t_FIELDS _ | exact (‹Tx _ _›).t_LEFT _ | exact (‹Tx _ _›).t_SYMMETRIC _ | (apply SqT.of; walk_at "at") | (apply SqL.of; walk_at "at") | (apply sqt_tk; assumption; walk_at "tk") | (apply sql_sm; assumption; walk_at "sm"))
local macro_rules | `(tactic| walk_at "sd") => `(tactic| first | rfl | omega | assumption | decide)
local macro_rules | `(tactic| walk_at "fld") => `(tactic| first | refine ⟨_, _, _, _, _, rfl, (by walk_at "at" : _ = some _), (‹Tx _ _›).c_Cells, (‹Tx _ _›).n_Cells_disks, rfl, ?_⟩ | refine ⟨_, _, _, _, _, rfl, (by walk_at "at" : _ = some _), (‹Tx _ _›).c_Cells, (‹Tx _ _›).n_Cells_done, rfl, ?_⟩ | refine ⟨_, _, _, _, _, rfl, (by walk_at "at" : _ = some _), (‹Tx _ _›).c_Cells, (‹Tx _ _›).n_Cells_begun, rfl, ?_⟩ | refine ⟨_, _, _, _, _, rfl, (by walk_at "at" : _ = some _), (‹Tx _ _›).c_Cells, (‹Tx _ _›).n_Cells_is_loose, rfl, ?_⟩ | refine ⟨_, _, _, _, _, rfl, (by walk_at "at" : _ = some _), (‹Tx _ _›).c_State, (‹Tx _ _›).n_State_cells, rfl, ?_⟩ | refine ⟨_, _, _, _, _, rfl, (by walk_at "at" : _ = some _), (‹Tx _ _›).c_State, (‹Tx _ _›).n_State_own_superblock, rfl, ?_⟩ | refine ⟨_, _, _, _, _, rfl, (by walk_at "at" : _ = some _), (‹Tx _ _›).c_Array, (‹Tx _ _›).n_Array_state, rfl, ?_⟩)
local macro_rules | `(tactic| walk_at "w") => `(tactic| first | refine ⟨_, rfl, ⟨_, (by walk_at "sq" : SqT _ _ _ _)⟩, ?_⟩ | refine ⟨_, rfl, ⟨_, (by walk_at "sq" : SqL _ _ _ _)⟩, ?_⟩ | refine ⟨_, rfl, ?_⟩ | refine ⟨_, _, rfl, rfl, ?_⟩ | refine ⟨rfl, ?_⟩ | refine ⟨_, _, rfl, (by walk_at "sq" : SqT _ _ _ _), rfl, ?_⟩ | refine ⟨_, _, rfl, (by walk_at "sq" : SqT _ _ _ _), ?_⟩ | refine ⟨_, _, rfl, (by walk_at "sq" : SqL _ _ _ _), ?_⟩ | refine ⟨_, _, rfl, (by walk_at "tdg" : DGet _ _ _ _), ?_⟩ | refine ⟨_, _, rfl, ?_⟩ | refine ⟨_, _, _, _, rfl, rfl, (by walk_at "sq" : SqT _ _ _ _), rfl, ?_⟩ | refine ⟨_, _, rfl, .inl (by walk_at "sq" : SqL _ _ _ _), rfl, rfl, ?_⟩ | refine ⟨_, _, rfl, .inr (by walk_at "sq" : SqT _ _ _ _), rfl, rfl, ?_⟩ | refine ⟨_, _, rfl, .inl (by walk_at "sq" : SqL _ _ _ _), ?_⟩ | refine ⟨_, _, rfl, .inr (by walk_at "sq" : SqT _ _ _ _), ?_⟩ | refine ⟨_, _, rfl, (by walk_at "at" : _ = some (HO.dK _)), ?_⟩ | refine ⟨_, _, _, _, rfl, rfl, (by walk_at "sq" : SqL _ _ _ _), rfl, ?_⟩ | refine ⟨_, _, _, rfl, (by walk_at "at" : _ = some _), rfl, ?_⟩ | refine ⟨_, _, _, rfl, ?_⟩ | walk_at "fld" | refine ty_d (by walk_at "at") ?_ | refine ty_l (by walk_at "sq") ?_ | refine ty_t (‹Tx _ _›).z_FIELDS ?_ | refine And.intro (by first | omega | decide | exact Nat.le_of_ble_eq_true rfl | (unfold CDiv; omega) | (unfold CMul; omega)) ?_)
local macro_rules | `(tactic| walk_at "go") => `(tactic| repeat walk_at "w")
section
variable {P : Program} {w : World} {K : PySem.W.Frag} {mg : Str → Option Value} {base : Heap}

def wK (s : SB) (b : Int) : Nat := (dskOf (layAt s b) b).toNat
def wR (s : SB) (b : Int) : Nat := (rowOf (layAt s b) b).toNat
def wP (s : SB) (b : Int) : Nat := (par (layAt s b) (rowOf (layAt s b) b)).toNat
def pwp (c : CeS) (s : SB) (b x y : Int) (lc : PyData) : CeS := ((((c.put (.meta_ (wP s b) .lg lc)).flush).put (.data (wK s b) (wR s b) x)).put (.data (wP s b) (wR s b) y)).flush
theorem wP_range {s : SB} (h : s.ok) (b : Int) : 0 ≤ par (layAt s b) (rowOf (layAt s b) b) ∧ par (layAt s b) (rowOf (layAt s b) b) < 6 ∧ wP s b < 6 := by
  have h1 := (layAt_ok h b).1
  have h2 := (layAt_ok h b).2
  obtain ⟨h3, h4⟩ := par_range (l := layAt s b) (by omega) (rowOf (layAt s b) b)
  unfold wP
  omega
theorem fits_log {a b c d : Int} : fits 3 (.tuple [.int a, .int b, .int c, .int d]) := (fits_tup (n := 1) (by simp) fun x hx => by
  simp only [List.mem_cons, List.not_mem_nil, or_false] at hx
  rcases hx with z | z | z | z <;> subst z <;> trivial).le (by decide)
def sp_put_with_parity (K : PySem.W.Frag) : Sp := fun vs H Q _ => ∃ (A : Ad) (S : ArrS) (b x rest : Int) (R : Nat), vs = [.ref A.st, .int b, .int x, .int rest] ∧ StateAt K H A S ∧ S.sb.ok ∧ S.ce.ok R ∧ 0 ≤ b ∧ b < 2 * R ∧ S.ce.done.length ≤ 8000 ∧
  ∀ (y : Int) (lc : PyData) (H' : Hp), fits 3 lc → Mv K A.G H H' → CellsAt K H' A (pwp S.ce S.sb b x y lc) → Q (.int 3) H'

theorem ok_put_with_parity (T : Tx K mg) (g_Cells_flush : MK P w K mg base "Cells" "flush" ["self"] 1 (sp_Cells_flush K)) (g_Cells_put : MK P w K mg base "Cells" "put" ["self", "disk", "place", "contents"] 3 (sp_Cells_put K)) (g_State_field : MK P w K mg base "State" "field" ["self", "name"] 1 (sp_State_field K)) (g_State_layout_of : MK P w K mg base "State" "layout_of" ["self", "block"] 2 (sp_State_layout_of K)) (g_parity_disk : GK P w K mg base "parity_disk" ["layout", "row"] 1 (sp_parity_disk K) []) (g_place_of : GK P w K mg base "place_of" ["layout", "block"] 3 (sp_place_of K) []) (g_put_data : GK P w K mg base "put_data" ["state", "block", "value"] 4 (sp_put_data K) []) : GK P w K mg base "put_with_parity" ["state", "block", "value", "rest"] 5 (sp_put_with_parity K) [] := gk_mk T.f_put_with_parity T.m_put_with_parity (by decide +kernel) sc_put_with_parity (fun _ _ _ _ _ _ us hl => match us, hl with | [_, _, _, _], _ => rfl) (fun _ _ _ _ h => by obtain ⟨_, _, _, _, _, _, rfl, _⟩ := h; rfl) fun cdv A outer s H vs Q E hr h => by
  have nd := sc_put_with_parity.nd
  refine ⟨_, (pss_cons (ps_set (i := 4) nd rfl (Or.inl rfl) (pe_mkK g_State_layout_of hr (by decide) (pv 0) (pa_cons (pv 1) pa_nil)))
  (pss_cons (ps_asg (pe_gkK g_place_of hr (by decide) (pa_cons (pv 4) (pa_cons (pv 1) pa_nil))) (pg_tupK K 2 rfl (pgs_cons (pg_name (i := 5) nd rfl (Or.inl rfl)) (pgs_cons (pg_name (i := 6) nd rfl (Or.inl rfl)) pgs_nil))))
  (pss_cons (ps_set (i := 7) nd rfl (Or.inl rfl) (pe_gkK g_parity_disk hr (by decide) (pa_cons (pv 4) (pa_cons (pv 5) pa_nil))))
  (pss_cons (ps_expr (pe_mkK g_Cells_put hr (by decide) (pe_fldK K (pv 0)) (pa_cons (pv 7) (pa_cons pe_str (pa_cons (pe_tup (pa_cons (pe_mkK g_State_field hr (by decide) (pv 0) (pa_cons pe_str pa_nil)) (pa_cons (pv 5) (pa_cons (pv 6) (pa_cons (pv 3) pa_nil))))) pa_nil)))))
  (pss_cons (ps_expr (pe_mk0K g_Cells_flush hr (by decide) (pe_fldK K (pv 0))))
  (pss_cons (ps_set (i := 8) nd rfl (Or.inl rfl) (pe_gkK g_put_data hr (by decide) (pa_cons (pv 0) (pa_cons (pv 1) (pa_cons (pv 2) pa_nil)))))
  (pss_cons (ps_expr (pe_mkK g_Cells_put hr (by decide) (pe_fldK K (pv 0)) (pa_cons (pv 7) (pa_cons (pv 5) (pa_cons (pe_op op_xor (pv 3) (pv 2)) pa_nil)))))
  (pss_cons (ps_expr (pe_mk0K g_Cells_flush hr (by decide) (pe_fldK K (pv 0))))
  (pss_one (ps_ret (pe_op op_add (pv 8) pe_int))))))))))), ?_⟩
  obtain ⟨A, S, b, x, rest, R, rfl, hs, hsb, hok, h0, hR, hdl, q⟩ := h
  obtain ⟨v, hst, hv⟩ := hs.st
  have hlo := layAt_ok hsb b
  have hl1 := hlo.1
  have hl2 := hlo.2
  obtain ⟨p0, p1, p2⟩ := wP_range hsb b
  obtain ⟨r0, r1⟩ := row_range hsb h0 hR
  have hpP : par (layAt S.sb b) (rowOf (layAt S.sb b) b) = (wP S.sb b : Nat) := by unfold wP; omega
  have hrR : rowOf (layAt S.sb b) b = (wR S.sb b : Nat) := by unfold wR; omega
  walk_at "go"
  refine ⟨A, S, b, rfl, hs, fun w hw => ?_⟩
  walk_at "go"
  refine ⟨w, _, b, rfl, hw, by omega, by omega, fun pv H1 e1 ⟨a, ea, ha⟩ => ?_⟩
  subst ea
  have hs1 := hs.same e1
  have hst1 := e1 _ _ hst
  have hcs1 := hs1.ce.cs
  walk_at "go"
  refine ⟨w, _, _, rfl, hw.same e1, by omega, ?_⟩
  walk_at "go"
  refine ⟨A, S, 0, _, rfl, hs1, rfl, fun w0 hw0 => ?_⟩
  obtain rfl : w0 = .int S.sb.num := hw0.int_eq
  walk_at "go"
  intro tp htp
  have e2 : Same H (upd H1 tp (.tup [.int S.sb.num, .int (rowOf (layAt S.sb b) b), .int (dskOf (layAt S.sb b) b), .int rest])) := e1.trans (same_new htp)
  have hs2 := hs.same e2
  have hst2 := e2 _ _ hst
  have hcs2 := hs2.ce.cs
  walk_at "go"
  refine ⟨A, _, .meta_ (wP S.sb b) .lg (.tuple [.int S.sb.num, .int (rowOf (layAt S.sb b) b), .int (dskOf (layAt S.sb b) b), .int rest]), R, wP S.sb b, .str Mt.lg.s, .ref tp, by rw [hpP]; rfl, hs2.ce, hok, ⟨rfl, rfl, .tup (SqT.new htp) (.cons (.int _) (.cons (.int _) (.cons (.int _) (.cons (.int _) .nil))))⟩, ⟨p2, fits_log⟩, by omega, fun H3 m3 hc3 => ?_⟩
  have ok3 : (S.ce.put (.meta_ (wP S.sb b) .lg (.tuple [.int S.sb.num, .int (rowOf (layAt S.sb b) b), .int (dskOf (layAt S.sb b) b), .int rest]))).ok R := hok.ok_put ⟨p2, fits_log⟩
  have l3 : (S.ce.put (.meta_ (wP S.sb b) .lg (.tuple [.int S.sb.num, .int (rowOf (layAt S.sb b) b), .int (dskOf (layAt S.sb b) b), .int rest]))).done.length = S.ce.done.length + 1 := by simp [CeS.put]
  have hs3 := hs2.setCe m3 hc3
  obtain ⟨v3, hst3, _⟩ := hs3.st
  have hcs3 := hc3.cs
  walk_at "go"
  refine ⟨A, _, rfl, hc3, by omega, fun H4 m4 hc4 => ?_⟩
  have hs4 := hs3.setCe m4 hc4
  obtain ⟨v4, hst4, _⟩ := hs4.st
  have l4 := CeS.flush_len (S.ce.put (.meta_ (wP S.sb b) .lg (.tuple [.int S.sb.num, .int (rowOf (layAt S.sb b) b), .int (dskOf (layAt S.sb b) b), .int rest])))
  have ok4 := ok3.ok_flush
  generalize hC4 : (S.ce.put (.meta_ (wP S.sb b) .lg (.tuple [.int S.sb.num, .int (rowOf (layAt S.sb b) b), .int (dskOf (layAt S.sb b) b), .int rest]))).flush = C4 at hs4 l4 ok4 hc4
  walk_at "go"
  refine ⟨A, ⟨S.sb, C4⟩, b, x, R, rfl, hs4, hsb, ok4, h0, hR, by show C4.done.length ≤ _; omega, fun H5 m5 hc5 => ?_⟩
  have hs5 := hs4.setCe m5 hc5
  obtain ⟨v5, hst5, _⟩ := hs5.st
  have hcs5 := hc5.cs
  have d0 : En.ok R (.data (wK S.sb b) (wR S.sb b) x) := by
    obtain ⟨k0, k1⟩ := dsk_range hlo b
    exact ⟨by unfold wK; omega, by unfold wR; omega⟩
  have ok5 : (C4.put (.data (wK S.sb b) (wR S.sb b) x)).ok R := ok4.ok_put d0
  have l5 : (C4.put (.data (wK S.sb b) (wR S.sb b) x)).done.length = C4.done.length + 1 := by simp [CeS.put]
  walk_at "go"
  refine ⟨A, _, .data (wP S.sb b) (wR S.sb b) (Builtin.bitXor rest x), R, wP S.sb b, .int (wR S.sb b : Nat), .int (Builtin.bitXor rest x), by rw [hpP, ← hrR]; rfl, hc5, ok5, ⟨rfl, rfl, rfl⟩, ⟨p2, by unfold wR; omega⟩, ?_, fun H6 m6 hc6 => ?_⟩
  · show (C4.put (.data (wK S.sb b) (wR S.sb b) x)).done.length < _
    omega
  have hs6 := hs5.setCe m6 hc6
  obtain ⟨v6, hst6, _⟩ := hs6.st
  have hcs6 := hc6.cs
  walk_at "go"
  refine ⟨A, _, rfl, hc6, ?_, fun H7 m7 hc7 => ?_⟩
  · have : ((C4.put (.data (wK S.sb b) (wR S.sb b) x)).put (.data (wP S.sb b) (wR S.sb b) (Builtin.bitXor rest x))).done.length = C4.done.length + 2 := by simp [CeS.put]
    show ((C4.put (.data (wK S.sb b) (wR S.sb b) x)).put (.data (wP S.sb b) (wR S.sb b) (Builtin.bitXor rest x))).done.length < _
    omega
  walk_at "go"
  refine q (Builtin.bitXor rest x) (.tuple [.int S.sb.num, .int (rowOf (layAt S.sb b) b), .int (dskOf (layAt S.sb b) b), .int rest]) _ fits_log ((Mv.of_same e2).trans (m3.trans (m4.trans (m5.trans (m6.trans m7))))) ?_
  unfold pwp
  rw [hC4]
  exact hc7

def writeCe (c : CeS) (s : SB) (b x y : Int) (lc : PyData) : CeS := (pwp (c.note (.bg b x)) s b x y lc).note (.dn b)
def sp_write (K : PySem.W.Frag) : Sp := fun vs H Q _ => ∃ (A : Ad) (S : ArrS) (b x : Int) (R : Nat), vs = [.ref A.arr, .int b, .int x] ∧ ArrAt K H A S ∧ S.sb.ok ∧ S.ce.ok R ∧ 0 ≤ b ∧ b < S.sb.blocks ∧ S.sb.blocks ≤ 2 * R ∧ S.ce.done.length ≤ 7000 ∧
  ∀ (y : Int) (lc : PyData) (H' : Hp) (n : Int), fits 3 lc → Mv K A.F H H' → ArrAt K H' A ⟨S.sb, writeCe S.ce S.sb b x y lc⟩ → Q (.int n) H'

theorem ok_write (T : Tx K mg) (g_Cells_note : MK P w K mg base "Cells" "note" ["self", "entry"] 2 (sp_Cells_note K)) (g_State_is_open : MK P w K mg base "State" "is_open" ["self", "disk", "row"] 2 (sp_State_is_open K)) (g_State_layout_of : MK P w K mg base "State" "layout_of" ["self", "block"] 2 (sp_State_layout_of K)) (g_look_for : GK P w K mg base "look_for" ["array", "block"] 2 (sp_look_for K) []) (g_parity_disk : GK P w K mg base "parity_disk" ["layout", "row"] 1 (sp_parity_disk K) []) (g_partial_at : GK P w K mg base "partial_at" ["state", "block"] 6 (sp_partial_at K) []) (g_place_of : GK P w K mg base "place_of" ["layout", "block"] 3 (sp_place_of K) []) (g_put_with_parity : GK P w K mg base "put_with_parity" ["state", "block", "value", "rest"] 5 (sp_put_with_parity K) []) : GK P w K mg base "write" ["array", "block", "value"] 7 (sp_write K) [] := gk_mk T.f_write T.m_write (by decide +kernel) sc_write (fun _ _ _ _ _ _ us hl => match us, hl with | [_, _, _], _ => rfl) (fun _ _ _ _ h => by obtain ⟨_, _, _, _, _, rfl, _⟩ := h; rfl) fun cdv A outer s H vs Q E hr h => by
  have nd := sc_write.nd
  refine ⟨_, (pss_cons (ps_expr (pe_gkK g_look_for hr (by decide) (pa_cons (pv 0) (pa_cons (pv 1) pa_nil))))
  (pss_cons (ps_set (i := 3) nd rfl (Or.inl rfl) (pe_fldK K (pv 0)))
  (pss_cons (ps_par (i := 4) (j := 5) (by rfl) nd rfl rfl (by decide) rfl rfl (pa_cons (pe_mkK g_State_layout_of hr (by decide) (pv 3) (pa_cons (pv 1) pa_nil)) (pa_cons (pe_gkK g_partial_at hr (by decide) (pa_cons (pv 3) (pa_cons (pv 1) pa_nil))) pa_nil)) (by rfl))
  (pss_cons (ps_set (i := 6) nd rfl (Or.inl rfl) (pe_ix (ix_tupK K) (pe_gkK g_place_of hr (by decide) (pa_cons (pv 4) (pa_cons (pv 1) pa_nil))) pe_int (fun _ _ => rfl)))
  (pss_cons (ps_expr (pe_mkK g_Cells_note hr (by decide) (pe_fldK K (pv 3)) (pa_cons (pe_tup (pa_cons pe_str (pa_cons (pv 1) (pa_cons (pv 2) pa_nil)))) pa_nil)))
  (pss_cons (ps_if (pt_val (pe_mkK g_State_is_open hr (by decide) (pv 3) (pa_cons (pe_gkK g_parity_disk hr (by decide) (pa_cons (pv 4) (pa_cons (pv 6) pa_nil))) (pa_cons (pv 6) pa_nil)))) (pss_one (ps_set (i := 7) nd rfl (Or.inl rfl) (pe_gkK g_put_with_parity hr (by decide) (pa_cons (pv 3) (pa_cons (pv 1) (pa_cons (pv 2) (pa_cons (pv 5) pa_nil))))))) pss_never)
  (pss_cons (ps_expr (pe_mkK g_Cells_note hr (by decide) (pe_fldK K (pv 3)) (pa_cons (pe_tup (pa_cons pe_str (pa_cons (pv 1) pa_nil))) pa_nil)))
  (pss_one (ps_ret (pv 7)))))))))), ?_⟩
  obtain ⟨A, S, b, x, R, rfl, har, hsb, hok, h0, hb, hbR, hdl, q⟩ := h
  have hs := har.sa
  have hH := har.arr
  obtain ⟨v, hst, hv⟩ := hs.st
  have hlo := layAt_ok hsb b
  have hl1 := hlo.1
  have hl2 := hlo.2
  obtain ⟨p0, p1, p2⟩ := wP_range hsb b
  obtain ⟨r0, r1⟩ := row_range hsb h0 (show b < 2 * R by omega)
  walk_at "go"
  refine ⟨A, S, b, rfl, har, h0, hb, ?_⟩
  walk_at "go"
  refine ⟨A, S, b, rfl, hs, fun w hw => ?_⟩
  walk_at "go"
  refine ⟨A, S, b, R, rfl, hs, hsb, hok, h0, by omega, fun rest H1 e1 => ?_⟩
  have hs1 := hs.same e1
  have hst1 := e1 _ _ hst
  walk_at "go"
  refine ⟨w, _, b, rfl, hw.same e1, by omega, by omega, fun pv H2 e2 ⟨a, ea, ha⟩ => ?_⟩
  subst ea
  have hs2 := hs1.same e2
  have hst2 := e2 _ _ hst1
  have hcs2 := hs2.ce.cs
  walk_at "go"
  intro tp htp
  have e3 : Same H (upd H2 tp (.tup [.str "begin", .int b, .int x])) := (e1.trans e2).trans (same_new htp)
  have hs3 := hs.same e3
  have hst3 := e3 _ _ hst
  have hcs3 := hs3.ce.cs
  walk_at "go"
  refine ⟨A, _, .bg b x, R, _, rfl, hs3.ce, hok, .tup (SqT.new htp) (.cons (.str _) (.cons (.int _) (.cons (.int _) .nil))), trivial, by omega, fun H4 m4 hc4 => ?_⟩
  have hs4 := hs3.setCe m4 hc4
  obtain ⟨v4, hst4, _⟩ := hs4.st
  have ok4 : (S.ce.note (.bg b x)).ok R := hok.ok_note trivial
  have l4 : (S.ce.note (.bg b x)).done.length = S.ce.done.length + 1 := by simp [CeS.note]
  have hw4 := (hw.same e3).tk m4.t
  walk_at "go"
  refine ⟨w, _, _, rfl, hw4, by omega, ?_⟩
  walk_at "go"
  refine ⟨A, _, _, _, rfl, hs4, p0, p1, ?_⟩
  walk_at "go"
  refine ⟨A, ⟨S.sb, S.ce.note (.bg b x)⟩, b, x, rest, R, rfl, hs4, hsb, ok4, h0, by omega, by show (S.ce.note (.bg b x)).done.length ≤ _; omega, fun y lc H5 hlc m5 hc5 => ?_⟩
  have hs5 := hs4.setCe m5 hc5
  obtain ⟨v5, hst5, _⟩ := hs5.st
  have hcs5 := hc5.cs
  walk_at "go"
  intro tp2 htp2
  have hs6 := hs5.same (same_new (o := .tup [.str "done", .int b]) htp2)
  obtain ⟨v6, hst6, _⟩ := hs6.st
  have hcs6 := hs6.ce.cs
  have d0 : En.ok R (.data (wK S.sb b) (wR S.sb b) x) := by
    obtain ⟨k0, k1⟩ := dsk_range hlo b
    exact ⟨by unfold wK; omega, by unfold wR; omega⟩
  have d1 : En.ok R (.data (wP S.sb b) (wR S.sb b) y) := ⟨p2, by unfold wR; omega⟩
  have a0 : En.ok R (.meta_ (wP S.sb b) .lg lc) := ⟨p2, hlc⟩
  have ok5 : (pwp (S.ce.note (.bg b x)) S.sb b x y lc).ok R := ((((ok4.ok_put a0).ok_flush).ok_put d0).ok_put d1).ok_flush
  have l5 : (pwp (S.ce.note (.bg b x)) S.sb b x y lc).done.length ≤ S.ce.done.length + 6 := by
    unfold pwp
    have h1 := CeS.flush_len ((((S.ce.note (.bg b x)).put (.meta_ (wP S.sb b) .lg lc)).flush.put (.data (wK S.sb b) (wR S.sb b) x)).put (.data (wP S.sb b) (wR S.sb b) y))
    have h2 := CeS.flush_len ((S.ce.note (.bg b x)).put (.meta_ (wP S.sb b) .lg lc))
    simp only [CeS.put, List.length_append, List.length_singleton] at h1 h2 ⊢
    omega
  walk_at "go"
  refine ⟨A, _, .dn b, R, _, rfl, hs6.ce, ok5, .tup (SqT.new htp2) (.cons (.str _) (.cons (.int _) .nil)), trivial, by show (pwp (S.ce.note (.bg b x)) S.sb b x y lc).done.length < _; omega, fun H7 m7 hc7 => ?_⟩
  walk_at "go"
  have mm : Mv K A.G H H7 := (Mv.of_same e3).trans (m4.trans (m5.trans ((Mv.of_same (same_new htp2)).trans m7)))
  exact q y lc H7 _ hlc (mm.sub F_of_G) (har.setSa (mm.sub F_of_G) (hs.setCe mm hc7))


end
end WS
set_option Elab.async false
set_option linter.all false
set_option maxRecDepth 100000
set_option maxHeartbeats 4000000
/-! superblocks can be compared -/
namespace WS
open PySem PySem.Spec PyProof.Rows L2
theorem cl_lay (l : Lay) : PyData.canLay0 l.d = true := by
  rcases l with ⟨n, r⟩
  cases r <;> simp only [Lay.d, Rule.s, PyData.canLay0, PyData.canLayAll0] <;> decide +kernel
theorem dp_lay (l : Lay) : PyData.depth l.d ≤ 2 := by simp [Lay.d, PyData.depth, PyData.depthAll]
theorem cl_tgt (s : SB) : PyData.canLay0 s.tgt = true := by
  unfold SB.tgt
  split
  · simp only [PyData.canLay0]
  · exact cl_lay _
theorem dp_tgt (s : SB) : PyData.depth s.tgt ≤ 2 := by
  unfold SB.tgt
  split
  · simp [PyData.depth]
  · exact dp_lay _
theorem cl_way (s : SB) : PyData.canLay0 s.way = true := by
  unfold SB.way
  split
  · simp only [PyData.canLay0]
  · rename_i up _
    cases up <;> simp only [wayS, PyData.canLay0] <;> decide +kernel
theorem dp_way (s : SB) : PyData.depth s.way ≤ 1 := by
  unfold SB.way
  split <;> simp [PyData.depth]
theorem cl_opt (o : Option Int) : PyData.canLay0 (optI o) = true := by cases o <;> simp only [optI, PyData.canLay0]
theorem dp_opt (o : Option Int) : PyData.depth (optI o) ≤ 1 := by cases o <;> simp [optI, PyData.depth]
theorem shaped_of {d : PyData} (h1 : PyData.canLay0 d = true) (h2 : PyData.depth d ≤ 64) : SeqAt.shaped d = true := by
  unfold SeqAt.shaped
  rw [h1, decide_eq_true h2]
  rfl
theorem cl_sb (s : SB) : PyData.canLay0 s.d = true := by
  simp only [SB.d, SB.l, PyData.canLay0, PyData.canLayAll0, cl_lay, cl_tgt, cl_way, cl_opt, Bool.and_self]
theorem dp_sb (s : SB) : PyData.depth s.d ≤ 3 := by
  have h1 := dp_lay s.lay
  have h2 := dp_tgt s
  have h3 := dp_way s
  have h4 := dp_opt s.aside
  simp only [SB.d, SB.l, PyData.depth, PyData.depthAll]
  omega
theorem cl_tail (s : SB) : PyData.canLay0 (.tuple (s.l.drop 1)) = true := by
  show PyData.canLay0 (.tuple [.int s.blocks, s.lay.d, s.tgt, s.way, .int s.front, optI s.aside, .none, .int 0]) = true
  simp only [PyData.canLay0, PyData.canLayAll0, cl_lay, cl_tgt, cl_way, cl_opt, Bool.and_self]
theorem dp_tail (s : SB) : PyData.depth (.tuple (s.l.drop 1)) ≤ 3 := by
  show PyData.depth (.tuple [.int s.blocks, s.lay.d, s.tgt, s.way, .int s.front, optI s.aside, .none, .int 0]) ≤ 3
  have h1 := dp_lay s.lay
  have h2 := dp_tgt s
  have h3 := dp_way s
  have h4 := dp_opt s.aside
  simp only [PyData.depth, PyData.depthAll]
  omega
theorem shaped_sb (s : SB) : SeqAt.shaped s.d = true := shaped_of (cl_sb s) (Nat.le_trans (dp_sb s) (by decide))
theorem shaped_tail (s : SB) : SeqAt.shaped (.tuple (s.l.drop 1)) = true := shaped_of (cl_tail s) (Nat.le_trans (dp_tail s) (by decide))
theorem eqv_rfl {d : PyData} (h : SeqAt.shaped d = true) : PyData.eqv d d = true := PySem.SeqAt.eqv_refl d (SeqAt.canLay_of_shaped h)
end WS
set_option Elab.async false
set_option linter.all false
set_option maxRecDepth 100000
set_option maxHeartbeats 4000000
namespace WS
open PySem PySem.Spec PyProof.Rows L2
local macro_rules | `(tactic| walk_at "tdg") => `(tactic| first | (apply tdg0; walk_at "at") | (apply tdg1; walk_at "at") | (apply tdg2; walk_at "at") | (apply tdg3; walk_at "at") | (apply tdg4; walk_at "at") | (apply tdg5; walk_at "at") | (apply tdg6; walk_at "at") | (apply tdg7; walk_at "at") | (apply tdg8; walk_at "at"))
local macro_rules | `(tactic| walk_at "no") => `(tactic| first | assumption | (apply no_by; assumption; walk_at "sm"))
local macro_rules | `(tactic| walk_at "sm") => `(tactic| first | exact Same.refl _ | assumption | (apply same_up; walk_at "no"; walk_at "sm") | (apply same_by; assumption; walk_at "sm"))
local macro_rules | `(tactic| walk_at "tk") => `(tactic| first | exact TK.refl | assumption | (apply tk_up; walk_at "no"; walk_at "tk") | (apply tk_by; assumption; walk_at "tk") | (apply tk_mv; assumption; walk_at "tk"))
local macro_rules | `(tactic| walk_at "mv") => `(tactic| first | exact Mv.refl | assumption | (apply mv_up; walk_at "no"; walk_at "mv") | (apply mv_mv; assumption; walk_at "mv") | (apply mv_by; assumption; walk_at "mv"))
local macro_rules | `(tactic| walk_at "ne") => `(tactic| first | assumption | (refine Ne.symm ?_; assumption))
local macro_rules | `(tactic| walk_at "at") => `(tactic| first | assumption | exact upd_same | (apply at_new; walk_at "no"; walk_at "at") | (apply at_ne; walk_at "ne"; walk_at "at") | (apply at_same; assumption; walk_at "at") | (apply at_mv; assumption; assumption; walk_at "at"))
local macro_rules | `(tactic| walk_at "rp") => `(tactic| first | assumption | exact Rp.non | exact Rp.int _ | exact Rp.str _ | (apply rp_tk; assumption; walk_at "tk"))
local macro_rules | `(tactic| walk_at "sq") => `(tactic| first | assumption | exact (‹Tx _ _›).t_METAS _ | exact (‹Tx _ _›).t_FIELDS _ | exact (‹Tx _ _›).t_LEFT _ | exact (‹Tx _ _›).t_SYMMETRIC _ | (apply SqT.of; walk_at "at") | (apply SqL.of; walk_at "at") | (apply sqt_tk; assumption; walk_at "tk") | (apply sql_sm; assumption; walk_at "sm"))
local macro_rules | `(tactic| walk_at "sd") => `(tactic| first | rfl | omega | assumption | decide)
local macro_rules | `(tactic| walk_at "fld") => `(tactic| first | refine ⟨_, _, _, _, _, rfl, (by walk_at "at" : _ = some _), (‹Tx _ _›).c_Cells, (‹Tx _ _›).n_Cells_disks, rfl, ?_⟩ | refine ⟨_, _, _, _, _, rfl, (by walk_at "at" : _ = some _), (‹Tx _ _›).c_Cells, (‹Tx _ _›).n_Cells_done, rfl, ?_⟩ | refine ⟨_, _, _, _, _, rfl, (by walk_at "at" : _ = some _), (‹Tx _ _›).c_Cells, (‹Tx _ _›).n_Cells_begun, rfl, ?_⟩ | refine ⟨_, _, _, _, _, rfl, (by walk_at "at" : _ = some _), (‹Tx _ _›).c_Cells, (‹Tx _ _›).n_Cells_is_loose, rfl, ?_⟩ | refine ⟨_, _, _, _, _, rfl, (by walk_at "at" : _ = some _), (‹Tx _ _›).c_State, (‹Tx _ _›).n_State_cells, rfl, ?_⟩ | refine ⟨_, _, _, _, _, rfl, (by walk_at "at" : _ = some _), (‹Tx _ _›).c_State, (‹Tx _ _›).n_State_own_superblock, rfl, ?_⟩ | refine ⟨_, _, _, _, _, rfl, (by walk_at "at" : _ = some _), (‹Tx _ _›).c_Array, (‹Tx _ _›).n_Array_state, rfl, ?_⟩)
local macro_rules | `(tactic| walk_at "w") => `(tactic| first | refine ⟨_, rfl, ⟨_, (by walk_at "sq" : SqT _ _ _ _)⟩, ?_⟩ | refine ⟨_, rfl, ⟨_, (by walk_at "sq" : SqL _ _ _ _)⟩, ?_⟩ | refine ⟨_, rfl, ?_⟩ | refine ⟨_, _, rfl, rfl, ?_⟩ | refine ⟨rfl, ?_⟩ | refine ⟨_, _, rfl, (by walk_at "sq" : SqT _ _ _ _), rfl, ?_⟩ | refine ⟨_, _, rfl, (by walk_at "sq" : SqT _ _ _ _), ?_⟩ | refine ⟨_, _, rfl, (by walk_at "sq" : SqL _ _ _ _), ?_⟩ | refine ⟨_, _, rfl, (by walk_at "tdg" : DGet _ _ _ _), ?_⟩ | refine ⟨_, _, rfl, ?_⟩ | refine ⟨_, _, _, _, rfl, rfl, (by walk_at "sq" : SqT _ _ _ _), rfl, ?_⟩ | refine ⟨_, _, rfl, .inl (by walk_at "sq" : SqL _ _ _ _), rfl, rfl, ?_⟩ | refine ⟨_, _, rfl, .inr (by walk_at "sq" : SqT _ _ _ _), rfl, rfl, ?_⟩ | refine ⟨_, _, rfl, .inl (by walk_at "sq" : SqL _ _ _ _), ?_⟩ | refine ⟨_, _, rfl, .inr (by walk_at "sq" : SqT _ _ _ _), ?_⟩ | refine ⟨_, _, rfl, (by walk_at "at" : _ = some (HO.dK _)), ?_⟩ | refine ⟨_, _, _, _, rfl, rfl, (by walk_at "sq" : SqL _ _ _ _), rfl, ?_⟩ | refine ⟨_, _, _, rfl, (by walk_at "at" : _ = some _), rfl, ?_⟩ | refine ⟨_, _, _, rfl, ?_⟩ | walk_at "fld" | refine ty_d (by walk_at "at") ?_ | refine ty_l (by walk_at "sq") ?_ | refine ty_t (‹Tx _ _›).z_FIELDS ?_ | refine And.intro (by first | omega | decide | exact Nat.le_of_ble_eq_true rfl | (unfold CDiv; omega) | (unfold CMul; omega)) ?_)
local macro_rules | `(tactic| walk_at "go") => `(tactic| repeat walk_at "w")
section
variable {P : Program} {w : World} {K : PySem.W.Frag} {mg : Str → Option Value} {base : Heap}

def sp_State_init (K : PySem.W.Frag) : Sp := fun vs H Q _ => ∃ (x dx cs : Addr) (v : V), vs = [.ref x, .ref cs, v] ∧ H x = some (.ins (He.ga K "State") dx []) ∧
  ∀ H', Mv K [x] H H' → H' x = some (.ins (He.ga K "State") dx [("cells", .ref cs), ("own_superblock", v)]) → Q .non H'

theorem ok_State_init (T : Tx K mg)  : IK P w K mg base "State" ["self", "cells", "superblock"] 1 (sp_State_init K) := ik_mk T.f_State_init T.k_State T.m_State (by decide +kernel) sc_State_init (fun _ _ _ _ _ _ us hl => match us, hl with | [_, _, _], _ => rfl) (fun _ _ _ _ h => by obtain ⟨_, _, _, _, rfl, _⟩ := h; rfl) fun cdv A outer s H vs Q E hr h => by
  have nd := sc_State_init.nd
  refine ⟨_, (pss_cons (ps_fld (pv 0) (pv 1) rfl)
  (pss_one (ps_fld (pv 0) (pv 2) rfl))), ?_⟩
  obtain ⟨x, dx, cs, v, rfl, hx, q⟩ := h
  walk_at "go"
  refine ⟨_, _, _, _, rfl, hx, T.c_State, T.n_State_cells, Nat.le_of_ble_eq_true rfl, ?_⟩
  have m1 : Mv K [x] H (upd H x (.ins (He.ga K "State") dx (putF "cells" (.ref cs) []))) := Mv.ins hx (by simp)
  have hx1 : (upd H x (.ins (He.ga K "State") dx (putF "cells" (.ref cs) []))) x = some (.ins (He.ga K "State") dx [("cells", .ref cs)]) := upd_same
  generalize (upd H x (.ins (He.ga K "State") dx (putF "cells" (.ref cs) []))) = H1 at m1 hx1 ⊢
  walk_at "go"
  refine ⟨_, _, _, _, rfl, hx1, T.c_State, T.n_State_own_superblock, Nat.le_of_ble_eq_true rfl, ?_⟩
  exact q _ (m1.trans (Mv.ins hx1 (by simp))) upd_same

def sp_away (K : PySem.W.Frag) : Sp := fun vs H Q _ => ∃ (A : Ad) (S : ArrS), vs = [.ref A.st] ∧ StateAt K H A S ∧ S.sb.mv = none ∧ S.sb.lay.ok ∧ ∀ p H', H p = none → Same H H' → H' p = some (.lst []) → Q (.ref p) H'

theorem ok_away (T : Tx K mg) (g_Cells_there : MK P w K mg base "Cells" "there" ["self", "disk"] 1 (sp_Cells_there K)) (g_State_field : MK P w K mg base "State" "field" ["self", "name"] 1 (sp_State_field K)) : GK P w K mg base "away" ["state"] 2 (sp_away K) [] := gk_mk T.f_away T.m_away (by decide +kernel) sc_away (fun _ _ _ _ _ _ us hl => match us, hl with | [_], _ => rfl) (fun _ _ _ _ h => by obtain ⟨_, _, rfl, _⟩ := h; rfl) fun cdv A outer s H vs Q E hr h => by
  have nd := sc_away.nd
  refine ⟨_, (pss_cons (ps_set (i := 1) nd rfl (Or.inl rfl) (pb_max T.b_max (pa_cons (pe_w (pe_lc (own := [("layout", 3)]) (g := gName 3) (tt := _) rfl nd (pi_tupK K (pe_tup (pa_cons (pe_mkK g_State_field hr (by decide) (pv 0) (pa_cons pe_str pa_nil)) (pa_cons (pe_mkK g_State_field hr (by decide) (pv 0) (pa_cons pe_str pa_nil)) pa_nil)))) (blkOk_by (N := ["state", "wide", "disk", "layout"]) (sc := defScope s_away) (by decide +kernel)) (fun _ _ _ _ _ => (pg_name (i := 3) nd rfl (Or.inl rfl))) (fun _ _ _ _ _ => (pts_one (pt_cmpR op_notN (pv 3) pe_non (nomark _)))) (fun _ _ _ _ _ => (pe_ix (ix_tupK K) (pv 3) pe_int (fun _ _ => rfl))))) pa_nil)))
  (pss_one (ps_ret (pe_w (pe_lc (own := [("disk", 2)]) (g := gName 2) (tt := _) rfl nd (pi_range1 rfl T.b_range (pa_cons (pv 1) pa_nil)) (blkOk_by (N := ["state", "wide", "disk", "layout"]) (sc := defScope s_away) (by decide +kernel)) (fun _ _ _ _ _ => (pg_name (i := 2) nd rfl (Or.inl rfl))) (fun _ _ _ _ _ => (pts_one (PW.pt (pw_or (pt_not (pt_val (pe_mkK g_Cells_there hr (by decide) (pe_fldK K (pv 0)) (pa_cons (pv 2) pa_nil)))) (pw_or1 (pt_cmpR op_eq (pv 2) (pe_mkK g_State_field hr (by decide) (pv 0) (pa_cons pe_str pa_nil)) (nomark _))))))) (fun _ _ _ _ _ => (pv 2))))))), ?_⟩
  obtain ⟨A, S, rfl, hs, hm, hl, q⟩ := h
  obtain ⟨v, hst, hv⟩ := hs.st
  have hl1 := hl.1
  have hl2 := hl.2
  walk_at "go"
  refine ⟨A, S, 2, _, rfl, hs, rfl, fun w hw => ?_⟩
  have hw : Rp K H w S.sb.lay.d := hw
  obtain ⟨aw, rfl, haw⟩ := lay_open hw
  walk_at "go"
  refine ⟨A, S, 3, _, rfl, hs, rfl, fun w3 hw3 => ?_⟩
  rw [show S.sb.l.getD 3 .none = S.sb.tgt from rfl, tgt_none hm] at hw3
  obtain rfl : w3 = .non := hw3.non_eq
  walk_at "go"
  intro tp htp
  have e1 : Same H (upd H tp (.tup [.ref aw, .non])) := same_new htp
  have htp1 : SqT K (upd H tp (.tup [.ref aw, .non])) tp [.ref aw, .non] := SqT.new htp
  generalize (upd H tp (.tup [.ref aw, .non])) = H1 at e1 htp1 ⊢
  walk_at "go"
  refine lcK (n := 2) (fun i => decide (i = 0)) (fun i y _ => y = .int S.sb.lay.n) (by decide) (fun _ _ _ _ _ h => h) (fun i H' hi e => itt_go (SqT.tk htp1 (tk_same e)) hi) (fun H' e => itt_stop (SqT.tk htp1 (tk_same e))) ?_ ?_
  · intro i H' x H2 hi e hy R2 Z hR2 hZ
    obtain ⟨rfl, hx⟩ := itt_yld (SqT.tk htp1 (tk_same e)) hy
    have haw2 := SqT.tk haw (tk_same (e1.trans e))
    match i, hi with
    | 0, _ =>
      cases hx
      refine ⟨rfl, ?_⟩
      walk_at "go"
      exact hR2 rfl _ _ (Same.refl _) rfl
    | 1, _ =>
      cases hx
      refine ⟨rfl, ?_⟩
      walk_at "go"
      exact hZ rfl _ (Same.refl _)
  intro p ys H2 hp hy e2 hq
  rw [peq hq] at hy
  have hy : H2 p = some (.lst ([S.sb.lay.n].map V.int)) := hy
  refine ⟨p, [S.sb.lay.n], rfl, SqL.of hy, Nat.le_of_ble_eq_true rfl, fun m hm1 _ => ?_⟩
  obtain rfl : m = S.sb.lay.n := by simpa using hm1
  have e02 := e1.trans e2
  walk_at "go"
  refine lcK (n := S.sb.lay.n.toNat) (fun i => false) (fun i y _ => True) (by omega) (fun _ _ _ _ _ h => h) (fun i H' hi e => by show i < _; exact hi) (fun H' e => by show _ ≤ _; exact Nat.le_refl _) ?_ ?_
  · rintro i H' x H3 hi e ⟨rfl, rfl⟩ R2 Z hR2 hZ
    have hs3 := hs.same (e02.trans e)
    obtain ⟨v3, hst3, _⟩ := hs3.st
    have hcs3 := hs3.ce.cs
    refine ⟨rfl, ?_⟩
    walk_at "go"
    refine ⟨A, _, _, rfl, hs3.ce, ?_⟩
    rw [decide_eq_true (by omega)]
    walk_at "go"
    refine ⟨A, S, 7, _, rfl, hs3, rfl, fun w hw => ?_⟩
    obtain rfl : w = .non := hw.non_eq
    walk_at "go"
    exact hZ rfl _ (Same.refl _)
  · intro p2 ys2 H3 hp2 hy2 e3 hq2
    have hnil : (List.range S.sb.lay.n.toNat).filter (fun _ => false) = [] := by simp
    rw [hnil] at hq2
    cases hq2
    exact q p2 H3 (e02.free hp2) (e02.trans e3) hy2

def sp_aside_values (K : PySem.W.Frag) : Sp := fun vs H Q _ => ∃ (A : Ad) (S : ArrS), vs = [.ref A.st] ∧ StateAt K H A S ∧ S.sb.aside = none ∧ Q .non H

theorem ok_aside_values (T : Tx K mg) (g_State_field : MK P w K mg base "State" "field" ["self", "name"] 1 (sp_State_field K)) : GK P w K mg base "aside_values" ["state"] 2 (sp_aside_values K) [] := gk_mk T.f_aside_values T.m_aside_values (by decide +kernel) sc_aside_values (fun _ _ _ _ _ _ us hl => match us, hl with | [_], _ => rfl) (fun _ _ _ _ h => by obtain ⟨_, _, rfl, _⟩ := h; rfl) fun cdv A outer s H vs Q E hr h => by
  have nd := sc_aside_values.nd
  refine ⟨_, (pss_cons (ps_set (i := 1) nd rfl (Or.inl rfl) (pe_mkK g_State_field hr (by decide) (pv 0) (pa_cons pe_str pa_nil)))
  (pss_cons (ps_if (pt_cmpR op_isN (pv 1) pe_non (nomark _)) (pss_one (ps_ret pe_non)) pss_nil)
  pss_never)), ?_⟩
  obtain ⟨A, S, rfl, hs, hm, q⟩ := h
  obtain ⟨v, hst, hv⟩ := hs.st
  walk_at "go"
  refine ⟨A, S, 6, _, rfl, hs, rfl, fun w hw => ?_⟩
  rw [show S.sb.l.getD 6 .none = optI S.sb.aside from rfl, hm] at hw
  obtain rfl : w = .non := hw.non_eq
  walk_at "go"
  exact q

def sp_finish_row (K : PySem.W.Frag) : Sp := fun vs H Q _ => ∃ (x : V), vs = [x, .non] ∧ ∀ p, H p = none → Q (.ref p) (upd H p (.dK []))

theorem ok_finish_row (T : Tx K mg)  : GK P w K mg base "finish_row" ["state", "values"] 1 (sp_finish_row K) [] := gk_mk T.f_finish_row T.m_finish_row (by decide +kernel) sc_finish_row (fun _ _ _ _ _ _ us hl => match us, hl with | [_, _], _ => rfl) (fun _ _ _ _ h => by obtain ⟨_, rfl, _⟩ := h; rfl) fun cdv A outer s H vs Q E hr h => by
  have nd := sc_finish_row.nd
  refine ⟨_, (pss_cons (ps_if (pt_cmpR op_isN (pv 1) pe_non (nomark _)) (pss_one (ps_ret pe_dnewK)) pss_nil)
  pss_never), ?_⟩
  obtain ⟨x, rfl, q⟩ := h
  walk_at "go"
  exact q

def sp_log_parity (K : PySem.W.Frag) : Sp := fun vs H Q _ => ∃ (A : Ad) (S : ArrS) (k : Nat) (d : DiskS), vs = [.ref A.st, .int k] ∧ StateAt K H A S ∧ S.ce.disks[k]? = some d ∧ d.m1 = .none ∧ Q .non H

theorem ok_log_parity (T : Tx K mg) (g_Cells_cell : MK P w K mg base "Cells" "cell" ["self", "disk", "place"] 2 (sp_Cells_cell K)) : GK P w K mg base "log_parity" ["state", "disk"] 3 (sp_log_parity K) [] := gk_mk T.f_log_parity T.m_log_parity (by decide +kernel) sc_log_parity (fun _ _ _ _ _ _ us hl => match us, hl with | [_, _], _ => rfl) (fun _ _ _ _ h => by obtain ⟨_, _, _, _, rfl, _⟩ := h; rfl) fun cdv A outer s H vs Q E hr h => by
  have nd := sc_log_parity.nd
  refine ⟨_, (pss_cons (ps_set (i := 2) nd rfl (Or.inl rfl) (pe_mkK g_Cells_cell hr (by decide) (pe_fldK K (pv 0)) (pa_cons (pv 1) (pa_cons pe_str pa_nil))))
  (pss_cons (ps_if (PW.pt (pw_or (pt_cmpR op_isN (pv 2) pe_non (nomark _)) (pw_or1 pt_never))) (pss_one (ps_ret pe_non)) pss_nil)
  pss_never)), ?_⟩
  obtain ⟨A, S, k, d, rfl, hs, hd, hm, q⟩ := h
  obtain ⟨v, hst, hv⟩ := hs.st
  have hcs := hs.ce.cs
  walk_at "go"
  refine ⟨A, _, k, .mt .lg, d, .none, rfl, hs.ce, hd, by show some d.m1 = _; rw [hm], fun w hw => ?_⟩
  obtain rfl : w = .non := hw.non_eq
  walk_at "go"
  exact q

def sp_later (K : PySem.W.Frag) : Sp := fun vs H Q _ => ∃ (v w : V) (s : SB) (n m : Int), vs = [v, w] ∧ Rp K H v ({ s with num := n } : SB).d ∧ Rp K H w ({ s with num := m } : SB).d ∧ ∀ H', Same H H' → Q v H'

theorem ok_later (T : Tx K mg)  : GK P w K mg base "later" ["plain", "other"] 1 (sp_later K) [] := gk_mk T.f_later T.m_later (by decide +kernel) sc_later (fun _ _ _ _ _ _ us hl => match us, hl with | [_, _], _ => rfl) (fun _ _ _ _ h => by obtain ⟨_, _, _, _, _, rfl, _⟩ := h; rfl) fun cdv A outer s H vs Q E hr h => by
  have nd := sc_later.nd
  refine ⟨_, (pss_one (ps_ret (pe_ifExp (pt_cmpR (op_eqDK K hr.units) (pe_slice (sl_tupB K) (pv 0) (po_some pe_int) po_none) (pe_slice (sl_tupB K) (pv 1) (po_some pe_int) po_none) (nomark _)) (pv 0) (pv 1)))), ?_⟩
  obtain ⟨v, w, s, n, m, rfl, hv, hw, q⟩ := h
  obtain ⟨a, x, y, rfl, ha, hx, hy⟩ := sb_open hv
  obtain ⟨b, x2, y2, rfl, hb, hx2, hy2⟩ := sb_open hw
  walk_at "go"
  intro p H1 e1 hp
  have hb1 := SqT.tk hb (tk_same e1)
  walk_at "go"
  intro p2 H2 e2 hp2
  rw [show (1 : Int) = ((1 : Nat) : Int) from rfl, cut_from] at hp hp2
  have e02 := e1.trans e2
  refine ⟨.tuple (s.l.drop 1), .tuple (s.l.drop 1), (Rp.tup (SqT.tk hp (tk_same e2)) ?_).dp, (Rp.tup hp2 ?_).dp, shaped_tail s, shaped_tail s, ?_⟩
  · exact (sb_rps (hx.same e02) (hy.same e02)).drop 1
  · exact (sb_rps (hx2.same e02) (hy2.same e02)).drop 1
  rw [eqv_rfl (shaped_tail s)]
  walk_at "go"
  exact q _ e02


end
end WS
set_option Elab.async false
set_option linter.all false
set_option maxRecDepth 100000
set_option maxHeartbeats 4000000
namespace WS
open PySem PySem.Spec PyProof.Rows L2
local macro_rules | `(tactic| walk_at "tdg") => `(tactic| first | (apply tdg0; walk_at "at") | (apply tdg1; walk_at "at") | (apply tdg2; walk_at "at") | (apply tdg3; walk_at "at") | (apply tdg4; walk_at "at") | (apply tdg5; walk_at "at") | (apply tdg6; walk_at "at") | (apply tdg7; walk_at "at") | (apply tdg8; walk_at "at"))
local macro_rules | `(tactic| walk_at "no") => `(tactic| first | assumption | (apply no_by; assumption; walk_at "sm"))
local macro_rules | `(tactic| walk_at "sm") => `(tactic| first | exact Same.refl _ | assumption | (apply same_up; walk_at "no"; walk_at "sm") | (apply same_by; assumption; walk_at "sm"))
local macro_rules | `(tactic| walk_at "tk") => `(tactic| first | exact TK.refl | assumption | (apply tk_up; walk_at "no"; walk_at "tk") | (apply tk_by; assumption; walk_at "tk") | (apply tk_mv; assumption; walk_at "tk"))
local macro_rules | `(tactic| walk_at "mv") => `(tactic| first | exact Mv.refl | assumption | (apply mv_up; walk_at "no"; walk_at "mv") | (apply mv_mv; assumption; walk_at "mv") | (apply mv_by; assumption; walk_at "mv"))
local macro_rules | `(tactic| walk_at "ne") => `(tactic| first | assumption | (refine Ne.symm ?_; assumption))
local macro_rules | `(tactic| walk_at "at") => `(tactic| first | assumption | exact upd_same | (apply at_new; walk_at "no"; walk_at "at") | (apply at_ne; walk_at "ne"; walk_at "at") | (apply at_same; assumption; walk_at "at") | (apply at_mv; assumption; assumption; walk_at "at"))
local macro_rules | `(tactic| walk_at "rp") => `(tactic| first | assumption | exact Rp.non | exact Rp.int _ | exact Rp.str _ | (apply rp_tk; assumption; walk_at "tk"))
local macro_rules | `(tactic| walk_at "sq") => `(tactic| first | assumption | exact (‹Tx _ _›).t_METAS _ | exact (‹Tx _ _›).t_FIELDS _ | exact (‹Tx _ _›).t_LEFT _ | exact (‹Tx _ _›).t_SYMMETRIC _ | (apply SqT.of; walk_at "at") | (apply SqL.of; walk_at "at") | (apply sqt_tk; assumption; walk_at "tk") | (apply sql_sm; assumption; walk_at "sm"))
local macro_rules | `(tactic| walk_at "sd") => `(tactic| first | rfl | omega | assumption | decide)
local macro_rules | `(tactic| walk_at "fld") => `(tactic| first | refine ⟨_, _, _, _, _, rfl, (by walk_at "at" : _ = some _), (‹Tx _ _›).c_Cells, (‹Tx _ _›).n_Cells_disks, rfl, ?_⟩ | refine ⟨_, _, _, _, _, rfl, (by walk_at "at" : _ = some _), (‹Tx _ _›).c_Cells, (‹Tx _ _›).n_Cells_done, rfl, ?_⟩ | refine ⟨_, _, _, _, _, rfl, (by walk_at "at" : _ = some _), (‹Tx _ _›).c_Cells, (‹Tx _ _›).n_Cells_begun, rfl, ?_⟩ | refine ⟨_, _, _, _, _, rfl, (by walk_at "at" : _ = some _), (‹Tx _ _›).c_Cells, (‹Tx _ _›).n_Cells_is_loose, rfl, ?_⟩ | refine ⟨_, _, _, _, _, rfl, (by walk_at "at" : _ = some _), (‹Tx _ _›).c_State, (‹Tx _ _›).n_State_cells, rfl, ?_⟩ | refine ⟨_, _, _, _, _, rfl, (by walk_at "at" : _ = some _), (‹Tx _ _›).c_State, (‹Tx _ _›).n_State_own_superblock, rfl, ?_⟩ | refine ⟨_, _, _, _, _, rfl, (by walk_at "at" : _ = some _), (‹Tx _ _›).c_Array, (‹Tx _ _›).n_Array_state, rfl, ?_⟩)
local macro_rules | `(tactic| walk_at "w") => `(tactic| first | refine ⟨_, rfl, ⟨_, (by walk_at "sq" : SqT _ _ _ _)⟩, ?_⟩ | refine ⟨_, rfl, ⟨_, (by walk_at "sq" : SqL _ _ _ _)⟩, ?_⟩ | refine ⟨_, rfl, ?_⟩ | refine ⟨_, _, rfl, rfl, ?_⟩ | refine ⟨rfl, ?_⟩ | refine ⟨_, _, rfl, (by walk_at "sq" : SqT _ _ _ _), rfl, ?_⟩ | refine ⟨_, _, rfl, (by walk_at "sq" : SqT _ _ _ _), ?_⟩ | refine ⟨_, _, rfl, (by walk_at "sq" : SqL _ _ _ _), ?_⟩ | refine ⟨_, _, rfl, (by walk_at "tdg" : DGet _ _ _ _), ?_⟩ | refine ⟨_, _, rfl, ?_⟩ | refine ⟨_, _, _, _, rfl, rfl, (by walk_at "sq" : SqT _ _ _ _), rfl, ?_⟩ | refine ⟨_, _, rfl, .inl (by walk_at "sq" : SqL _ _ _ _), rfl, rfl, ?_⟩ | refine ⟨_, _, rfl, .inr (by walk_at "sq" : SqT _ _ _ _), rfl, rfl, ?_⟩ | refine ⟨_, _, rfl, .inl (by walk_at "sq" : SqL _ _ _ _), ?_⟩ | refine ⟨_, _, rfl, .inr (by walk_at "sq" : SqT _ _ _ _), ?_⟩ | refine ⟨_, _, rfl, (by walk_at "at" : _ = some (HO.dK _)), ?_⟩ | refine ⟨_, _, _, _, rfl, rfl, (by walk_at "sq" : SqL _ _ _ _), rfl, ?_⟩ | refine ⟨_, _, _, rfl, (by walk_at "at" : _ = some _), rfl, ?_⟩ | refine ⟨_, _, _, rfl, ?_⟩ | walk_at "fld" | refine ty_d (by walk_at "at") ?_ | refine ty_l (by walk_at "sq") ?_ | refine ty_t (‹Tx _ _›).z_FIELDS ?_ | refine And.intro (by first | omega | decide | exact Nat.le_of_ble_eq_true rfl | (unfold CDiv; omega) | (unfold CMul; omega)) ?_)
local macro_rules | `(tactic| walk_at "go") => `(tactic| repeat walk_at "w")
section
variable {P : Program} {w : World} {K : PySem.W.Frag} {mg : Str → Option Value} {base : Heap}

def sp_same_everywhere (K : PySem.W.Frag) : Sp := fun vs H Q _ => ∃ (A : Ad) (S : ArrS), vs = [.ref A.st] ∧ StateAt K H A S ∧ (∀ d ∈ S.ce.disks, d.m0 = S.sb.d) ∧ S.ce.done.length ≤ 100 ∧
  ∀ H', Mv K A.G H H' → StateAt K H' A ⟨S.sb, S.ce.flush⟩ → Q .non H'

theorem ok_same_everywhere (T : Tx K mg) (g_Cells_cell : MK P w K mg base "Cells" "cell" ["self", "disk", "place"] 2 (sp_Cells_cell K)) (g_Cells_flush : MK P w K mg base "Cells" "flush" ["self"] 1 (sp_Cells_flush K)) (g_Cells_numbers : MK P w K mg base "Cells" "numbers" ["self"] 2 (sp_Cells_numbers K)) (g_Cells_put : MK P w K mg base "Cells" "put" ["self", "disk", "place", "contents"] 3 (sp_Cells_put K)) : GK P w K mg base "same_everywhere" ["state"] 4 (sp_same_everywhere K) [] := gk_mk T.f_same_everywhere T.m_same_everywhere (by decide +kernel) sc_same_everywhere (fun _ _ _ _ _ _ us hl => match us, hl with | [_], _ => rfl) (fun _ _ _ _ h => by obtain ⟨_, _, rfl, _⟩ := h; rfl) fun cdv A outer s H vs Q E hr h => by
  have nd := sc_same_everywhere.nd
  refine ⟨_, (pss_cons (ps_wf (ps_for PassesOwn.never rfl (pi_listK K (pe_mk0K g_Cells_numbers hr (by decide) (pe_fldK K (pv 0)))) (pg_name (i := 1) nd rfl (Or.inl rfl)) (pss_one (ps_if (pt_cmpR (op_neDK K hr.units) (pe_mkK g_Cells_cell hr (by decide) (pe_fldK K (pv 0)) (pa_cons (pv 1) (pa_cons pe_str pa_nil))) (pe_fldK K (pv 0)) (nomark _)) (pss_one (ps_expr (pe_mkK g_Cells_put hr (by decide) (pe_fldK K (pv 0)) (pa_cons (pv 1) (pa_cons pe_str (pa_cons (pe_fldK K (pv 0)) pa_nil)))))) pss_nil))))
  (pss_one (ps_expr (pe_mk0K g_Cells_flush hr (by decide) (pe_fldK K (pv 0)))))), ?_⟩
  obtain ⟨A, S, rfl, hs, hd0, hl, q⟩ := h
  obtain ⟨v, hst, hv⟩ := hs.st
  have hcs := hs.ce.cs
  walk_at "go"
  refine ⟨A, _, rfl, hs.ce, fun p H1 hp e1 hp1 => ?_⟩
  walk_at "go"
  refine forG (n := 6) (fun i σ H' => ∃ s1, σ = [some (.ref A.st), s1] ∧ Same H1 H') ⟨none, rfl, Same.refl _⟩ (fun i σ H' hi ⟨_, _, e⟩ => itl_go (SqL.of (e _ _ hp1)) (by simpa [six] using hi)) (fun σ H' ⟨_, _, e⟩ => itl_stop (SqL.of (e _ _ hp1))) ?_ ?_
  · rintro i σ H' x H2 hi ⟨s1, rfl, e⟩ hy
    obtain ⟨rfl, hx⟩ := itl_yld (SqL.of (e _ _ hp1)) hy
    obtain ⟨_, rfl⟩ := six_at hx
    have hs2 := hs.same (e1.trans e)
    obtain ⟨v2, hst2, hv2⟩ := hs2.st
    have hcs2 := hs2.ce.cs
    obtain ⟨_, d, _, hd, _⟩ := hs2.ce.ds.get hi
    walk_at "go"
    refine ⟨A, _, i, .mt .sb, d, S.sb.d, rfl, hs2.ce, hd, by show some d.m0 = _; rw [hd0 d (List.mem_of_getElem? hd)], fun w hw => ?_⟩
    walk_at "go"
    refine ⟨S.sb.d, S.sb.d, hw.dp, hv2.dp, shaped_sb _, shaped_sb _, ?_⟩
    rw [eqv_rfl (shaped_sb _)]
    walk_at "go"
    first | exact e | exact ⟨_, rfl, e⟩
  · rintro σ H' ⟨s1, rfl, e⟩
    have hs2 := hs.same (e1.trans e)
    obtain ⟨v2, hst2, hv2⟩ := hs2.st
    have hcs2 := hs2.ce.cs
    walk_at "go"
    refine ⟨A, _, rfl, hs2.ce, by omega, fun H3 m3 hc3 => ?_⟩
    walk_at "go"
    exact q _ ((Mv.of_same (e1.trans e)).trans m3) (hs2.setCe m3 hc3)

def sp_log_parities (K : PySem.W.Frag) : Sp := fun vs H Q _ => ∃ (A : Ad) (S : ArrS), vs = [.ref A.st] ∧ StateAt K H A S ∧ (∀ d ∈ S.ce.disks, d.m1 = .none) ∧ ∀ p H', H p = none → Same H H' → H' p = some (.lst []) → Q (.ref p) H'

theorem ok_log_parities (T : Tx K mg) (g_Cells_numbers : MK P w K mg base "Cells" "numbers" ["self"] 2 (sp_Cells_numbers K)) (g_log_parity : GK P w K mg base "log_parity" ["state", "disk"] 3 (sp_log_parity K) []) : GK P w K mg base "log_parities" ["state"] 4 (sp_log_parities K) [] := gk_mk T.f_log_parities T.m_log_parities (by decide +kernel) sc_log_parities (fun _ _ _ _ _ _ us hl => match us, hl with | [_], _ => rfl) (fun _ _ _ _ h => by obtain ⟨_, _, rfl, _⟩ := h; rfl) fun cdv A outer s H vs Q E hr h => by
  have nd := sc_log_parities.nd
  refine ⟨_, (pss_cons (ps_w (ps_setLc (i := 1) (own := [("disk", 2)]) (g := gName 2) (tt := tYes) rfl nd rfl rfl (sw_true rfl rfl rfl (by decide +kernel)) (pi_listK K (pe_mk0K g_Cells_numbers hr (by decide) (pe_fldK K (pv 0)))) (blkOk_by (N := ["state", "found", "disk", "told"]) (sc := defScope s_log_parities) (by decide +kernel)) (fun _ _ _ _ _ => (pg_name (i := 2) nd rfl (Or.inl rfl))) (fun _ _ _ _ _ => pts_nil) (fun _ _ _ _ _ => (pe_tup (pa_cons (pv 2) (pa_cons (pe_gkK g_log_parity hr (by decide) (pa_cons (pv 0) (pa_cons (pv 2) pa_nil))) pa_nil))))))
  (pss_one (ps_ret (pe_w (pe_lc (own := [("disk", 2), ("told", 3)]) (g := gTup K 2 (gCons (gName 2) (gCons (gName 3) gNil))) (tt := _) rfl nd (pi_listK K (pv 1)) (blkOk_by (N := ["state", "found", "disk", "told"]) (sc := defScope s_log_parities) (by decide +kernel)) (fun _ _ _ _ _ => (pg_tupK K 2 rfl (pgs_cons (pg_name (i := 2) nd rfl (Or.inl rfl)) (pgs_cons (pg_name (i := 3) nd rfl (Or.inl rfl)) pgs_nil)))) (fun _ _ _ _ _ => (pts_one (pt_cmpR op_notN (pv 3) pe_non (nomark _)))) (fun _ _ _ _ _ => pe_never)))))), ?_⟩
  obtain ⟨A, S, rfl, hs, hd0, q⟩ := h
  obtain ⟨v, hst, hv⟩ := hs.st
  have hcs := hs.ce.cs
  walk_at "go"
  refine ⟨A, _, rfl, hs.ce, fun p H1 hp e1 hp1 => ?_⟩
  have hs1 := hs.same e1
  walk_at "go"
  refine lcA (n := 6) (fun i y H' => ∃ t, y = V.ref t ∧ SqT K H' t [.int (i : Nat), .non]) (by decide) (fun i y H H' nl ⟨t, h1, h2⟩ => ⟨t, h1, SqT.tk h2 nl.tk⟩) (fun i H' hi e => itl_go (SqL.of (e _ _ hp1)) (by simpa [six] using hi)) (fun H' e => itl_stop (SqL.of (e _ _ hp1))) ?_ ?_
  · intro i H' x H2 hi e hy R2 hR2
    obtain ⟨rfl, hx⟩ := itl_yld (SqL.of (e _ _ hp1)) hy
    obtain ⟨_, rfl⟩ := six_at hx
    have hs2 := hs1.same e
    obtain ⟨_, d, _, hd, _⟩ := hs2.ce.ds.get hi
    refine ⟨rfl, ?_⟩
    walk_at "go"
    refine ⟨A, S, i, d, rfl, hs2, hd, hd0 d (List.mem_of_getElem? hd), ?_⟩
    walk_at "go"
    intro t ht
    exact hR2 _ _ (same_new ht) ⟨t, rfl, SqT.new ht⟩
  intro p2 ys H2 hp2 hy2 e2 hq
  walk_at "go"
  have hyl : ys.length = 6 := by have := plen hq; simpa using this
  refine lcK (n := ys.length) (fun _ => false) (fun _ _ _ => True) (by omega) (fun _ _ _ _ _ _ => trivial) (fun i H' hi e => itl_go (SqL.of (e _ _ hy2)) hi) (fun H' e => itl_stop (SqL.of (e _ _ hy2))) ?_ ?_
  · intro i H' x H3 hi e hy R2 Z hR2 hZ
    obtain ⟨rfl, hx⟩ := itl_yld (SqL.of (e _ _ hy2)) hy
    obtain ⟨t, rfl, ht⟩ := pget hq (List.getElem?_range (by omega)) hx
    have ht2 := SqT.tk ht (tk_same e)
    refine ⟨_, _, rfl, ht2, rfl, ?_⟩
    walk_at "go"
    exact hZ rfl _ (Same.refl _)
  · intro p3 ys3 H3 hp3 hy3 e3 hq3
    have hnil : (List.range ys.length).filter (fun _ => false) = [] := by simp
    rw [hnil] at hq3
    cases hq3
    have e03 := (e1.trans e2).trans e3
    exact q p3 H3 ((e1.trans e2).free hp3) e03 hy3

def sp_play_logs (K : PySem.W.Frag) : Sp := fun vs H Q _ => ∃ (A : Ad) (S : ArrS), vs = [.ref A.st] ∧ StateAt K H A S ∧ (∀ d ∈ S.ce.disks, d.m1 = .none) ∧ S.ce.done.length ≤ 100 ∧
  ∀ H', Mv K A.G H H' → StateAt K H' A ⟨S.sb, S.ce.flush⟩ → Q .non H'

theorem ok_play_logs (T : Tx K mg) (g_Cells_flush : MK P w K mg base "Cells" "flush" ["self"] 1 (sp_Cells_flush K)) (g_log_parities : GK P w K mg base "log_parities" ["state"] 4 (sp_log_parities K) []) : GK P w K mg base "play_logs" ["state"] 5 (sp_play_logs K) [] := gk_mk T.f_play_logs T.m_play_logs (by decide +kernel) sc_play_logs (fun _ _ _ _ _ _ us hl => match us, hl with | [_], _ => rfl) (fun _ _ _ _ h => by obtain ⟨_, _, rfl, _⟩ := h; rfl) fun cdv A outer s H vs Q E hr h => by
  have nd := sc_play_logs.nd
  refine ⟨_, (pss_cons (ps_wf (ps_for PassesOwn.never rfl (pi_listK K (pe_gkK g_log_parities hr (by decide) (pa_cons (pv 0) pa_nil))) (pg_tupK K 4 rfl (pgs_cons (pg_name (i := 1) nd rfl (Or.inl rfl)) (pgs_cons (pg_name (i := 2) nd rfl (Or.inl rfl)) (pgs_cons (pg_name (i := 3) nd rfl (Or.inl rfl)) (pgs_cons (pg_name (i := 4) nd rfl (Or.inl rfl)) pgs_nil))))) pss_never))
  (pss_one (ps_expr (pe_mk0K g_Cells_flush hr (by decide) (pe_fldK K (pv 0)))))), ?_⟩
  obtain ⟨A, S, rfl, hs, hd0, hl, q⟩ := h
  walk_at "go"
  refine ⟨A, S, rfl, hs, hd0, fun p H1 hp e1 hp1 => ?_⟩
  have hs1 := hs.same e1
  obtain ⟨v, hst, hv⟩ := hs1.st
  have hcs := hs1.ce.cs
  walk_at "go"
  refine forG (n := 0) (fun i σ H' => H' = H1 ∧ σ = [some (.ref A.st), none, none, none, none]) ⟨rfl, rfl⟩ (fun i σ H' hi _ => absurd hi (by omega)) (fun σ H' ⟨e, _⟩ => by rw [e]; exact itl_stop (SqL.of hp1)) (fun i σ H' x H2 hi _ _ => absurd hi (by omega)) ?_
  rintro σ H' ⟨rfl, rfl⟩
  walk_at "go"
  refine ⟨A, _, rfl, hs1.ce, by omega, fun H3 m3 hc3 => ?_⟩
  walk_at "go"
  exact q _ ((Mv.of_same e1).trans m3) (hs1.setCe m3 hc3)

def sp_named (K : PySem.W.Frag) : Sp := fun vs H Q _ => ∃ (A : Ad) (S : ArrS) (f : Addr), vs = [.ref A.st, .ref f, .non] ∧ StateAt K H A S ∧ H f = some (.dK []) ∧ ∀ H', Same H H' → Q (.ref f) H'

theorem ok_named (T : Tx K mg) (g_State_field : MK P w K mg base "State" "field" ["self", "name"] 1 (sp_State_field K)) : GK P w K mg base "named" ["state", "fields", "gone"] 2 (sp_named K) [] := gk_mk T.f_named T.m_named (by decide +kernel) sc_named (fun _ _ _ _ _ _ us hl => match us, hl with | [_, _, _], _ => rfl) (fun _ _ _ _ h => by obtain ⟨_, _, _, rfl, _⟩ := h; rfl) fun cdv A outer s H vs Q E hr h => by
  have nd := sc_named.nd
  refine ⟨_, (pss_cons (ps_w (ps_setLc (i := 3) (own := [("name", 4)]) (g := gName 4) (tt := tYes) rfl nd rfl rfl (sw_true rfl rfl rfl (by decide +kernel)) (pi_tupK K (pe_tup (pa_cons pe_str (pa_cons pe_str pa_nil)))) (blkOk_by (N := ["state", "fields", "gone", "layouts", "name", "layout"]) (sc := defScope s_named) (by decide +kernel)) (fun _ _ _ _ _ => (pg_name (i := 4) nd rfl (Or.inl rfl))) (fun _ _ _ _ _ => pts_nil) (fun _ _ _ _ _ => (pe_dget2 (hu_of hr) (pv 1) (pv 4) (pe_mkK g_State_field hr (by decide) (pv 0) (pa_cons (pv 4) pa_nil)) ⟨rfl, rfl, rfl, rfl⟩))))
  (pss_cons (ps_if (PW.pt (pw_or (pt_cmpR op_isN (pv 2) pe_non (nomark _)) (pw_or pt_never (pw_or1 pt_never)))) (pss_one (ps_ret (pv 1))) pss_nil)
  pss_never)), ?_⟩
  obtain ⟨A, S, f, rfl, hs, hf, q⟩ := h
  walk_at "go"
  intro tp htp
  have e1 : Same H (upd H tp (.tup [.str "layout", .str "target"])) := same_new htp
  have htp1 : SqT K (upd H tp (.tup [.str "layout", .str "target"])) tp [.str "layout", .str "target"] := SqT.new htp
  generalize (upd H tp (.tup [.str "layout", .str "target"])) = H1 at e1 htp1 ⊢
  walk_at "go"
  refine lcA (n := 2) (fun _ _ _ => True) (by decide) (fun _ _ _ _ _ _ => trivial) (fun i H' hi e => itt_go (SqT.tk htp1 (tk_same e)) hi) (fun H' e => itt_stop (SqT.tk htp1 (tk_same e))) ?_ ?_
  · intro i H' x H2 hi e hy R2 hR2
    obtain ⟨rfl, hx⟩ := itt_yld (SqT.tk htp1 (tk_same e)) hy
    have e02 := e1.trans e
    have hs2 := hs.same e02
    obtain ⟨v2, hst2, _⟩ := hs2.st
    have hf2 := e02 _ _ hf
    match i, hi with
    | 0, _ =>
      cases hx
      refine ⟨rfl, _, rfl, _, rfl, .inl ⟨_, .inl hf2⟩, ?_⟩
      walk_at "go"
      refine ⟨A, S, 2, _, rfl, hs2, rfl, fun w hw => ?_⟩
      exact ⟨none, .inl ⟨[], .inr "layout", .inl hf2, rfl, rfl⟩, hR2 _ _ (Same.refl _) trivial⟩
    | 1, _ =>
      cases hx
      refine ⟨rfl, _, rfl, _, rfl, .inl ⟨_, .inl hf2⟩, ?_⟩
      walk_at "go"
      refine ⟨A, S, 3, _, rfl, hs2, rfl, fun w hw => ?_⟩
      exact ⟨none, .inl ⟨[], .inr "target", .inl hf2, rfl, rfl⟩, hR2 _ _ (Same.refl _) trivial⟩
  intro p ys H2 hp hy e2 _
  walk_at "go"
  exact q _ (e1.trans e2)


end
end WS
set_option Elab.async false
set_option linter.all false
set_option maxRecDepth 100000
set_option maxHeartbeats 4000000
namespace WS
open PySem PySem.Spec PyProof.Rows L2
local macro_rules | `(tactic| walk_at "tdg") => `(tactic| first | (apply tdg0; walk_at "at") | (apply tdg1; walk_at "at") | (apply tdg2; walk_at "at") | (apply tdg3; walk_at "at") | (apply tdg4; walk_at "at") | (apply tdg5; walk_at "at") | (apply tdg6; walk_at "at") | (apply tdg7; walk_at "at") | (apply tdg8; walk_at "at"))
local macro_rules | `(tactic| walk_at "no") => `(tactic| first | assumption | (apply no_by; assumption; walk_at "sm"))
local macro_rules | `(tactic| walk_at "sm") => `(tactic| first | exact Same.refl _ | assumption | (apply same_up; walk_at "no"; walk_at "sm") | (apply same_by; assumption; walk_at "sm"))
local macro_rules | `(tactic| walk_at "tk") => `(tactic| first | exact TK.refl | assumption | (apply tk_up; walk_at "no"; walk_at "tk") | (apply tk_by; assumption; walk_at "tk") | (apply tk_mv; assumption; walk_at "tk"))
local macro_rules | `(tactic| walk_at "mv") => `(tactic| first | exact Mv.refl | assumption | (apply mv_up; walk_at "no"; walk_at "mv") | (apply mv_mv; assumption; walk_at "mv") | (apply mv_by; assumption; walk_at "mv"))
local macro_rules | `(tactic| walk_at "ne") => `(tactic| first | assumption | (refine Ne.symm ?_; assumption))
local macro_rules | `(tactic| walk_at "at") => `(tactic| first | assumption | exact upd_same | (apply at_new; walk_at "no"; walk_at "at") | (apply at_ne; walk_at "ne"; walk_at "at") | (apply at_same; assumption; walk_at "at") | (apply at_mv; assumption; assumption; walk_at "at"))
local macro_rules | `(tactic| walk_at "rp") => `(tactic| first | assumption | exact Rp.non | exact Rp.int _ | exact Rp.str _ | (apply rp_tk; assumption; walk_at "tk"))
local macro_rules | `(tactic| walk_at "sq") => `(tactic| first | assumption | exact (‹Tx _ _›).t_METAS _ | exact (‹Tx _ _›).t_FIELDS _ | exact (‹Tx _ _›).t_LEFT _ | exact (‹Tx _ _›).t_SYMMETRIC _ | (apply SqT.of; walk_at "at") | (apply SqL.of; walk_at "at") | (apply sqt_tk; assumption; walk_at "tk") | (apply sql_sm; assumption; walk_at "sm"))
local macro_rules | `(tactic| walk_at "sd") => `(tactic| first | rfl | omega | assumption | decide)
local macro_rules | `(tactic| walk_at "fld") => `(tactic| first | refine ⟨_, _, _, _, _, rfl, (by walk_at "at" : _ = some _), (‹Tx _ _›).c_Cells, (‹Tx _ _›).n_Cells_disks, rfl, ?_⟩ | refine ⟨_, _, _, _, _, rfl, (by walk_at "at" : _ = some _), (‹Tx _ _›).c_Cells, (‹Tx _ _›).n_Cells_done, rfl, ?_⟩ | refine ⟨_, _, _, _, _, rfl, (by walk_at "at" : _ = some _), (‹Tx _ _›).c_Cells, (‹Tx _ _›).n_Cells_begun, rfl, ?_⟩ | refine ⟨_, _, _, _, _, rfl, (by walk_at "at" : _ = some _), (‹Tx _ _›).c_Cells, (‹Tx _ _›).n_Cells_is_loose, rfl, ?_⟩ | refine ⟨_, _, _, _, _, rfl, (by walk_at "at" : _ = some _), (‹Tx _ _›).c_State, (‹Tx _ _›).n_State_cells, rfl, ?_⟩ | refine ⟨_, _, _, _, _, rfl, (by walk_at "at" : _ = some _), (‹Tx _ _›).c_State, (‹Tx _ _›).n_State_own_superblock, rfl, ?_⟩ | refine ⟨_, _, _, _, _, rfl, (by walk_at "at" : _ = some _), (‹Tx _ _›).c_Array, (‹Tx _ _›).n_Array_state, rfl, ?_⟩)
local macro_rules | `(tactic| walk_at "w") => `(tactic| first | refine ⟨_, rfl, ⟨_, (by walk_at "sq" : SqT _ _ _ _)⟩, ?_⟩ | refine ⟨_, rfl, ⟨_, (by walk_at "sq" : SqL _ _ _ _)⟩, ?_⟩ | refine ⟨_, rfl, ?_⟩ | refine ⟨_, _, rfl, rfl, ?_⟩ | refine ⟨rfl, ?_⟩ | refine ⟨_, _, rfl, (by walk_at "sq" : SqT _ _ _ _), rfl, ?_⟩ | refine ⟨_, _, rfl, (by walk_at "sq" : SqT _ _ _ _), ?_⟩ | refine ⟨_, _, rfl, (by walk_at "sq" : SqL _ _ _ _), ?_⟩ | refine ⟨_, _, rfl, (by walk_at "tdg" : DGet _ _ _ _), ?_⟩ | refine ⟨_, _, rfl, ?_⟩ | refine ⟨_, _, _, _, rfl, rfl, (by walk_at "sq" : SqT _ _ _ _), rfl, ?_⟩ | refine ⟨_, _, rfl, .inl (by walk_at "sq" : SqL _ _ _ _), rfl, rfl, ?_⟩ | refine ⟨_, _, rfl, .inr (by walk_at "sq" : SqT _ _ _ _), rfl, rfl, ?_⟩ | refine ⟨_, _, rfl, .inl (by walk_at "sq" : SqL _ _ _ _), ?_⟩ | refine ⟨_, _, rfl, .inr (by walk_at "sq" : SqT _ _ _ _), ?_⟩ | refine ⟨_, _, rfl, (by walk_at "at" : _ = some (HO.dK _)), ?_⟩ | refine ⟨_, _, _, _, rfl, rfl, (by walk_at "sq" : SqL _ _ _ _), rfl, ?_⟩ | refine ⟨_, _, _, rfl, (by walk_at "at" : _ = some _), rfl, ?_⟩ | refine ⟨_, _, _, rfl, ?_⟩ | walk_at "fld" | refine ty_d (by walk_at "at") ?_ | refine ty_l (by walk_at "sq") ?_ | refine ty_t (‹Tx _ _›).z_FIELDS ?_ | refine And.intro (by first | omega | decide | exact Nat.le_of_ble_eq_true rfl | (unfold CDiv; omega) | (unfold CMul; omega)) ?_)
local macro_rules | `(tactic| walk_at "go") => `(tactic| repeat walk_at "w")
section
variable {P : Program} {w : World} {K : PySem.W.Frag} {mg : Str → Option Value} {base : Heap}

def sp_Array_superblock (K : PySem.W.Frag) : Sp := fun vs H Q _ => ∃ (A : Ad) (S : ArrS), vs = [.ref A.arr] ∧ ArrAt K H A S ∧ ∀ v, Rp K H v S.sb.d → Q v H

theorem ok_Array_superblock (T : Tx K mg)  : MK P w K mg base "Array" "superblock" ["self"] 1 (sp_Array_superblock K) := mk_mk T.f_Array_superblock T.h_Array_superblock T.c_Array sc_Array_superblock (fun _ _ _ _ _ _ us hl => match us, hl with | [_], _ => rfl) (fun _ _ _ _ h => by obtain ⟨_, _, rfl, _⟩ := h; rfl) fun cdv A outer s H vs Q E hr h => by
  have nd := sc_Array_superblock.nd
  refine ⟨_, (pss_one (ps_ret (pe_fldK K (pe_fldK K (pv 0))))), ?_⟩
  obtain ⟨A, S, rfl, har, q⟩ := h
  have hH := har.arr
  obtain ⟨v, hst, hv⟩ := har.sa.st
  walk_at "go"
  exact q v hv

def sp_Array_trace (K : PySem.W.Frag) : Sp := fun vs H Q _ => ∃ (A : Ad) (S : ArrS), vs = [.ref A.arr] ∧ ArrAt K H A S ∧ ∀ p H' es, H p = none → Same H H' → H' p = some (.lst es) → RpL K H' es (S.ce.done.map En.d) → Q (.ref p) H'

theorem ok_Array_trace (T : Tx K mg) (g_Cells_trace : MK P w K mg base "Cells" "trace" ["self"] 1 (sp_Cells_trace K)) : MK P w K mg base "Array" "trace" ["self"] 2 (sp_Array_trace K) := mk_mk T.f_Array_trace T.h_Array_trace T.c_Array sc_Array_trace (fun _ _ _ _ _ _ us hl => match us, hl with | [_], _ => rfl) (fun _ _ _ _ h => by obtain ⟨_, _, rfl, _⟩ := h; rfl) fun cdv A outer s H vs Q E hr h => by
  have nd := sc_Array_trace.nd
  refine ⟨_, (pss_one (ps_ret (pe_mk0K g_Cells_trace hr (by decide) (pe_fldK K (pe_fldK K (pv 0)))))), ?_⟩
  obtain ⟨A, S, rfl, har, q⟩ := h
  have hH := har.arr
  obtain ⟨v, hst, hv⟩ := har.sa.st
  have hcs := har.sa.ce.cs
  walk_at "go"
  exact ⟨A, _, rfl, har.sa.ce, q⟩

def sp_Array_image (K : PySem.W.Frag) : Sp := fun vs H Q _ => ∃ (A : Ad) (S : ArrS) (R : Nat), vs = [.ref A.arr] ∧ ArrAt K H A S ∧ S.ce.ok R ∧ ∀ v H', Same H H' → Rp K H' v (imgD S.ce.disks) → Q v H'

theorem ok_Array_image (T : Tx K mg) (g_Cells_image : MK P w K mg base "Cells" "image" ["self"] 2 (sp_Cells_image K)) : MK P w K mg base "Array" "image" ["self"] 3 (sp_Array_image K) := mk_mk T.f_Array_image T.h_Array_image T.c_Array sc_Array_image (fun _ _ _ _ _ _ us hl => match us, hl with | [_], _ => rfl) (fun _ _ _ _ h => by obtain ⟨_, _, _, rfl, _⟩ := h; rfl) fun cdv A outer s H vs Q E hr h => by
  have nd := sc_Array_image.nd
  refine ⟨_, (pss_one (ps_ret (pe_mk0K g_Cells_image hr (by decide) (pe_fldK K (pe_fldK K (pv 0)))))), ?_⟩
  obtain ⟨A, S, R, rfl, har, hok, q⟩ := h
  have hH := har.arr
  obtain ⟨v, hst, hv⟩ := har.sa.st
  have hcs := har.sa.ce.cs
  walk_at "go"
  exact ⟨A, _, R, rfl, har.sa.ce, hok, q⟩

def sp_Array_cut (K : PySem.W.Frag) : Sp := fun vs H Q _ => ∃ (A : Ad) (S : ArrS) (R n : Nat) (k : Addr) (kept : List Int), vs = [.ref A.arr, .int n, .ref k] ∧ ArrAt K H A S ∧ S.ce.ok R ∧ S.ce.done.length ≤ 9000 ∧ n ≤ S.ce.done.length ∧ H k = some (.lst (kept.map V.int)) ∧
  ∀ v H', Same H H' → Rp K H' v (imgD (film S.ce.begun S.ce.done n kept)) → Q v H'

theorem ok_Array_cut (T : Tx K mg) (g_image_after : GK P w K mg base "image_after" ["image", "trace", "after", "kept"] 9 (sp_image_after K) []) : MK P w K mg base "Array" "cut" ["self", "after", "kept"] 10 (sp_Array_cut K) := mk_mk T.f_Array_cut T.h_Array_cut T.c_Array sc_Array_cut (fun _ _ _ _ _ _ us hl => match us, hl with | [_, _, _], _ => rfl) (fun _ _ _ _ h => by obtain ⟨_, _, _, _, _, _, rfl, _⟩ := h; rfl) fun cdv A outer s H vs Q E hr h => by
  have nd := sc_Array_cut.nd
  refine ⟨_, (pss_one (ps_ret (pe_gkK g_image_after hr (by decide) (pa_cons (pe_fldK K (pe_fldK K (pe_fldK K (pv 0)))) (pa_cons (pe_fldK K (pe_fldK K (pe_fldK K (pv 0)))) (pa_cons (pv 1) (pa_cons (pb_list T.b_list (pa_cons (pv 2) pa_nil)) pa_nil))))))), ?_⟩
  obtain ⟨A, S, R, n, k, kept, rfl, har, hok, hl, hn, hk, q⟩ := h
  have hH := har.arr
  obtain ⟨v, hst, hv⟩ := har.sa.st
  have hcs := har.sa.ce.cs
  obtain ⟨es, hdn, hes⟩ := har.sa.ce.dn
  walk_at "go"
  intro l hl2
  have e1 : Same H (upd H l (.lst (kept.map V.int))) := same_new hl2
  walk_at "go"
  refine ⟨A.bv, A.dn, l, es, S.ce.begun, S.ce.done, n, R, kept, rfl, har.sa.ce.bv.same e1, hok.nb, hok.ob, by have := hok.r1; omega, e1 _ _ hdn, hes.same e1, by omega, hn, hok.oe, upd_same, fun v H2 e2 hv2 => ?_⟩
  exact q v H2 (e1.trans e2) hv2


end
end WS
set_option Elab.async false
set_option linter.all false
set_option maxRecDepth 100000
set_option maxHeartbeats 4000000
namespace WS
open PySem PySem.Spec PyProof.Rows L2
local macro_rules | `(tactic| walk_at "tdg") => `(tactic| first | (apply tdg0; walk_at "at") | (apply tdg1; walk_at "at") | (apply tdg2; walk_at "at") | (apply tdg3; walk_at "at") | (apply tdg4; walk_at "at") | (apply tdg5; walk_at "at") | (apply tdg6; walk_at "at") | (apply tdg7; walk_at "at") | (apply tdg8; walk_at "at"))
local macro_rules | `(tactic| walk_at "no") => `(tactic| first | assumption | (apply no_by; assumption; walk_at "sm"))
local macro_rules | `(tactic| walk_at "sm") => `(tactic| first | exact Same.refl _ | assumption | (apply same_up; walk_at "no"; walk_at "sm") | (apply same_by; assumption; walk_at "sm"))
local macro_rules | `(tactic| walk_at "tk") => `(tactic| first | exact TK.refl | assumption | (apply tk_up; walk_at "no"; walk_at "tk") | (apply tk_by; assumption; walk_at "tk") | (apply tk_mv; assumption; walk_at "tk"))
local macro_rules | `(tactic| walk_at "mv") => `(tactic| first | exact Mv.refl | assumption | (apply mv_up; walk_at "no"; walk_at "mv") | (apply mv_mv; assumption; walk_at "mv") | (apply mv_by; assumption; walk_at "mv"))
local macro_rules | `(tactic| walk_at "ne") => `(tactic| first | assumption | (refine Ne.symm ?_; assumption))
local macro_rules | `(tactic| walk_at "at") => `(tactic| first | assumption | exact upd_same | (apply at_new; walk_at "no"; walk_at "at") | (apply at_ne; walk_at "ne"; walk_at "at") | (apply at_same; assumption; walk_at "at") | (apply at_mv; assumption; assumption; walk_at "at"))
local macro_rules | `(tactic| walk_at "rp") => `(tactic| first | assumption | exact Rp.non | exact Rp.int _ | exact Rp.str _ | (apply rp_tk; assumption; walk_at "tk"))
local macro_rules | `(tactic| walk_at "sq") => `(tactic| first | assumption | exact (‹Tx _ _›).t_METAS _ | exact (‹Tx _ _›).t_FIELDS _ | exact (‹Tx _ _›).t_LEFT _ | exact (‹Tx _ _›).t_SYMMETRIC _ | (apply SqT.of; walk_at "at") | (apply SqL.of; walk_at "at") | (apply sqt_tk; assumption; walk_at "tk") | (apply sql_sm; assumption; walk_at "sm"))
local macro_rules | `(tactic| walk_at "sd") => `(tactic| first | rfl | omega | assumption | decide)
local macro_rules | `(tactic| walk_at "fld") => `(tactic| first | refine ⟨_, _, _, _, _, rfl, (by walk_at "at" : _ = some _), (‹Tx _ _›).c_Cells, (‹Tx _ _›).n_Cells_disks, rfl, ?_⟩ | refine ⟨_, _, _, _, _, rfl, (by walk_at "at" : _ = some _), (‹Tx _ _›).c_Cells, (‹Tx _ _›).n_Cells_done, rfl, ?_⟩ | refine ⟨_, _, _, _, _, rfl, (by walk_at "at" : _ = some _), (‹Tx _ _›).c_Cells, (‹Tx _ _›).n_Cells_begun, rfl, ?_⟩ | refine ⟨_, _, _, _, _, rfl, (by walk_at "at" : _ = some _), (‹Tx _ _›).c_Cells, (‹Tx _ _›).n_Cells_is_loose, rfl, ?_⟩ | refine ⟨_, _, _, _, _, rfl, (by walk_at "at" : _ = some _), (‹Tx _ _›).c_State, (‹Tx _ _›).n_State_cells, rfl, ?_⟩ | refine ⟨_, _, _, _, _, rfl, (by walk_at "at" : _ = some _), (‹Tx _ _›).c_State, (‹Tx _ _›).n_State_own_superblock, rfl, ?_⟩ | refine ⟨_, _, _, _, _, rfl, (by walk_at "at" : _ = some _), (‹Tx _ _›).c_Array, (‹Tx _ _›).n_Array_state, rfl, ?_⟩)
local macro_rules | `(tactic| walk_at "w") => `(tactic| first | refine ⟨_, rfl, ⟨_, (by walk_at "sq" : SqT _ _ _ _)⟩, ?_⟩ | refine ⟨_, rfl, ⟨_, (by walk_at "sq" : SqL _ _ _ _)⟩, ?_⟩ | refine ⟨_, rfl, ?_⟩ | refine ⟨_, _, rfl, rfl, ?_⟩ | refine ⟨rfl, ?_⟩ | refine ⟨_, _, rfl, (by walk_at "sq" : SqT _ _ _ _), rfl, ?_⟩ | refine ⟨_, _, rfl, (by walk_at "sq" : SqT _ _ _ _), ?_⟩ | refine ⟨_, _, rfl, (by walk_at "sq" : SqL _ _ _ _), ?_⟩ | refine ⟨_, _, rfl, (by walk_at "tdg" : DGet _ _ _ _), ?_⟩ | refine ⟨_, _, rfl, ?_⟩ | refine ⟨_, _, _, _, rfl, rfl, (by walk_at "sq" : SqT _ _ _ _), rfl, ?_⟩ | refine ⟨_, _, rfl, .inl (by walk_at "sq" : SqL _ _ _ _), rfl, rfl, ?_⟩ | refine ⟨_, _, rfl, .inr (by walk_at "sq" : SqT _ _ _ _), rfl, rfl, ?_⟩ | refine ⟨_, _, rfl, .inl (by walk_at "sq" : SqL _ _ _ _), ?_⟩ | refine ⟨_, _, rfl, .inr (by walk_at "sq" : SqT _ _ _ _), ?_⟩ | refine ⟨_, _, rfl, (by walk_at "at" : _ = some (HO.dK _)), ?_⟩ | refine ⟨_, _, _, _, rfl, rfl, (by walk_at "sq" : SqL _ _ _ _), rfl, ?_⟩ | refine ⟨_, _, _, rfl, (by walk_at "at" : _ = some _), rfl, ?_⟩ | refine ⟨_, _, _, rfl, ?_⟩ | walk_at "fld" | refine ty_d (by walk_at "at") ?_ | refine ty_l (by walk_at "sq") ?_ | refine ty_t (‹Tx _ _›).z_FIELDS ?_ | refine And.intro (by first | omega | decide | exact Nat.le_of_ble_eq_true rfl | (unfold CDiv; omega) | (unfold CMul; omega)) ?_)
local macro_rules | `(tactic| walk_at "go") => `(tactic| repeat walk_at "w")
section
variable {P : Program} {w : World} {K : PySem.W.Frag} {mg : Str → Option Value} {base : Heap}

theorem rep_to {H : Hp} {a : Addr} {xs : List V} {n : Nat} {Q : VK} (hs : SqT K H a xs) (ne : xs ≠ []) (h2 : 2 ≤ n) (h1 : n ≤ 1000) (hl : xs.length ≤ 1000) (q : ∀ p H', Same H H' → SqT K H' p (List.replicate n xs).flatten → Q (.ref p) H') : rRepT K (.ref a) (.int (n : Int)) H Q :=
  ⟨a, _, xs, rfl, rfl, hs, ne, by omega, by omega, hl, fun p hp => q p _ (same_new hp) (SqT.new hp)⟩
theorem cat_to {H : Hp} {a b : Addr} {xs ys : List V} {Q : VK} (ha : SqT K H a xs) (hb : SqT K H b ys) (ne : xs ≠ []) (ne2 : ys ≠ []) (hl : xs.length + ys.length ≤ sizeLine) (q : ∀ p H', Same H H' → SqT K H' p (xs ++ ys) → Q (.ref p) H') : rCatT K (.ref a) (.ref b) H Q :=
  ⟨a, b, xs, ys, rfl, rfl, ha, hb, ne, hl, fun z => absurd z ne2, fun _ p hp => q p _ (same_new hp) (SqT.new hp)⟩
def sbNew (l : Lay) (b : Int) : SB := ⟨0, b, l, none, 0, none⟩
def diskNew (l : Lay) (b : Int) (R : Nat) : DiskS := ⟨(sbNew l b).d, .none, .none, List.replicate R 0⟩
def disksNew (l : Lay) (b : Int) (R : Nat) : List DiskS := List.replicate 6 (diskNew l b R)
theorem flatten_one {α : Type} (x : α) : ∀ n : Nat, (List.replicate n [x]).flatten = List.replicate n x
  | 0 => rfl
  | n + 1 => by rw [List.replicate_succ, List.flatten_cons, flatten_one x n]; rfl
theorem rpl_rep {H : Hp} {v : V} {d : PyData} (h : Rp K H v d) : ∀ n : Nat, RpL K H (List.replicate n v) (List.replicate n d)
  | 0 => .nil
  | n + 1 => .cons h (rpl_rep h n)
def sp_made (K : PySem.W.Frag) : Sp := fun vs H Q _ => ∃ (x : V) (l : Lay) (b : Int) (R : Nat), vs = [x, .int b, .int R, .int 6] ∧ Rp K H x l.d ∧ l.ok ∧ b ≤ 2 * R ∧ 2 ≤ R ∧ R ≤ 20 ∧ ∀ v H', Same H H' → Rp K H' v (imgD (disksNew l b R)) → Q v H'

theorem ok_made (T : Tx K mg) (g_as_tuples : GK P w K mg base "as_tuples" ["thing"] 8 (sp_as_tuples K) []) : GK P w K mg base "made" ["layout", "blocks", "rows", "disks"] 9 (sp_made K) [] := gk_mk1 4 1 (by decide) T.f_made T.m_made (by decide +kernel) sc_made rfl (fun _ _ _ _ _ _ _ us its hl hi => match us, its, hl, hi with | [_, _, _, _], [_], _, _ => ⟨_, rfl, rfl⟩) (fun _ _ _ _ h => by obtain ⟨_, _, _, _, rfl, _⟩ := h; rfl) fun cdv A outer s H vs Q E hr h => by
  have nd := sc_made.nd
  refine ⟨_, (pss_cons (ps_set (i := 0) nd rfl (Or.inl rfl) (pe_gkK g_as_tuples hr (by decide) (pa_cons (pv 0) pa_nil)))
  (pss_cons (ps_if (pt_cmpR op_gt (pv 1) (pe_op op_mul (pv 2) (pe_op op_sub (pe_ix (ix_tupK K) (pv 0) pe_int (fun _ _ => rfl)) pe_int)) (nomark _)) pss_never pss_nil)
  (pss_cons (ps_set (i := 4) nd rfl (Or.inl rfl) (pe_ifExp (pt_cmpR op_isN (pv 3) pe_non (nomark _)) (pe_ix (ix_tupK K) (pv 0) pe_int (fun _ _ => rfl)) (pv 3)))
  (pss_cons (ps_set (i := 5) nd rfl (Or.inl rfl) (pe_tup (pa_cons pe_int (pa_cons (pv 1) (pa_cons (pv 0) (pa_cons pe_non (pa_cons pe_non (pa_cons pe_int (pa_cons pe_non (pa_cons pe_non (pa_cons pe_int pa_nil)))))))))))
  (pss_cons (ps_set (i := 6) nd rfl (Or.inl rfl) (pe_op (op_catTK K) (pe_op (op_catTK K) (pe_tup (pa_cons (pv 5) pa_nil)) (pe_op (op_repTK K) (pe_tup (pa_cons pe_non pa_nil)) (pe_op op_sub (pb_lenK K T.b_len (pa_cons (pe_gr T.m_METAS) pa_nil)) pe_int))) (pe_tup (pa_cons (pe_op (op_repTK K) (pe_tup (pa_cons pe_int pa_nil)) (pv 2)) pa_nil))))
  (pss_one (ps_ret (pe_op (op_catTK K) (pe_op (op_repTK K) (pe_tup (pa_cons (pv 6) pa_nil)) (pv 4)) (pe_op (op_repTK K) (pe_tup (pa_cons pe_non pa_nil)) (pe_op op_sub (pe_gi T.m_MOST_DISKS) (pv 4))))))))))), ?_⟩
  obtain ⟨x, l, b, R, rfl, hx, hl, hb, hR2, hR20, q⟩ := h
  have hl1 := hl.1
  have hl2 := hl.2
  walk_at "go"
  refine ⟨x, _, rfl, .inl hx, (fits_lay l).le (by decide), fun x1 H1 e1 hx1 => ?_⟩
  obtain ⟨ax, rfl, hax⟩ := lay_open hx1
  have hge : b ≤ (R : Int) * (l.n - 1) := by
    have h4 : (R : Int) * 2 ≤ (R : Int) * (l.n - 1) := Int.mul_le_mul_of_nonneg_left (by omega) (by omega)
    omega
  walk_at "go"
  rw [decide_eq_false (by omega)]
  walk_at "go"
  intro p5 hp5
  walk_at "go"
  intro p6 hp6
  walk_at "go"
  intro p7 hp7
  walk_at "go"
  have q7 : SqT K (upd (upd (upd H1 p5 (.tup [.int 0, .int b, .ref ax, .non, .non, .int 0, .non, .non, .int 0])) p6 (.tup [.ref p5])) p7 (.tup [.non])) p7 [.non] := SqT.new hp7
  have q6 : SqT K (upd (upd (upd H1 p5 (.tup [.int 0, .int b, .ref ax, .non, .non, .int 0, .non, .non, .int 0])) p6 (.tup [.ref p5])) p7 (.tup [.non])) p6 [.ref p5] := by walk_at "sq"
  have q5 : SqT K (upd (upd (upd H1 p5 (.tup [.int 0, .int b, .ref ax, .non, .non, .int 0, .non, .non, .int 0])) p6 (.tup [.ref p5])) p7 (.tup [.non])) p5 [.int 0, .int b, .ref ax, .non, .non, .int 0, .non, .non, .int 0] := by walk_at "sq"
  have e7 : Same H1 (upd (upd (upd H1 p5 (.tup [.int 0, .int b, .ref ax, .non, .non, .int 0, .non, .non, .int 0])) p6 (.tup [.ref p5])) p7 (.tup [.non])) := by walk_at "sm"
  generalize (upd (upd (upd H1 p5 (.tup [.int 0, .int b, .ref ax, .non, .non, .int 0, .non, .non, .int 0])) p6 (.tup [.ref p5])) p7 (.tup [.non])) = H7 at q5 q6 q7 e7 ⊢
  refine rep_to (n := 2) q7 (by simp) (by decide) (by decide) (by simp) fun p8 H8 e8 q8 => ?_
  have q8 : SqT K H8 p8 [.non, .non] := q8
  walk_at "go"
  refine cat_to (SqT.tk q6 (tk_same e8)) q8 (by simp) (by simp) (Nat.le_of_ble_eq_true rfl) fun p9 H9 e9 q9 => ?_
  walk_at "go"
  intro p10 hp10
  have q10 : SqT K (upd H9 p10 (.tup [.int 0])) p10 [.int 0] := SqT.new hp10
  have e10 : Same H9 (upd H9 p10 (.tup [.int 0])) := same_new hp10
  generalize (upd H9 p10 (.tup [.int 0])) = H10 at q10 e10 ⊢
  walk_at "go"
  refine rep_to (n := R) q10 (by simp) hR2 (by omega) (by simp) fun p11 H11 e11 q11 => ?_
  rw [flatten_one] at q11
  walk_at "go"
  intro p12 hp12
  have q12 : SqT K (upd H11 p12 (.tup [.ref p11])) p12 [.ref p11] := SqT.new hp12
  have e12 : Same H11 (upd H11 p12 (.tup [.ref p11])) := same_new hp12
  generalize (upd H11 p12 (.tup [.ref p11])) = H12 at q12 e12 ⊢
  walk_at "go"
  have e912 := (e10.trans e11).trans e12
  refine cat_to (SqT.tk q9 (tk_same e912)) q12 (by simp) (by simp) (Nat.le_of_ble_eq_true rfl) fun p13 H13 e13 q13 => ?_
  walk_at "go"
  intro p14 hp14
  have q14 : SqT K (upd H13 p14 (.tup [.ref p13])) p14 [.ref p13] := SqT.new hp14
  have e14 : Same H13 (upd H13 p14 (.tup [.ref p13])) := same_new hp14
  generalize (upd H13 p14 (.tup [.ref p13])) = H14 at q14 e14 ⊢
  walk_at "go"
  refine rep_to (n := 6) q14 (by simp) (by decide) (by decide) (by simp) fun p15 H15 e15 q15 => ?_
  walk_at "go"
  intro p16 hp16
  have q16 : SqT K (upd H15 p16 (.tup [.non])) p16 [.non] := SqT.new hp16
  have e16 : Same H15 (upd H15 p16 (.tup [.non])) := same_new hp16
  generalize (upd H15 p16 (.tup [.non])) = H16 at q16 e16 ⊢
  walk_at "go"
  refine rep_to (n := 2) q16 (by simp) (by decide) (by decide) (by simp) fun p17 H17 e17 q17 => ?_
  walk_at "go"
  have e1517 := e16.trans e17
  refine cat_to (SqT.tk q15 (tk_same e1517)) q17 (by simp) (by simp) (Nat.le_of_ble_eq_true rfl) fun p18 H18 e18 q18 => ?_
  have e718 : Same H7 H18 := e8.trans (e9.trans (e912.trans (e13.trans (e14.trans (e15.trans (e1517.trans e18))))))
  have e018 : Same H H18 := e1.trans (e7.trans e718)
  have d5 : Rp K H18 (.ref p5) (sbNew l b).d := sb_rp (s := sbNew l b) (x := .ref ax) (y := .non) (SqT.tk q5 (tk_same e718)) (hx1.same (e7.trans e718)) .non
  have e1318 : Same H13 H18 := e14.trans (e15.trans (e1517.trans e18))
  have e1118 : Same H11 H18 := e12.trans (e13.trans e1318)
  have d13 : Rp K H18 (.ref p13) (diskNew l b R).d := .tup (SqT.tk q13 (tk_same e1318)) (.cons d5 (.cons .non (.cons .non (.cons (.tup (SqT.tk q11 (tk_same e1118)) (by
    show RpL K H18 _ ((List.replicate R (0 : Int)).map PyData.int)
    rw [List.map_replicate]
    exact rpl_rep (.int 0) R)) .nil))))
  refine q _ _ e018 (.tup q18 ?_)
  show RpL K H18 _ ((List.replicate 6 (diskNew l b R)).map DiskS.d ++ [.none, .none])
  exact .cons d13 (.cons d13 (.cons d13 (.cons d13 (.cons d13 (.cons d13 (.cons .non (.cons .non .nil)))))))


end
end WS
set_option Elab.async false
set_option linter.all false
set_option maxRecDepth 100000
set_option maxHeartbeats 4000000
namespace WS
open PySem PySem.Spec PyProof.Rows L2
local macro_rules | `(tactic| walk_at "tdg") => `(tactic| first | (apply tdg0; walk_at "at") | (apply tdg1; walk_at "at") | (apply tdg2; walk_at "at") | (apply tdg3; walk_at "at") | (apply tdg4; walk_at "at") | (apply tdg5; walk_at "at") | (apply tdg6; walk_at "at") | (apply tdg7; walk_at "at") | (apply tdg8; walk_at "at"))
local macro_rules | `(tactic| walk_at "no") => `(tactic| first | assumption | (apply no_by; assumption; walk_at "sm"))
local macro_rules | `(tactic| walk_at "sm") => `(tactic| first | exact Same.refl _ | assumption | (apply same_up; walk_at "no"; walk_at "sm") | (apply same_by; assumption; walk_at "sm"))
local macro_rules | `(tactic| walk_at "tk") => `(tactic| first | exact TK.refl | assumption | (apply tk_up; walk_at "no"; walk_at "tk") | (apply tk_by; assumption; walk_at "tk") | (apply tk_mv; assumption; walk_at "tk"))
local macro_rules | `(tactic| walk_at "mv") => `(tactic| first | exact Mv.refl | assumption | (apply mv_up; walk_at "no"; walk_at "mv") | (apply mv_mv; assumption; walk_at "mv") | (apply mv_by; assumption; walk_at "mv"))
local macro_rules | `(tactic| walk_at "ne") => `(tactic| first | assumption | (refine Ne.symm ?_; assumption))
local macro_rules | `(tactic| walk_at "at") => `(tactic| first | assumption | exact upd_same | (apply at_new; walk_at "no"; walk_at "at") | (apply at_ne; walk_at "ne"; walk_at "at") | (apply at_same; assumption; walk_at "at") | (apply at_mv; assumption; assumption; walk_at "at"))
local macro_rules | `(tactic| walk_at "rp") => `(tactic| first | assumption | exact Rp.non | exact Rp.int _ | exact Rp.str _ | (apply rp_tk; assumption; walk_at "tk"))
local macro_rules | `(tactic| walk_at "sq") => `(tactic| first | assumption | exact (‹Tx _ _›).t_METAS _ | exact (‹Tx _ _›).t_FIELDS _ | exact (‹Tx _ _›).t_LEFT _ | exact (‹Tx _ _›).t_SYMMETRIC _ | (apply SqT.of; walk_at "at") | (apply SqL.of; walk_at "at") | (apply sqt_tk; assumption; walk_at "tk") | (apply sql_sm; assumption; walk_at "sm"))
local macro_rules | `(tactic| walk_at "sd") => `(tactic| first | rfl | omega | assumption | decide)
local macro_rules | `(tactic| walk_at "fld") => `(tactic| first | refine ⟨_, _, _, _, _, rfl, (by walk_at "at" : _ = some _), (‹Tx _ _›).c_Cells, (‹Tx _ _›).n_Cells_disks, rfl, ?_⟩ | refine ⟨_, _, _, _, _, rfl, (by walk_at "at" : _ = some _), (‹Tx _ _›).c_Cells, (‹Tx _ _›).n_Cells_done, rfl, ?_⟩ | refine ⟨_, _, _, _, _, rfl, (by walk_at "at" : _ = some _), (‹Tx _ _›).c_Cells, (‹Tx _ _›).n_Cells_begun, rfl, ?_⟩ | refine ⟨_, _, _, _, _, rfl, (by walk_at "at" : _ = some _), (‹Tx _ _›).c_Cells, (‹Tx _ _›).n_Cells_is_loose, rfl, ?_⟩ | refine ⟨_, _, _, _, _, rfl, (by walk_at "at" : _ = some _), (‹Tx _ _›).c_State, (‹Tx _ _›).n_State_cells, rfl, ?_⟩ | refine ⟨_, _, _, _, _, rfl, (by walk_at "at" : _ = some _), (‹Tx _ _›).c_State, (‹Tx _ _›).n_State_own_superblock, rfl, ?_⟩ | refine ⟨_, _, _, _, _, rfl, (by walk_at "at" : _ = some _), (‹Tx _ _›).c_Array, (‹Tx _ _›).n_Array_state, rfl, ?_⟩)
local macro_rules | `(tactic| walk_at "w") => `(tactic| first | refine ⟨_, rfl, ⟨_, (by walk_at "sq" : SqT _ _ _ _)⟩, ?_⟩ | refine ⟨_, rfl, ⟨_, (by walk_at "sq" : SqL _ _ _ _)⟩, ?_⟩ | refine ⟨_, rfl, ?_⟩ | refine ⟨_, _, rfl, rfl, ?_⟩ | refine ⟨rfl, ?_⟩ | refine ⟨_, _, rfl, (by walk_at "sq" : SqT _ _ _ _), rfl, ?_⟩ | refine ⟨_, _, rfl, (by walk_at "sq" : SqT _ _ _ _), ?_⟩ | refine ⟨_, _, rfl, (by walk_at "sq" : SqL _ _ _ _), ?_⟩ | refine ⟨_, _, rfl, (by walk_at "tdg" : DGet _ _ _ _), ?_⟩ | refine ⟨_, _, rfl, ?_⟩ | refine ⟨_, _, _, _, rfl, rfl, (by walk_at "sq" : SqT _ _ _ _), rfl, ?_⟩ | refine ⟨_, _, rfl, .inl (by walk_at "sq" : SqL _ _ _ _), rfl, rfl, ?_⟩ | refine ⟨_, _, rfl, .inr (by walk_at "sq" : SqT _ _ _ _), rfl, rfl, ?_⟩ | refine ⟨_, _, rfl, .inl (by walk_at "sq" : SqL _ _ _ _), ?_⟩ | refine ⟨_, _, rfl, .inr (by walk_at "sq" : SqT _ _ _ _), ?_⟩ | refine ⟨_, _, rfl, (by walk_at "at" : _ = some (HO.dK _)), ?_⟩ | refine ⟨_, _, _, _, rfl, rfl, (by walk_at "sq" : SqL _ _ _ _), rfl, ?_⟩ | refine ⟨_, _, _, rfl, (by walk_at "at" : _ = some _), rfl, ?_⟩ | refine ⟨_, _, _, rfl, ?_⟩ | walk_at "fld" | refine ty_d (by walk_at "at") ?_ | refine ty_l (by walk_at "sq") ?_ | refine ty_t (‹Tx _ _›).z_FIELDS ?_ | refine And.intro (by first | omega | decide | exact Nat.le_of_ble_eq_true rfl | (unfold CDiv; omega) | (unfold CMul; omega)) ?_)
local macro_rules | `(tactic| walk_at "go") => `(tactic| repeat walk_at "w")
section
variable {P : Program} {w : World} {K : PySem.W.Frag} {mg : Str → Option Value} {base : Heap}

theorem pe_ikK {X : Cx} {c : Str} {ps : List Str} {k n : Nat} {sp : Sp} {e : Expr} {es : List Expr} {t : TA} {p pos : Pos} (G : IK P w K mg base c ps k sp) (hr : Room n X.A) (hk : k + 1 ≤ n) (ha : PA X (e :: es) t) (hg : Gl X c := by rfl)
    (h1 : X.prog = P := by rfl) (h2 : X.w = w := by rfl) (h3 : X.K = K := by rfl) (h4 : X.mg = mg := by rfl) (h5 : X.base = base := by rfl)
    (he : starEach (e :: es) X.env = (false, eval e X.env) :: starEach es X.env := by rfl) (hpl : (backTo pos (starEach es X.env)).any (·.1) = false := by rfl) : PE X (.Call (.Name c p) (e :: es) [] pos) (tMake (He.ga K c) sp [] E0 t) := by
  subst h1 h2 h3 h4 h5
  exact pe_ik G hr hk ha hg he hpl
/-- the table of greatest's code -/
def tabP (K : PySem.W.Frag) : Addr := (He.cT K ("greatest", none)).2
def lamQ : Str := "greatest.<locals>.<lambda>"
def TabK (K : PySem.W.Frag) (H : Hp) : Prop := LamX.TabS H (tabP K) lamQ
theorem TabK.mv {H H' : Hp} {F : List Addr} (h : TabK K H) (m : Mv K F H H') (n : tabP K ∉ F) : TabK K H' := by
  obtain ⟨ps, h1, h2, h3⟩ := h
  refine ⟨ps, m.at h1 n, h2, fun pos cv hc => ?_⟩
  obtain ⟨c, e1, e2⟩ := h3 pos cv hc
  exact ⟨c, e1, m.x _ _ e2⟩
theorem TabK.same {H H' : Hp} (h : TabK K H) (e : Same H H') : TabK K H' := h.ext e
def sp_greatest (K : PySem.W.Frag) : Sp := fun vs H Q _ => ∃ (A : Ad) (c : CeS) (s : SB), vs = [.ref A.cs] ∧ CellsAt K H A c ∧ (∀ d ∈ c.disks, d.m0 = s.d) ∧ TabK K H ∧ ∀ w H', Mv K [tabP K] H H' → TabK K H' → Rp K H' w s.d → Q w H'
def startS (l : Lay) (b : Int) (R : Nat) : ArrS := putSuper ⟨sbNew l b, ⟨disksNew l b R, disksNew l b R, [], false⟩⟩ { sbNew l b with num := 2 }
theorem new_ok {l : Lay} {b : Int} {R : Nat} : ∀ d ∈ disksNew l b R, d.ok R := fun d hd => by
  rw [List.eq_of_mem_replicate hd]
  exact ⟨by simp [diskNew], fits_sb _, trivial, trivial⟩
theorem start_ce {l : Lay} {b : Int} {R : Nat} (h2 : 2 ≤ R) (h20 : R ≤ 20) : CeS.ok ⟨disksNew l b R, disksNew l b R, [], false⟩ R :=
  ⟨by simp [disksNew], by simp [disksNew], new_ok, new_ok, by simp, rfl, h2, h20⟩
def sp_restart (K : PySem.W.Frag) : Sp := fun vs H Q _ => ∃ (v : V) (l : Lay) (b : Int) (R : Nat), vs = [v] ∧ Rp K H v (imgD (disksNew l b R)) ∧ l.ok ∧ 2 ≤ R ∧ R ≤ 20 ∧ TabK K H ∧
  ∀ H' (A : Ad), (∀ a, a = A.dl ∨ a ∈ A.F → H a = none) → Mv K [tabP K] H H' → TabK K H' → StateAt K H' A (startS l b R) → Q (.ref A.st) H'

theorem ok_restart (T : Tx K mg) (g_Cells_init : IK P w K mg base "Cells" ["self", "image"] 9 (sp_Cells_init K)) (g_State_init : IK P w K mg base "State" ["self", "cells", "superblock"] 1 (sp_State_init K)) (g_State_next_superblock : MK P w K mg base "State" "next_superblock" ["self", "step", "fields"] 2 (sp_State_next_superblock K)) (g_State_put_super : MK P w K mg base "State" "put_super" ["self", "superblock"] 4 (sp_State_put_super K)) (g_aside_values : GK P w K mg base "aside_values" ["state"] 2 (sp_aside_values K) []) (g_away : GK P w K mg base "away" ["state"] 2 (sp_away K) []) (g_finish_row : GK P w K mg base "finish_row" ["state", "values"] 1 (sp_finish_row K) []) (g_greatest : GK P w K mg base "greatest" ["cells"] 3 (sp_greatest K) []) (g_later : GK P w K mg base "later" ["plain", "other"] 1 (sp_later K) []) (g_named : GK P w K mg base "named" ["state", "fields", "gone"] 2 (sp_named K) []) (g_play_logs : GK P w K mg base "play_logs" ["state"] 5 (sp_play_logs K) []) (g_same_everywhere : GK P w K mg base "same_everywhere" ["state"] 4 (sp_same_everywhere K) []) : GK P w K mg base "restart" ["image"] 11 (sp_restart K) [] := gk_mk T.f_restart T.m_restart (by decide +kernel) sc_restart (fun _ _ _ _ _ _ us hl => match us, hl with | [_], _ => rfl) (fun _ _ _ _ h => by obtain ⟨_, _, _, _, rfl, _⟩ := h; rfl) fun cdv A outer s H vs Q E hr h => by
  have nd := sc_restart.nd
  refine ⟨_, (pss_cons (ps_set (i := 1) nd rfl (Or.inl rfl) (pe_ikK g_Cells_init hr (by decide) (pa_cons (pv 0) pa_nil)))
  (pss_cons (ps_set (i := 2) nd rfl (Or.inl rfl) (pe_ikK g_State_init hr (by decide) (pa_cons (pv 1) (pa_cons (pe_gkK g_greatest hr (by decide) (pa_cons (pv 1) pa_nil)) pa_nil))))
  (pss_cons (ps_set (i := 3) nd rfl (Or.inl rfl) (pe_gkK g_away hr (by decide) (pa_cons (pv 2) pa_nil)))
  (pss_cons (ps_if (pt_cmpR op_gt (pb_lenK K T.b_len (pa_cons (pv 3) pa_nil)) pe_int (nomark _)) pss_never pss_nil)
  (pss_cons (ps_set (i := 4) nd rfl (Or.inl rfl) (pe_gkK g_aside_values hr (by decide) (pa_cons (pv 2) pa_nil)))
  (pss_cons (ps_expr (pe_gkK g_same_everywhere hr (by decide) (pa_cons (pv 2) pa_nil)))
  (pss_cons (ps_set (i := 5) nd rfl (Or.inl rfl) (pe_gkK g_finish_row hr (by decide) (pa_cons (pv 2) (pa_cons (pv 4) pa_nil))))
  (pss_cons (ps_expr (pe_gkK g_play_logs hr (by decide) (pa_cons (pv 2) pa_nil)))
  (pss_cons (ps_set (i := 6) nd rfl (Or.inl rfl) (pe_mkK g_State_next_superblock hr (by decide) (pv 2) (pa_cons pe_int (pa_cons (pv 5) pa_nil))))
  (pss_cons (ps_expr (pe_mkK g_State_put_super hr (by decide) (pv 2) (pa_cons (pe_gkK g_later hr (by decide) (pa_cons (pv 6) (pa_cons (pe_mkK g_State_next_superblock hr (by decide) (pv 2) (pa_cons pe_int (pa_cons (pe_gkK g_named hr (by decide) (pa_cons (pv 2) (pa_cons (pv 5) (pa_cons (pe_ifExp (pt_cmpR op_gt (pb_lenK K T.b_len (pa_cons (pv 3) pa_nil)) pe_int (nomark _)) pe_never pe_non) pa_nil)))) pa_nil))) pa_nil))) pa_nil)))
  (pss_one (ps_ret (pv 2))))))))))))), ?_⟩
  obtain ⟨v, l, b, R, rfl, hv, hl, hR2, hR20, htab, q⟩ := h
  walk_at "go"
  intro cs dxc hcs hdxc hnc
  have e1 : Same H (upd (upd H dxc (.own cs)) cs (.ins (He.ga K "Cells") dxc [])) := (same_new hdxc).trans (same_new (by rw [upd_ne (Ne.symm hnc)]; exact hcs))
  have hx1 : (upd (upd H dxc (.own cs)) cs (.ins (He.ga K "Cells") dxc [])) cs = some (.ins (He.ga K "Cells") dxc []) := upd_same
  have hcsH := hcs
  generalize (upd (upd H dxc (.own cs)) cs (.ins (He.ga K "Cells") dxc [])) = H1 at e1 hx1 ⊢
  refine ⟨cs, dxc, v, disksNew l b R, R, rfl, hx1, hv.same e1, by simp [disksNew], new_ok, by omega, fun H2 dl dn as bv m2 hfr hce => ⟨rfl, ?_⟩⟩
  have ok0 := start_ce (l := l) (b := b) hR2 hR20
  have m02 : Mv K [cs] H H2 := (Mv.of_same e1).trans m2
  have hcsn : H cs = none := hcsH
  have s02 : Same H H2 := fun a o ha => m02.at ha (by simp only [List.mem_singleton]; exact fun z => by rw [z, hcsn] at ha; cases ha)
  have tab2 := htab.same s02
  walk_at "go"
  refine ⟨⟨0, 0, 0, 0, cs, dxc, dl, dn, as, bv⟩, _, sbNew l b, rfl, hce ⟨0, 0, 0, 0, cs, dxc, dl, dn, as, bv⟩ rfl rfl rfl rfl rfl rfl, fun d hd => by rw [List.eq_of_mem_replicate hd]; rfl, tab2, fun w H3 m3 tab3 hw => ?_⟩
  walk_at "go"
  intro st dxs hst hdxs hns
  have e4 : Same H3 (upd (upd H3 dxs (.own st)) st (.ins (He.ga K "State") dxs [])) := (same_new hdxs).trans (same_new (by rw [upd_ne (Ne.symm hns)]; exact hst))
  have hx4 : (upd (upd H3 dxs (.own st)) st (.ins (He.ga K "State") dxs [])) st = some (.ins (He.ga K "State") dxs []) := upd_same
  generalize (upd (upd H3 dxs (.own st)) st (.ins (He.ga K "State") dxs [])) = H4 at e4 hx4 ⊢
  refine ⟨st, dxs, cs, w, rfl, hx4, fun H5 m5 hx5 => ⟨rfl, ?_⟩⟩
  have hpt : ∃ ps, H (tabP K) = some (.tbl ps) := by obtain ⟨ps, h1, _⟩ := htab; exact ⟨ps, h1⟩
  obtain ⟨pst, hpt⟩ := hpt
  have nm : ∀ a, H a = none → a ≠ tabP K := fun a ha z => by rw [z, hpt] at ha; cases ha
  have free0 : ∀ a, a = dl ∨ a = dn ∨ a ∈ as → H a = none := fun a ha => e1.free (hfr a ha)
  have hce2 := hce ⟨0, 0, st, dxs, cs, dxc, dl, dn, as, bv⟩ rfl rfl rfl rfl rfl rfl
  have gfree : ∀ a ∈ Ad.G ⟨0, 0, st, dxs, cs, dxc, dl, dn, as, bv⟩, H a = none := fun a ha => by
    simp only [Ad.G, List.mem_cons] at ha
    rcases ha with z | z | z
    · rw [z]; exact hcsn
    · exact free0 a (.inr (.inl z))
    · exact free0 a (.inr (.inr z))
  have hce3 := hce2.to m3 (by simpa using nm dl (free0 dl (.inl rfl))) (fun a ha => by simpa using nm a (gfree a ha))
  have hce4 := hce3.same e4
  have hstG : st ∉ Ad.G ⟨0, 0, st, dxs, cs, dxc, dl, dn, as, bv⟩ := not_G hce3 hst
  have hstdl : st ≠ dl := fun z => by have := hce3.ds.dl; rw [← z, hst] at this; cases this
  have hce5 := hce4.to m5 (by simpa using fun z => hstdl z.symm) (fun a ha => by simp only [List.mem_singleton]; exact fun z => hstG (z ▸ ha))
  have hw5 := (hw.same e4).tk m5.t
  have hs5 : StateAt K H5 ⟨0, 0, st, dxs, cs, dxc, dl, dn, as, bv⟩ ⟨sbNew l b, ⟨disksNew l b R, disksNew l b R, [], false⟩⟩ := ⟨⟨w, hx5, hw5⟩, hce5, fun z => hstG (by rw [show st = cs from z]; simp [Ad.G])⟩
  have stH : H st = none := by
    cases q2 : H st with
    | none => rfl
    | some o =>
      have h3 := m3.at (s02 _ _ q2) (by simp only [List.mem_singleton]; exact fun z => by obtain ⟨ps, h1, _⟩ := tab3; rw [z, h1] at hst; cases hst)
      rw [hst] at h3
      cases h3
  have tab5 : TabK K H5 := (tab3.same e4).mv m5 (by simp only [List.mem_singleton]; exact fun z => by obtain ⟨ps, h1, _⟩ := tab3; rw [z, hst] at h1; cases h1)
  have m05 : Mv K [tabP K] H H5 := ⟨fun a o ha hn => m5.at (e4 _ _ (m3.at (s02 _ _ ha) hn)) (by simp only [List.mem_singleton]; exact fun z => by rw [z, stH] at ha; cases ha), ((tk_same s02).trans m3.t).trans ((tk_same e4).trans m5.t), fun b f h => m5.x b f (e4 _ _ (m3.x b f (s02 _ _ h)))⟩
  have hdm : ∀ d ∈ disksNew l b R, d.m0 = (sbNew l b).d ∧ d.m1 = .none := fun d hd => by rw [List.eq_of_mem_replicate hd]; exact ⟨rfl, rfl⟩
  walk_at "go"
  refine ⟨_, _, rfl, hs5, rfl, hl, fun p H6 hp e6 hp6 => ?_⟩
  have hs6 := hs5.same e6
  walk_at "go"
  refine ⟨_, _, rfl, hs6, rfl, ?_⟩
  walk_at "go"
  refine ⟨_, _, rfl, hs6, fun d hd => (hdm d hd).1, by simp, fun H7 m7 hs7 => ?_⟩
  have hs7 : StateAt K H7 ⟨0, 0, st, dxs, cs, dxc, dl, dn, as, bv⟩ ⟨sbNew l b, ⟨disksNew l b R, disksNew l b R, [], false⟩⟩ := hs7
  walk_at "go"
  intro pf hpf
  have hs8 := hs7.same (same_new (o := .dK []) hpf)
  have hpf8 : (upd H7 pf (.dK [])) pf = some (.dK []) := upd_same
  have e8 : Same H7 (upd H7 pf (.dK [])) := same_new hpf
  generalize (upd H7 pf (.dK [])) = H8 at hs8 hpf8 e8 ⊢
  walk_at "go"
  refine ⟨_, _, rfl, hs8, fun d hd => (hdm d hd).2, by simp, fun H9 m9 hs9 => ?_⟩
  have hs9 : StateAt K H9 ⟨0, 0, st, dxs, cs, dxc, dl, dn, as, bv⟩ ⟨sbNew l b, ⟨disksNew l b R, disksNew l b R, [], false⟩⟩ := hs9
  have hpfG := not_G hs7.ce hpf
  have hpf9 := m9.at hpf8 hpfG
  obtain ⟨v9, hst9, _⟩ := hs9.st
  walk_at "go"
  refine ⟨_, _, pf, .no, 2, rfl, hs9, hpf9, fun w1 H10 e10 hw1 => ?_⟩
  have hs10 := hs9.same e10
  obtain ⟨v10, hst10, _⟩ := hs10.st
  have hpf10 := e10 _ _ hpf9
  have e610 : H10 p = some (.lst []) := e10 _ _ (m9.at (e8 _ _ (m7.at hp6 (not_G hs5.ce hp))) (fun m => by
    have h1 := not_G hs5.ce hp
    exact h1 m))
  walk_at "go"
  rw [decide_eq_false (by simp)]
  walk_at "go"
  refine ⟨_, _, pf, rfl, hs10, hpf10, fun H11 e11 => ?_⟩
  have hs11 := hs10.same e11
  obtain ⟨v11, hst11, _⟩ := hs11.st
  walk_at "go"
  refine ⟨_, _, pf, .no, 3, rfl, hs11, e11 _ _ hpf10, fun w2 H12 e12 hw2 => ?_⟩
  have hs12 := hs11.same e12
  walk_at "go"
  refine ⟨w1, w2, sbNew l b, 0 + 2, 0 + 3, rfl, (hw1.same e11).same e12, hw2, fun H13 e13 => ?_⟩
  have hs13 := hs12.same e13
  obtain ⟨v13, hst13, _⟩ := hs13.st
  walk_at "go"
  refine ⟨_, _, { sbNew l b with num := 2 }, R, w1, rfl, hs13, ok0, ((hw1.same e11).same e12).same e13, by simp, fun H14 m14 hs14 => ?_⟩
  walk_at "go"
  have mG : Mv K (Ad.F ⟨0, 0, st, dxs, cs, dxc, dl, dn, as, bv⟩) H5 H14 := (Mv.of_same e6).trans ((m7.sub F_of_G).trans ((Mv.of_same e8).trans ((m9.sub F_of_G).trans ((Mv.of_same (e10.trans (e11.trans (e12.trans e13)))).trans m14))))
  have Ffree : ∀ a ∈ Ad.F ⟨0, 0, st, dxs, cs, dxc, dl, dn, as, bv⟩, H a = none := fun a ha => by
    simp only [Ad.F, List.mem_cons] at ha
    rcases ha with z | z | z | z
    · rw [z]; exact stH
    · rw [z]; exact hcsn
    · exact free0 a (.inr (.inl z))
    · exact free0 a (.inr (.inr z))
  refine q H14 ⟨0, 0, st, dxs, cs, dxc, dl, dn, as, bv⟩ ?_ ⟨fun a o ha hn => mG.at (m05.at ha hn) (fun z => by rw [Ffree a z] at ha; cases ha), m05.t.trans mG.t, fun b f h => mG.x b f (m05.x b f h)⟩ (tab5.mv mG (fun z => nm _ (Ffree _ z) rfl)) hs14
  rintro a (z | z)
  · rw [z]; exact free0 dl (.inl rfl)
  · exact Ffree a z

theorem StateAt.re {H : Hp} {A : Ad} {S : ArrS} (h : StateAt K H A S) (x dx : Addr) : StateAt K H { A with arr := x, dxa := dx } S := ⟨h.st, ⟨h.ce.cs, h.ce.ds, h.ce.dn, h.ce.bv, h.ce.ne⟩, h.ne⟩
def sp_Array_init (K : PySem.W.Frag) : Sp := fun vs H Q _ => ∃ (x dx : Addr) (v : V) (l : Lay) (b : Int) (R : Nat), vs = [.ref x, v] ∧ H x = some (.ins (He.ga K "Array") dx []) ∧ Rp K H v (imgD (disksNew l b R)) ∧ l.ok ∧ 2 ≤ R ∧ R ≤ 20 ∧ TabK K H ∧
  ∀ H' (A : Ad), A.arr = x → (∀ a, a = A.dl ∨ a ∈ A.F → H a = none) → Mv K [x, tabP K] H H' → TabK K H' → ArrAt K H' A (startS l b R) → Q .non H'

theorem ok_Array_init (T : Tx K mg) (g_restart : GK P w K mg base "restart" ["image"] 11 (sp_restart K) []) : IK P w K mg base "Array" ["self", "image"] 12 (sp_Array_init K) := ik_mk T.f_Array_init T.k_Array T.m_Array (by decide +kernel) sc_Array_init (fun _ _ _ _ _ _ us hl => match us, hl with | [_, _], _ => rfl) (fun _ _ _ _ h => by obtain ⟨_, _, _, _, _, _, rfl, _⟩ := h; rfl) fun cdv A outer s H vs Q E hr h => by
  have nd := sc_Array_init.nd
  refine ⟨_, (pss_one (ps_fld (pv 0) (pe_gkK g_restart hr (by decide) (pa_cons (pv 1) pa_nil)) rfl)), ?_⟩
  obtain ⟨x, dx, v, l, b, R, rfl, hx, hv, hl, hR2, hR20, htab, q⟩ := h
  walk_at "go"
  refine ⟨v, l, b, R, rfl, hv, hl, hR2, hR20, htab, fun H1 A hfr m1 tab1 hs1 => ?_⟩
  have hxt : x ≠ tabP K := fun z => by obtain ⟨ps, h1, _⟩ := htab; rw [← z, hx] at h1; cases h1
  have hx1 := m1.at hx (by simpa using hxt)
  have hxF : ∀ a, a = A.dl ∨ a ∈ A.F → a ≠ x := fun a ha z => by have := hfr a ha; rw [z, hx] at this; cases this
  walk_at "go"
  refine ⟨_, _, _, _, rfl, hx1, T.c_Array, T.n_Array_state, Nat.le_of_ble_eq_true rfl, ?_⟩
  have m2 : Mv K [x] H1 (upd H1 x (.ins (He.ga K "Array") dx (putF "state" (.ref A.st) []))) := Mv.ins hx1 (by simp)
  have hs2 := hs1.to m2 (by simpa using hxF A.dl (.inl rfl)) (fun a ha => by simpa using hxF a (.inr ha))
  refine q _ { A with arr := x, dxa := dx } rfl hfr ((m1.sub (by simp)).trans (m2.sub (by simp))) (tab1.mv m2 (by simpa using hxt.symm)) ⟨upd_same, hs2.re x dx, fun z => hxF A.st (.inr (by simp [Ad.F])) z.symm, fun z => hxF A.cs (.inr (by simp [Ad.F])) z.symm⟩


end
end WS
set_option Elab.async false
set_option linter.all false
set_option maxRecDepth 100000
set_option maxHeartbeats 4000000
namespace WS
open PySem PySem.Spec PyProof.Rows L2
local macro_rules | `(tactic| walk_at "tdg") => `(tactic| first | (apply tdg0; walk_at "at") | (apply tdg1; walk_at "at") | (apply tdg2; walk_at "at") | (apply tdg3; walk_at "at") | (apply tdg4; walk_at "at") | (apply tdg5; walk_at "at") | (apply tdg6; walk_at "at") | (apply tdg7; walk_at "at") | (apply tdg8; walk_at "at"))
local macro_rules | `(tactic| walk_at "no") => `(tactic| first | assumption | (apply no_by; assumption; walk_at "sm"))
local macro_rules | `(tactic| walk_at "sm") => `(tactic| first | exact Same.refl _ | assumption | (apply same_up; walk_at "no"; walk_at "sm") | (apply same_by; assumption; walk_at "sm"))
local macro_rules | `(tactic| walk_at "tk") => `(tactic| first | exact TK.refl | assumption | (apply tk_up; walk_at "no"; walk_at "tk") | (apply tk_by; assumption; walk_at "tk") | (apply tk_mv; assumption; walk_at "tk"))
local macro_rules | `(tactic| walk_at "mv") => `(tactic| first | exact Mv.refl | assumption | (apply mv_up; walk_at "no"; walk_at "mv") | (apply mv_mv; assumption; walk_at "mv") | (apply mv_by; assumption; walk_at "mv"))
local macro_rules | `(tactic| walk_at "ne") => `(tactic| first | assumption | (refine Ne.symm ?_; assumption))
local macro_rules | `(tactic| walk_at "at") => `(tactic| first | assumption | exact upd_same | (apply at_new; walk_at "no"; walk_at "at") | (apply at_ne; walk_at "ne"; walk_at "at") | (apply at_same; assumption; walk_at "at") | (apply at_mv; assumption; assumption; walk_at "at"))
local macro_rules | `(tactic| walk_at "rp") => `(tactic| first | assumption | exact Rp.non | exact Rp.int _ | exact Rp.str _ | (apply rp_tk; assumption; walk_at "tk"))
local macro_rules | `(tactic| walk_at "sq") => `(tactic| first | assumption | exact (‹Tx _ _›).t_METAS _ | exact (‹Tx _ _›).t_FIELDS _ | exact (‹Tx _ _›).t_LEFT _ | exact (‹Tx _ _›).t_SYMMETRIC _ | (apply SqT.of; walk_at "at") | (apply SqL.of; walk_at "at") | (apply sqt_tk; assumption; walk_at "tk") | (apply sql_sm; assumption; walk_at "sm"))
local macro_rules | `(tactic| walk_at "sd") => `(tactic| first | rfl | omega | assumption | decide)
local macro_rules | `(tactic| walk_at "fld") => `(tactic| first | refine ⟨_, _, _, _, _, rfl, (by walk_at "at" : _ = some _), (‹Tx _ _›).c_Cells, (‹Tx _ _›).n_Cells_disks, rfl, ?_⟩ | refine ⟨_, _, _, _, _, rfl, (by walk_at "at" : _ = some _), (‹Tx _ _›).c_Cells, (‹Tx _ _›).n_Cells_done, rfl, ?_⟩ | refine ⟨_, _, _, _, _, rfl, (by walk_at "at" : _ = some _), (‹Tx _ _›).c_Cells, (‹Tx _ _›).n_Cells_begun, rfl, ?_⟩ | refine ⟨_, _, _, _, _, rfl, (by walk_at "at" : _ = some _), (‹Tx _ _›).c_Cells, (‹Tx _ _›).n_Cells_is_loose, rfl, ?_⟩ | refine ⟨_, _, _, _, _, rfl, (by walk_at "at" : _ = some _), (‹Tx _ _›).c_State, (‹Tx _ _›).n_State_cells, rfl, ?_⟩ | refine ⟨_, _, _, _, _, rfl, (by walk_at "at" : _ = some _), (‹Tx _ _›).c_State, (‹Tx _ _›).n_State_own_superblock, rfl, ?_⟩ | refine ⟨_, _, _, _, _, rfl, (by walk_at "at" : _ = some _), (‹Tx _ _›).c_Array, (‹Tx _ _›).n_Array_state, rfl, ?_⟩)
local macro_rules | `(tactic| walk_at "w") => `(tactic| first | refine ⟨_, rfl, ⟨_, (by walk_at "sq" : SqT _ _ _ _)⟩, ?_⟩ | refine ⟨_, rfl, ⟨_, (by walk_at "sq" : SqL _ _ _ _)⟩, ?_⟩ | refine ⟨_, rfl, ?_⟩ | refine ⟨_, _, rfl, rfl, ?_⟩ | refine ⟨rfl, ?_⟩ | refine ⟨_, _, rfl, (by walk_at "sq" : SqT _ _ _ _), rfl, ?_⟩ | refine ⟨_, _, rfl, (by walk_at "sq" : SqT _ _ _ _), ?_⟩ | refine ⟨_, _, rfl, (by walk_at "sq" : SqL _ _ _ _), ?_⟩ | refine ⟨_, _, rfl, (by walk_at "tdg" : DGet _ _ _ _), ?_⟩ | refine ⟨_, _, rfl, ?_⟩ | refine ⟨_, _, _, _, rfl, rfl, (by walk_at "sq" : SqT _ _ _ _), rfl, ?_⟩ | refine ⟨_, _, rfl, .inl (by walk_at "sq" : SqL _ _ _ _), rfl, rfl, ?_⟩ | refine ⟨_, _, rfl, .inr (by walk_at "sq" : SqT _ _ _ _), rfl, rfl, ?_⟩ | refine ⟨_, _, rfl, .inl (by walk_at "sq" : SqL _ _ _ _), ?_⟩ | refine ⟨_, _, rfl, .inr (by walk_at "sq" : SqT _ _ _ _), ?_⟩ | refine ⟨_, _, rfl, (by walk_at "at" : _ = some (HO.dK _)), ?_⟩ | refine ⟨_, _, _, _, rfl, rfl, (by walk_at "sq" : SqL _ _ _ _), rfl, ?_⟩ | refine ⟨_, _, _, rfl, (by walk_at "at" : _ = some _), rfl, ?_⟩ | refine ⟨_, _, _, rfl, ?_⟩ | walk_at "fld" | refine ty_d (by walk_at "at") ?_ | refine ty_l (by walk_at "sq") ?_ | refine ty_t (‹Tx _ _›).z_FIELDS ?_ | refine And.intro (by first | omega | decide | exact Nat.le_of_ble_eq_true rfl | (unfold CDiv; omega) | (unfold CMul; omega)) ?_)
local macro_rules | `(tactic| walk_at "go") => `(tactic| repeat walk_at "w")
section
variable {P : Program} {w : World} {K : PySem.W.Frag} {mg : Str → Option Value} {base : Heap}

def BoxAt (H : Hp) (bx : Addr) (n : Nat) : Prop := ∃ b0 b1 b2 : Int, H bx = some (.lst [.int b0, .int b1, .int b2]) ∧ 0 ≤ b0 ∧ 0 ≤ b1 ∧ b1 < 2 ^ 62 ∧ 0 ≤ b2 ∧ b2 ≤ n
theorem BoxAt.le {H : Hp} {bx : Addr} {n m : Nat} (h : BoxAt H bx n) (e : n ≤ m) : BoxAt H bx m := by
  obtain ⟨b0, b1, b2, h1, h2, h3, h4, h5, h6⟩ := h
  exact ⟨b0, b1, b2, h1, h2, h3, h4, h5, by omega⟩
theorem BoxAt.mv {H H' : Hp} {F : List Addr} {bx : Addr} {n : Nat} (h : BoxAt H bx n) (m : Mv K F H H') (hn : bx ∉ F) : BoxAt H' bx n := by
  obtain ⟨b0, b1, b2, h1, h2⟩ := h
  exact ⟨b0, b1, b2, m.at h1 hn, h2⟩
theorem BoxAt.same {H H' : Hp} {bx : Addr} {n : Nat} (h : BoxAt H bx n) (e : Same H H') : BoxAt H' bx n := by
  obtain ⟨b0, b1, b2, h1, h2⟩ := h
  exact ⟨b0, b1, b2, e _ _ h1, h2⟩
def sp_L_take (K : PySem.W.Frag) : Sp := fun vs H Q _ => ∃ (bx : Addr) (n : Nat) (many : Int), vs = [.ref bx, .int many] ∧ BoxAt H bx n ∧ 0 < many ∧ many < 1000000 ∧ n ≤ 1000000 ∧
  ∀ r H', 0 ≤ r → r < many → Mv K [bx] H H' → BoxAt H' bx (n + 1) → Q (.int r) H'

theorem ok_L_take (T : Tx K mg)  : GK P w K mg base "_law_take" ["_law_box_here", "_law_many"] 1 (sp_L_take K) [] := gk_mk T.f_L_take T.m_L_take (by decide +kernel) sc_L_take (fun _ _ _ _ _ _ us hl => match us, hl with | [_, _], _ => rfl) (fun _ _ _ _ h => by obtain ⟨_, _, _, rfl, _⟩ := h; rfl) fun cdv A outer s H vs Q E hr h => by
  have nd := sc_L_take.nd
  refine ⟨_, (pss_cons (ps_if (pt_cmpR op_gt (pe_ix (ix_listK K) (pv 0) pe_int (fun _ _ => rfl)) pe_int (nomark _)) (pss_cons (ps_set (i := 2) nd rfl (Or.inl rfl) (pe_op op_mod (pe_ix (ix_listK K) (pv 0) pe_int (fun _ _ => rfl)) (pv 1)))
  (pss_cons (ps_asg (pe_op op_fdiv (pe_ix (ix_listK K) (pv 0) pe_int (fun _ _ => rfl)) (pv 1)) (pg_sub (pv 0) pe_int set_list))
  (pss_one (ps_ret (pv 2))))) pss_nil)
  (pss_cons (ps_asg (pe_op op_add (pe_ix (ix_listK K) (pv 0) pe_int (fun _ _ => rfl)) pe_int) (pg_sub (pv 0) pe_int set_list))
  (pss_cons (ps_set (i := 3) nd rfl (Or.inl rfl) (pe_op op_mod (pe_op op_mul (pe_op op_add (pe_ix (ix_listK K) (pv 0) pe_int (fun _ _ => rfl)) (pe_op op_mul pe_int (pe_ix (ix_listK K) (pv 0) pe_int (fun _ _ => rfl)))) (pe_op op_add pe_int (pe_ix (ix_listK K) (pv 0) pe_int (fun _ _ => rfl)))) pe_int))
  (pss_cons (ps_set (i := 4) nd rfl (Or.inl rfl) (pe_op op_mod (pe_op op_mul (pe_op op_add (pe_op op_add (pv 3) (pe_ix (ix_listK K) (pv 0) pe_int (fun _ _ => rfl))) (pe_op op_fdiv (pe_ix (ix_listK K) (pv 0) pe_int (fun _ _ => rfl)) pe_int)) (pe_op op_add (pe_op op_mod (pv 3) pe_int) pe_int)) pe_int))
  (pss_one (ps_ret (pe_op op_mod (pe_op op_fdiv (pe_op op_mod (pe_op op_add (pe_op op_mul (pv 4) pe_int) (pv 3)) pe_int) pe_int) (pv 1)))))))), ?_⟩
  obtain ⟨bx, n, many, rfl, hb, hm, hm2, hn, q⟩ := h
  obtain ⟨b0, b1, b2, h1, h2, h3, h4, h5, h6⟩ := hb
  have mvb : ∀ o, Mv K [bx] H (upd H bx o) := fun o => Mv.lst h1 (by simp)
  walk_at "go"
  by_cases h0 : 0 < b0
  · rw [decide_eq_true h0]
    walk_at "go"
    refine ⟨_, _, _, 0, rfl, rfl, h1, rfl, ?_⟩
    have hr0 := Int.emod_nonneg b0 (show many ≠ 0 by omega)
    have hr1 := Int.emod_lt_of_pos b0 hm
    walk_at "go"
    exact q _ _ hr0 hr1 (mvb _) ⟨b0 / many, b1, b2, upd_same, Int.ediv_nonneg h2 (by omega), h3, h4, h5, by omega⟩
  · rw [decide_eq_false h0]
    walk_at "go"
    refine ⟨_, _, _, 2, rfl, rfl, h1, rfl, ?_⟩
    have hx1 : (upd H bx (.lst (([.int b0, .int b1, .int b2] : List V).set 2 (.int (b2 + 1))))) bx = some (.lst [.int b0, .int b1, .int (b2 + 1)]) := upd_same
    have m1 := mvb (.lst (([.int b0, .int b1, .int b2] : List V).set 2 (.int (b2 + 1))))
    generalize (upd H bx (.lst (([.int b0, .int b1, .int b2] : List V).set 2 (.int (b2 + 1))))) = H1 at hx1 m1 ⊢
    walk_at "go"
    exact q _ _ (Int.emod_nonneg _ (show many ≠ 0 by omega)) (Int.emod_lt_of_pos _ hm) m1 ⟨b0, b1, b2 + 1, hx1, h2, h3, h4, by omega, by omega⟩

def sp_L_pick (K : PySem.W.Frag) : Sp := fun vs H Q _ => ∃ (bx a : Addr) (n : Nat) (xs : List V), vs = [.ref bx, .ref a] ∧ BoxAt H bx n ∧ H a = some (.lst xs) ∧ a ≠ bx ∧ 0 < xs.length ∧ xs.length < 1000000 ∧ n ≤ 1000000 ∧
  ∀ v H', v ∈ xs → Mv K [bx] H H' → BoxAt H' bx (n + 1) → Q v H'

theorem ok_L_pick (T : Tx K mg) (g_L_take : GK P w K mg base "_law_take" ["_law_box_here", "_law_many"] 1 (sp_L_take K) []) : GK P w K mg base "_law_pick" ["_law_box_here", "_law_some"] 2 (sp_L_pick K) [] := gk_mk T.f_L_pick T.m_L_pick (by decide +kernel) sc_L_pick (fun _ _ _ _ _ _ us hl => match us, hl with | [_, _], _ => rfl) (fun _ _ _ _ h => by obtain ⟨_, _, _, _, rfl, _⟩ := h; rfl) fun cdv A outer s H vs Q E hr h => by
  have nd := sc_L_pick.nd
  refine ⟨_, (pss_one (ps_ret (pe_ix (ix_listK K) (pv 1) (pe_gkK g_L_take hr (by decide) (pa_cons (pv 0) (pa_cons (pb_lenK K T.b_len (pa_cons (pv 1) pa_nil)) pa_nil))) (fun _ _ => rfl)))), ?_⟩
  obtain ⟨bx, a, n, xs, rfl, hb, ha, hne, hl0, hl1, hn, q⟩ := h
  walk_at "go"
  refine ⟨bx, n, _, rfl, hb, by omega, by omega, hn, fun r H1 hr0 hr1 m1 hb1 => ?_⟩
  have ha1 := m1.at ha (by simpa using hne)
  have hrn : r.toNat < xs.length := by omega
  have hat : atI xs r = some xs[r.toNat] := by
    unfold atI ixN
    rw [if_pos hr0, if_pos (by omega)]
    exact List.getElem?_eq_getElem hrn
  refine ⟨_, _, _, _, rfl, rfl, SqL.of ha1, hat, ?_⟩
  exact q _ _ (List.getElem_mem hrn) m1 hb1

def sp_L_cell_at (K : PySem.W.Frag) : Sp := fun vs H Q _ => ∃ (a : Addr) (ns : List Int) (k : Nat), vs = [.ref a, .int k] ∧ SqL K H a (ns.map V.int) ∧ ∀ i, Q (.int i) H

theorem ok_L_cell_at (T : Tx K mg)  : GK P w K mg base "_law_cell_at" ["_law_script", "_law_k"] 1 (sp_L_cell_at K) [] := gk_mk T.f_L_cell_at T.m_L_cell_at (by decide +kernel) sc_L_cell_at (fun _ _ _ _ _ _ us hl => match us, hl with | [_, _], _ => rfl) (fun _ _ _ _ h => by obtain ⟨_, _, _, rfl, _⟩ := h; rfl) fun cdv A outer s H vs Q E hr h => by
  have nd := sc_L_cell_at.nd
  refine ⟨_, (pss_one (ps_ret (pe_ifExp (pt_cmpR op_lt (pv 1) (pb_lenK K T.b_len (pa_cons (pv 0) pa_nil)) (nomark _)) (pe_ix (ix_listK K) (pv 0) (pv 1) (fun _ _ => rfl)) pe_int))), ?_⟩
  obtain ⟨a, ns, k, rfl, ha, q⟩ := h
  walk_at "go"
  by_cases hk : k < ns.length
  · rw [decide_eq_true (by simpa using hk)]
    walk_at "go"
    have hat : atI (ns.map V.int) (k : Int) = some (.int ns[k]) := by
      unfold atI ixN
      rw [if_pos (by omega), if_pos (by simpa using hk)]
      show (ns.map V.int)[(k : Int).toNat]? = _
      rw [Int.toNat_natCast, List.getElem?_map, List.getElem?_eq_getElem hk]
      rfl
    exact ⟨_, _, _, _, rfl, rfl, ha, hat, q _⟩
  · rw [decide_eq_false (by simpa using hk)]
    walk_at "go"
    exact q _

def sp_L_box (K : PySem.W.Frag) : Sp := fun vs H Q _ => ∃ (a : Addr) (ns : List Int) (k : Nat), vs = [.ref a, .int k] ∧ SqL K H a (ns.map V.int) ∧ k ≤ 10 ∧ ∀ p H', H p = none → Same H H' → BoxAt H' p 0 → Q (.ref p) H'

theorem ok_L_box (T : Tx K mg) (g_L_cell_at : GK P w K mg base "_law_cell_at" ["_law_script", "_law_k"] 1 (sp_L_cell_at K) []) : GK P w K mg base "_law_box" ["_law_script", "_law_k"] 2 (sp_L_box K) [] := gk_mk T.f_L_box T.m_L_box (by decide +kernel) sc_L_box (fun _ _ _ _ _ _ us hl => match us, hl with | [_, _], _ => rfl) (fun _ _ _ _ h => by obtain ⟨_, _, _, rfl, _⟩ := h; rfl) fun cdv A outer s H vs Q E hr h => by
  have nd := sc_L_box.nd
  refine ⟨_, (pss_cons (ps_set (i := 2) nd rfl (Or.inl rfl) (pe_gkK g_L_cell_at hr (by decide) (pa_cons (pv 0) (pa_cons (pv 1) pa_nil))))
  (pss_one (ps_ret (pe_lst (pa_cons (pe_op op_mul (pb_abs T.b_abs (pa_cons (pv 2) pa_nil)) (pb_int T.b_int (pa_cons (pe_cmpR op_ge (pb_abs T.b_abs (pa_cons (pv 2) pa_nil)) (pe_op op_pow pe_int pe_int) (nomark _)) pa_nil))) (pa_cons (pe_op op_add (pe_op op_add (pe_op op_mod (pv 2) pe_int) (pe_op op_mul pe_int (pv 1))) pe_int) (pa_cons pe_int pa_nil))))))), ?_⟩
  obtain ⟨a, ns, k, rfl, ha, hk, q⟩ := h
  walk_at "go"
  refine ⟨a, ns, k, rfl, ha, fun i => ?_⟩
  walk_at "go"
  refine ⟨⟨by decide, by decide, by decide⟩, ?_⟩
  generalize habs : (if i < 0 then -i else i) = ab
  have hab0 : 0 ≤ ab := by rw [← habs]; split <;> omega
  walk_at "go"
  refine .inr ⟨_, rfl, ?_⟩
  generalize hq : (decide ((10 : Int) ^ (18 : Int).toNat ≤ ab)) = cb
  refine ⟨_, _, rfl, rfl, .inr ?_, ?_⟩
  · split <;> omega
  walk_at "go"
  intro p hp
  have hm0 := Int.emod_nonneg i (show (2305843009213693951 : Int) ≠ 0 by decide)
  have hm1 := Int.emod_lt_of_pos i (show (0 : Int) < 2305843009213693951 by decide)
  refine q p _ hp (same_new hp) ⟨_, _, _, upd_same, ?_, ?_, ?_, Int.le_refl _, by simp⟩
  · exact Int.mul_nonneg hab0 (by split <;> omega)
  · omega
  · omega

def sp_L_parity (K : PySem.W.Frag) : Sp := fun vs H Q _ => ∃ (x : V) (l : Lay) (row : Int), vs = [x, .int row] ∧ Rp K H x l.d ∧ 0 < l.n ∧ ∀ H', Same H H' → Q (.int (par l row)) H'

theorem ok_L_parity (T : Tx K mg)  : GK P w K mg base "_law_parity" ["_law_shape_here", "_law_line"] 1 (sp_L_parity K) [] := gk_mk T.f_L_parity T.m_L_parity (by decide +kernel) sc_L_parity (fun _ _ _ _ _ _ us hl => match us, hl with | [_, _], _ => rfl) (fun _ _ _ _ h => by obtain ⟨_, _, _, rfl, _⟩ := h; rfl) fun cdv A outer s H vs Q E hr h => by
  have nd := sc_L_parity.nd
  refine ⟨_, (pss_cons (ps_asg (pv 0) (pg_tupK K 2 rfl (pgs_cons (pg_name (i := 2) nd rfl (Or.inl rfl)) (pgs_cons (pg_name (i := 3) nd rfl (Or.inl rfl)) pgs_nil))))
  (pss_one (ps_ret (pe_ifExp (pt_cmpR op_eq (pe_slice sl_str (pv 3) po_none (po_some pe_int)) pe_str (nomark _)) (pe_op op_sub (pe_op op_sub (pv 2) pe_int) (pe_op op_mod (pv 1) (pv 2))) (pe_op op_mod (pv 1) (pv 2)))))), ?_⟩
  obtain ⟨x, l, row, rfl, hx, hn, q⟩ := h
  obtain ⟨a, rfl, hs⟩ := lay_open hx
  unfold par at q
  rcases l with ⟨n, r⟩
  cases r
  all_goals
    walk_at "go"
    exact q _ (Same.refl _)


end
end WS
set_option Elab.async false
set_option linter.all false
set_option maxRecDepth 100000
set_option maxHeartbeats 4000000
namespace WS
open PySem PySem.Spec PyProof.Rows L2
local macro_rules | `(tactic| walk_at "tdg") => `(tactic| first | (apply tdg0; walk_at "at") | (apply tdg1; walk_at "at") | (apply tdg2; walk_at "at") | (apply tdg3; walk_at "at") | (apply tdg4; walk_at "at") | (apply tdg5; walk_at "at") | (apply tdg6; walk_at "at") | (apply tdg7; walk_at "at") | (apply tdg8; walk_at "at"))
local macro_rules | `(tactic| walk_at "no") => `(tactic| first | assumption | (apply no_by; assumption; walk_at "sm"))
local macro_rules | `(tactic| walk_at "sm") => `(tactic| first | exact Same.refl _ | assumption | (apply same_up; walk_at "no"; walk_at "sm") | (apply same_by; assumption; walk_at "sm"))
local macro_rules | `(tactic| walk_at "tk") => `(tactic| first | exact TK.refl | assumption | (apply tk_up; walk_at "no"; walk_at "tk") | (apply tk_by; assumption; walk_at "tk") | (apply tk_mv; assumption; walk_at "tk"))
local macro_rules | `(tactic| walk_at "mv") => `(tactic| first | exact Mv.refl | assumption | (apply mv_up; walk_at "no"; walk_at "mv") | (apply mv_mv; assumption; walk_at "mv") | (apply mv_by; assumption; walk_at "mv"))
local macro_rules | `(tactic| walk_at "ne") => `(tactic| first | assumption | (refine Ne.symm ?_; assumption))
local macro_rules | `(tactic| walk_at "at") => `(tactic| first | assumption | exact upd_same | (apply at_new; walk_at "no"; walk_at "at") | (apply at_ne; walk_at "ne"; walk_at "at") | (apply at_same; assumption; walk_at "at") | (apply at_mv; assumption; assumption; walk_at "at"))
local macro_rules | `(tactic| walk_at "rp") => `(tactic| first | assumption | exact Rp.non | exact Rp.int _ | exact Rp.str _ | (apply rp_tk; assumption; walk_at "tk"))
local macro_rules | `(tactic| walk_at "sq") => `(tactic| first | assumption | exact (‹Tx _ _›).t_METAS _ | exact (‹Tx _ _›).t_FIELDS _ | exact (‹Tx _ _›).t_LEFT _ | exact (‹Tx _ _›).t_SYMMETRIC _ | (apply SqT.of; walk_at "at") | (apply SqL.of; walk_at "at") | (apply sqt_tk; assumption; walk_at "tk") | (apply sql_sm; assumption; walk_at "sm"))
local macro_rules | `(tactic| walk_at "sd") => `(tactic| first | rfl | omega | assumption | decide)
local macro_rules | `(tactic| walk_at "fld") => `(tactic| first | refine ⟨_, _, _, _, _, rfl, (by walk_at "at" : _ = some _), (‹Tx _ _›).c_Cells, (‹Tx _ _›).n_Cells_disks, rfl, ?_⟩ | refine ⟨_, _, _, _, _, rfl, (by walk_at "at" : _ = some _), (‹Tx _ _›).c_Cells, (‹Tx _ _›).n_Cells_done, rfl, ?_⟩ | refine ⟨_, _, _, _, _, rfl, (by walk_at "at" : _ = some _), (‹Tx _ _›).c_Cells, (‹Tx _ _›).n_Cells_begun, rfl, ?_⟩ | refine ⟨_, _, _, _, _, rfl, (by walk_at "at" : _ = some _), (‹Tx _ _›).c_Cells, (‹Tx _ _›).n_Cells_is_loose, rfl, ?_⟩ | refine ⟨_, _, _, _, _, rfl, (by walk_at "at" : _ = some _), (‹Tx _ _›).c_State, (‹Tx _ _›).n_State_cells, rfl, ?_⟩ | refine ⟨_, _, _, _, _, rfl, (by walk_at "at" : _ = some _), (‹Tx _ _›).c_State, (‹Tx _ _›).n_State_own_superblock, rfl, ?_⟩ | refine ⟨_, _, _, _, _, rfl, (by walk_at "at" : _ = some _), (‹Tx _ _›).c_Array, (‹Tx _ _›).n_Array_state, rfl, ?_⟩)
local macro_rules | `(tactic| walk_at "w") => `(tactic| first | refine ⟨_, rfl, ⟨_, (by walk_at "sq" : SqT _ _ _ _)⟩, ?_⟩ | refine ⟨_, rfl, ⟨_, (by walk_at "sq" : SqL _ _ _ _)⟩, ?_⟩ | refine ⟨_, rfl, ?_⟩ | refine ⟨_, _, rfl, rfl, ?_⟩ | refine ⟨rfl, ?_⟩ | refine ⟨_, _, rfl, (by walk_at "sq" : SqT _ _ _ _), rfl, ?_⟩ | refine ⟨_, _, rfl, (by walk_at "sq" : SqT _ _ _ _), ?_⟩ | refine ⟨_, _, rfl, (by walk_at "sq" : SqL _ _ _ _), ?_⟩ | refine ⟨_, _, rfl, (by walk_at "tdg" : DGet _ _ _ _), ?_⟩ | refine ⟨_, _, rfl, ?_⟩ | refine ⟨_, _, _, _, rfl, rfl, (by walk_at "sq" : SqT _ _ _ _), rfl, ?_⟩ | refine ⟨_, _, rfl, .inl (by walk_at "sq" : SqL _ _ _ _), rfl, rfl, ?_⟩ | refine ⟨_, _, rfl, .inr (by walk_at "sq" : SqT _ _ _ _), rfl, rfl, ?_⟩ | refine ⟨_, _, rfl, .inl (by walk_at "sq" : SqL _ _ _ _), ?_⟩ | refine ⟨_, _, rfl, .inr (by walk_at "sq" : SqT _ _ _ _), ?_⟩ | refine ⟨_, _, rfl, (by walk_at "at" : _ = some (HO.dK _)), ?_⟩ | refine ⟨_, _, _, _, rfl, rfl, (by walk_at "sq" : SqL _ _ _ _), rfl, ?_⟩ | refine ⟨_, _, _, rfl, (by walk_at "at" : _ = some _), rfl, ?_⟩ | refine ⟨_, _, _, rfl, ?_⟩ | walk_at "fld" | refine ty_d (by walk_at "at") ?_ | refine ty_l (by walk_at "sq") ?_ | refine ty_t (‹Tx _ _›).z_FIELDS ?_ | refine And.intro (by first | omega | decide | exact Nat.le_of_ble_eq_true rfl | (unfold CDiv; omega) | (unfold CMul; omega)) ?_)
local macro_rules | `(tactic| walk_at "go") => `(tactic| repeat walk_at "w")
section
variable {P : Program} {w : World} {K : PySem.W.Frag} {mg : Str → Option Value} {base : Heap}

theorem spot_place {l : Lay} (b : Int) : b - b / (l.n - 1) * (l.n - 1) = b % (l.n - 1) := by
  have h := Int.emod_add_mul_ediv b (l.n - 1)
  have h2 : b / (l.n - 1) * (l.n - 1) = (l.n - 1) * (b / (l.n - 1)) := Int.mul_comm _ _
  omega
theorem dat_alt {l : Lay} {row p : Int} : dat l row p = if l.r.sym then (par l row + 1 + p) % l.n else p + (if par l row ≤ p then 1 else 0) := by
  unfold dat
  split
  · rfl
  · by_cases h : p < par l row
    · rw [if_pos h, if_neg (by omega)]; omega
    · rw [if_neg h, if_pos (by omega)]
def sp_L_spot (K : PySem.W.Frag) : Sp := fun vs H Q _ => ∃ (x : V) (l : Lay) (b : Int), vs = [x, .int b] ∧ Rp K H x l.d ∧ l.ok ∧ ∀ p H', Same H H' → SqT K H' p [.int (rowOf l b), .int (dskOf l b)] → Q (.ref p) H'

theorem ok_L_spot (T : Tx K mg) (g_L_parity : GK P w K mg base "_law_parity" ["_law_shape_here", "_law_line"] 1 (sp_L_parity K) []) : GK P w K mg base "_law_spot" ["_law_shape_here", "_law_its"] 2 (sp_L_spot K) [] := gk_mk T.f_L_spot T.m_L_spot (by decide +kernel) sc_L_spot (fun _ _ _ _ _ _ us hl => match us, hl with | [_, _], _ => rfl) (fun _ _ _ _ h => by obtain ⟨_, _, _, rfl, _⟩ := h; rfl) fun cdv A outer s H vs Q E hr h => by
  have nd := sc_L_spot.nd
  refine ⟨_, (pss_cons (ps_asg (pv 0) (pg_tupK K 2 rfl (pgs_cons (pg_name (i := 2) nd rfl (Or.inl rfl)) (pgs_cons (pg_name (i := 3) nd rfl (Or.inl rfl)) pgs_nil))))
  (pss_cons (ps_par (i := 4) (j := 5) (by rfl) nd rfl rfl (by decide) rfl rfl (pa_cons (pe_op op_fdiv (pv 1) (pe_op op_sub (pv 2) pe_int)) (pa_cons (pe_op op_mod (pv 1) (pe_op op_sub (pv 2) pe_int)) pa_nil)) (by rfl))
  (pss_cons (ps_set (i := 6) nd rfl (Or.inl rfl) (pe_gkK g_L_parity hr (by decide) (pa_cons (pv 0) (pa_cons (pv 4) pa_nil))))
  (pss_cons (ps_if (pt_cmpR op_eq (pe_slice sl_str (pv 3) (po_some (pe_un un_neg pe_int)) po_none) pe_str (nomark _)) (pss_one (ps_ret (pe_tup (pa_cons (pv 4) (pa_cons (pe_op op_add (pv 5) (pb_int T.b_int (pa_cons (pe_cmpR op_ge (pv 5) (pv 6) (nomark _)) pa_nil))) pa_nil))))) pss_nil)
  (pss_one (ps_ret (pe_tup (pa_cons (pv 4) (pa_cons (pe_op op_mod (pe_op op_add (pe_op op_add (pv 6) pe_int) (pv 5)) (pv 2)) pa_nil))))))))), ?_⟩
  obtain ⟨x, l, b, rfl, hx, hl, q⟩ := h
  obtain ⟨a, rfl, hs⟩ := lay_open hx
  have hl1 := hl.1
  have hl2 := hl.2
  unfold dskOf at q
  rw [spot_place, dat_alt] at q
  walk_at "go"
  refine ⟨_, l, _, rfl, hx, by omega, fun H1 e1 => ?_⟩
  have hs1 := SqT.tk hs (tk_same e1)
  generalize hpp : par l (b / (l.n - 1)) = pp at q ⊢
  rcases l with ⟨n, r⟩
  cases r with
  | ls =>
    walk_at "go"
    intro p hp
    exact q p _ (e1.trans (same_new hp)) (SqT.new hp)
  | rs =>
    walk_at "go"
    intro p hp
    exact q p _ (e1.trans (same_new hp)) (SqT.new hp)
  | la =>
    walk_at "go"
    refine .inr ⟨_, rfl, ?_⟩
    walk_at "go"
    intro p hp
    refine q p _ (e1.trans (same_new hp)) ?_
    have := SqT.new (K := K) (xs := [V.int (b / (n - 1)), V.int (b % (n - 1) + if decide (pp ≤ b % (n - 1)) = true then 1 else 0)]) hp
    simpa [Rule.sym, rowOf] using this
  | ra =>
    walk_at "go"
    refine .inr ⟨_, rfl, ?_⟩
    walk_at "go"
    intro p hp
    refine q p _ (e1.trans (same_new hp)) ?_
    have := SqT.new (K := K) (xs := [V.int (b / (n - 1)), V.int (b % (n - 1) + if decide (pp ≤ b % (n - 1)) = true then 1 else 0)]) hp
    simpa [Rule.sym, rowOf] using this

def sp_L_of (K : PySem.W.Frag) : Sp := fun vs H Q _ => ∃ (v : V) (s : SB) (b : Int), vs = [v, .int b] ∧ Rp K H v s.d ∧ ∀ w, Rp K H w (layAt s b).d → Q w H

theorem ok_L_of (T : Tx K mg)  : GK P w K mg base "_law_of" ["_law_head", "_law_its"] 1 (sp_L_of K) [] := gk_mk T.f_L_of T.m_L_of (by decide +kernel) sc_L_of (fun _ _ _ _ _ _ us hl => match us, hl with | [_, _], _ => rfl) (fun _ _ _ _ h => by obtain ⟨_, _, _, rfl, _⟩ := h; rfl) fun cdv A outer s H vs Q E hr h => by
  have nd := sc_L_of.nd
  refine ⟨_, (pss_cons (ps_par (i := 2) (j := 3) (by rfl) nd rfl rfl (by decide) rfl rfl (pa_cons (pe_ix (ix_tupK K) (pv 0) pe_int (fun _ _ => rfl)) (pa_cons (pe_ix (ix_tupK K) (pv 0) pe_int (fun _ _ => rfl)) pa_nil)) (by rfl))
  (pss_cons (ps_if (pt_cmpR op_isN (pv 2) pe_non (nomark _)) (pss_one (ps_ret (pe_ix (ix_tupK K) (pv 0) pe_int (fun _ _ => rfl)))) pss_nil)
  (pss_one (ps_ret (pe_ifExp (pt_cmpR op_eq (pe_cmpR op_lt (pv 1) (pv 3) (nomark _)) (pe_cmpR op_eq (pe_ix (ix_tupK K) (pv 0) pe_int (fun _ _ => rfl)) pe_str (nomark _)) (nomark _)) (pv 2) (pe_ix (ix_tupK K) (pv 0) pe_int (fun _ _ => rfl))))))), ?_⟩
  obtain ⟨v, s, b, rfl, hv, q⟩ := h
  obtain ⟨a, x, y, rfl, ha, hx, hy⟩ := sb_open hv
  unfold sbV at ha
  cases hm : s.mv with
  | none =>
    rw [tgt_none hm] at hy
    obtain rfl : y = .non := hy.non_eq
    rw [layAt_none hm] at q
    walk_at "go"
    exact q _ hx
  | some m =>
    obtain ⟨t, up⟩ := m
    rw [tgt_some hm] at hy
    obtain ⟨ay, rfl, _⟩ := lay_open hy
    rw [layAt_some hm] at q
    rw [wayV_some hm] at ha
    walk_at "go"
    have e1 : decide (V.bl (decide (b < s.front)) = V.bl (decide (V.str (wayS up) = V.str "up"))) = (decide (b < s.front) == up) := by
      rw [wayS_up]
      cases decide (b < s.front) <;> cases up <;> rfl
    rw [e1]
    cases hq : (decide (b < s.front) == up) with
    | true =>
      rw [hq] at q
      walk_at "go"
      exact q _ hy
    | false =>
      rw [hq] at q
      walk_at "go"
      exact q _ hx


end
end WS
set_option Elab.async false
set_option linter.all false
set_option maxRecDepth 100000
set_option maxHeartbeats 4000000
namespace WS
open PySem PySem.Spec PyProof.Rows L2
local macro_rules | `(tactic| walk_at "tdg") => `(tactic| first | (apply tdg0; walk_at "at") | (apply tdg1; walk_at "at") | (apply tdg2; walk_at "at") | (apply tdg3; walk_at "at") | (apply tdg4; walk_at "at") | (apply tdg5; walk_at "at") | (apply tdg6; walk_at "at") | (apply tdg7; walk_at "at") | (apply tdg8; walk_at "at"))
local macro_rules | `(tactic| walk_at "no") => `(tactic| first | assumption | (apply no_by; assumption; walk_at "sm"))
local macro_rules | `(tactic| walk_at "sm") => `(tactic| first | exact Same.refl _ | assumption | (apply same_up; walk_at "no"; walk_at "sm") | (apply same_by; assumption; walk_at "sm"))
local macro_rules | `(tactic| walk_at "tk") => `(tactic| first | exact TK.refl | assumption | (apply tk_up; walk_at "no"; walk_at "tk") | (apply tk_by; assumption; walk_at "tk") | (apply tk_mv; assumption; walk_at "tk"))
local macro_rules | `(tactic| walk_at "mv") => `(tactic| first | exact Mv.refl | assumption | (apply mv_up; walk_at "no"; walk_at "mv") | (apply mv_mv; assumption; walk_at "mv") | (apply mv_by; assumption; walk_at "mv"))
local macro_rules | `(tactic| walk_at "ne") => `(tactic| first | assumption | (refine Ne.symm ?_; assumption))
local macro_rules | `(tactic| walk_at "at") => `(tactic| first | assumption | exact upd_same | (apply at_new; walk_at "no"; walk_at "at") | (apply at_ne; walk_at "ne"; walk_at "at") | (apply at_same; assumption; walk_at "at") | (apply at_mv; assumption; assumption; walk_at "at"))
local macro_rules | `(tactic| walk_at "rp") => `(tactic| first | assumption | exact Rp.non | exact Rp.int _ | exact Rp.str _ | (apply rp_tk; assumption; walk_at "tk"))
local macro_rules | `(tactic| walk_at "sq") => `(tactic| first | assumption | exact (‹Tx _ _›).t_METAS _ | exact (‹Tx _ _›).t_FIELDS _ | exact (‹Tx _ _›).t_LEFT _ | exact (‹Tx _ _›).t_SYMMETRIC _ | (apply SqT.of; walk_at "at") | (apply SqL.of; walk_at "at") | (apply sqt_tk; assumption; walk_at "tk") | (apply sql_sm; assumption; walk_at "sm"))
local macro_rules | `(tactic| walk_at "sd") => `(tactic| first | rfl | omega | assumption | decide)
local macro_rules | `(tactic| walk_at "fld") => `(tactic| first | refine ⟨_, _, _, _, _, rfl, (by walk_at "at" : _ = some _), (‹Tx _ _›).c_Cells, (‹Tx _ _›).n_Cells_disks, rfl, ?_⟩ | refine ⟨_, _, _, _, _, rfl, (by walk_at "at" : _ = some _), (‹Tx _ _›).c_Cells, (‹Tx _ _›).n_Cells_done, rfl, ?_⟩ | refine ⟨_, _, _, _, _, rfl, (by walk_at "at" : _ = some _), (‹Tx _ _›).c_Cells, (‹Tx _ _›).n_Cells_begun, rfl, ?_⟩ | refine ⟨_, _, _, _, _, rfl, (by walk_at "at" : _ = some _), (‹Tx _ _›).c_Cells, (‹Tx _ _›).n_Cells_is_loose, rfl, ?_⟩ | refine ⟨_, _, _, _, _, rfl, (by walk_at "at" : _ = some _), (‹Tx _ _›).c_State, (‹Tx _ _›).n_State_cells, rfl, ?_⟩ | refine ⟨_, _, _, _, _, rfl, (by walk_at "at" : _ = some _), (‹Tx _ _›).c_State, (‹Tx _ _›).n_State_own_superblock, rfl, ?_⟩ | refine ⟨_, _, _, _, _, rfl, (by walk_at "at" : _ = some _), (‹Tx _ _›).c_Array, (‹Tx _ _›).n_Array_state, rfl, ?_⟩)
local macro_rules | `(tactic| walk_at "w") => `(tactic| first | refine ⟨_, rfl, ⟨_, (by walk_at "sq" : SqT _ _ _ _)⟩, ?_⟩ | refine ⟨_, rfl, ⟨_, (by walk_at "sq" : SqL _ _ _ _)⟩, ?_⟩ | refine ⟨_, rfl, ?_⟩ | refine ⟨_, _, rfl, rfl, ?_⟩ | refine ⟨rfl, ?_⟩ | refine ⟨_, _, rfl, (by walk_at "sq" : SqT _ _ _ _), rfl, ?_⟩ | refine ⟨_, _, rfl, (by walk_at "sq" : SqT _ _ _ _), ?_⟩ | refine ⟨_, _, rfl, (by walk_at "sq" : SqL _ _ _ _), ?_⟩ | refine ⟨_, _, rfl, (by walk_at "tdg" : DGet _ _ _ _), ?_⟩ | refine ⟨_, _, rfl, ?_⟩ | refine ⟨_, _, _, _, rfl, rfl, (by walk_at "sq" : SqT _ _ _ _), rfl, ?_⟩ | refine ⟨_, _, rfl, .inl (by walk_at "sq" : SqL _ _ _ _), rfl, rfl, ?_⟩ | refine ⟨_, _, rfl, .inr (by walk_at "sq" : SqT _ _ _ _), rfl, rfl, ?_⟩ | refine ⟨_, _, rfl, .inl (by walk_at "sq" : SqL _ _ _ _), ?_⟩ | refine ⟨_, _, rfl, .inr (by walk_at "sq" : SqT _ _ _ _), ?_⟩ | refine ⟨_, _, rfl, (by walk_at "at" : _ = some (HO.dK _)), ?_⟩ | refine ⟨_, _, _, _, rfl, rfl, (by walk_at "sq" : SqL _ _ _ _), rfl, ?_⟩ | refine ⟨_, _, _, rfl, (by walk_at "at" : _ = some _), rfl, ?_⟩ | refine ⟨_, _, _, rfl, ?_⟩ | walk_at "fld" | refine ty_d (by walk_at "at") ?_ | refine ty_l (by walk_at "sq") ?_ | refine ty_t (‹Tx _ _›).z_FIELDS ?_ | refine And.intro (by first | omega | decide | exact Nat.le_of_ble_eq_true rfl | (unfold CDiv; omega) | (unfold CMul; omega)) ?_)
local macro_rules | `(tactic| walk_at "go") => `(tactic| repeat walk_at "w")
section
variable {P : Program} {w : World} {K : PySem.W.Frag} {mg : Str → Option Value} {base : Heap}

theorem img_open {H : Hp} {v : V} {ds : List DiskS} (h : Rp K H v (imgD ds)) : ∃ a xs, v = .ref a ∧ SqT K H a xs ∧ RpL K H xs (imgL ds) := by
  obtain ⟨a, xs, rfl, h1, h2⟩ := Rp.tup_eq h
  exact ⟨a, xs, rfl, h1, h2⟩
theorem img_at {H : Hp} {xs : List V} {ds : List DiskS} {k : Nat} {d : DiskS} (h : RpL K H xs (imgL ds)) (hd : ds[k]? = some d) : ∃ a x0 x1 x2 c, atI xs (k : Int) = some (.ref a) ∧ SqT K H a [x0, x1, x2, .ref c] ∧ SqT K H c (d.cells.map V.int) := by
  have hk := (List.getElem?_eq_some_iff.mp hd).1
  have h1 : (imgL ds)[k]? = some d.d := by
    unfold imgL
    rw [List.getElem?_append_left (by simpa using hk), List.getElem?_map, hd]
    rfl
  obtain ⟨v, hv, hr⟩ := h.get h1
  obtain ⟨a, x0, x1, x2, c, rfl, h2, _, _, _, h3⟩ := disk_open hr
  refine ⟨a, x0, x1, x2, c, ?_, h2, h3⟩
  have hkl := (List.getElem?_eq_some_iff.mp hv).1
  unfold atI ixN
  rw [if_pos (by omega), if_pos (by omega)]
  exact hv
theorem int_at {cs : List Int} {r : Nat} {x : Int} (h : cs[r]? = some x) : atI (cs.map V.int) (r : Int) = some (.int x) := by
  have hk := (List.getElem?_eq_some_iff.mp h).1
  unfold atI ixN
  rw [if_pos (by omega), if_pos (by simpa using hk)]
  show (cs.map V.int)[(r : Int).toNat]? = _
  rw [Int.toNat_natCast, List.getElem?_map, h]
  rfl
def sp_L_cell (K : PySem.W.Frag) : Sp := fun vs H Q _ => ∃ (f v : V) (ds : List DiskS) (s : SB) (k r : Nat) (d : DiskS) (x : Int), vs = [f, v, .int k, .int r] ∧ Rp K H f (imgD ds) ∧ Rp K H v s.d ∧ ds[k]? = some d ∧ d.cells[r]? = some x ∧ Q (.int x) H

theorem ok_L_cell (T : Tx K mg)  : GK P w K mg base "_law_cell" ["_law_film", "_law_head", "_law_disk", "_law_line"] 1 (sp_L_cell K) [] := gk_mk T.f_L_cell T.m_L_cell (by decide +kernel) sc_L_cell (fun _ _ _ _ _ _ us hl => match us, hl with | [_, _, _, _], _ => rfl) (fun _ _ _ _ h => by obtain ⟨_, _, _, _, _, _, _, _, rfl, _⟩ := h; rfl) fun cdv A outer s H vs Q E hr h => by
  have nd := sc_L_cell.nd
  refine ⟨_, (pss_cons (ps_if (PW.pt (pw_or (pt_cmpR op_isN (pe_ix (ix_tupK K) (pv 0) (pv 2) (fun _ _ => rfl)) pe_non (nomark _)) (pw_or1 (PW.pt (pw_and (pt_cmpR op_eq (pv 2) (pe_ix (ix_tupK K) (pv 1) pe_int (fun _ _ => rfl)) (nomark _)) (pw_and1 (pt_cmpR op_ge (pv 3) (pe_ix (ix_tupK K) (pv 1) pe_int (fun _ _ => rfl)) (nomark _)))))))) (pss_one (ps_ret pe_non)) pss_nil)
  (pss_one (ps_ret (pe_ix (ix_tupK K) (pe_ix (ix_tupK K) (pe_ix (ix_tupK K) (pv 0) (pv 2) (fun _ _ => rfl)) pe_int (fun _ _ => rfl)) (pv 3) (fun _ _ => rfl))))), ?_⟩
  obtain ⟨f, v, ds, s, k, r, d, x, rfl, hf, hv, hd, hx, q⟩ := h
  obtain ⟨fa, xs, rfl, hfa, hxs⟩ := img_open hf
  obtain ⟨a, y0, y1, rfl, ha, _, _⟩ := sb_open hv
  unfold sbV at ha
  obtain ⟨da, x0, x1, x2, c, hat, hda, hc⟩ := img_at hxs hd
  walk_at "go"
  refine ⟨_, _, _, _, rfl, rfl, hfa, hat, ?_⟩
  walk_at "go"
  refine ⟨_, _, _, _, rfl, rfl, hfa, hat, ?_⟩
  walk_at "go"
  refine ⟨_, _, _, _, rfl, rfl, hc, int_at hx, ?_⟩
  exact q

def sp_L_known (K : PySem.W.Frag) : Sp := fun vs H Q _ => ∃ (f v sh : V) (sp : Addr) (ds : List DiskS) (s : SB) (k r : Nat) (d : DiskS) (x : Int), vs = [f, v, sh, .ref sp] ∧ Rp K H f (imgD ds) ∧ Rp K H v s.d ∧ SqT K H sp [.int r, .int k] ∧ ds[k]? = some d ∧ d.cells[r]? = some x ∧ Q (.int x) H

theorem ok_L_known (T : Tx K mg) (g_L_cell : GK P w K mg base "_law_cell" ["_law_film", "_law_head", "_law_disk", "_law_line"] 1 (sp_L_cell K) []) : GK P w K mg base "_law_known" ["_law_film", "_law_head", "_law_shape_here", "_law_spot_here"] 2 (sp_L_known K) [] := gk_mk T.f_L_known T.m_L_known (by decide +kernel) sc_L_known (fun _ _ _ _ _ _ us hl => match us, hl with | [_, _, _, _], _ => rfl) (fun _ _ _ _ h => by obtain ⟨_, _, _, _, _, _, _, _, _, _, rfl, _⟩ := h; rfl) fun cdv A outer s H vs Q E hr h => by
  have nd := sc_L_known.nd
  refine ⟨_, (pss_cons (ps_asg (pv 3) (pg_tupK K 2 rfl (pgs_cons (pg_name (i := 4) nd rfl (Or.inl rfl)) (pgs_cons (pg_name (i := 5) nd rfl (Or.inl rfl)) pgs_nil))))
  (pss_cons (ps_par (i := 6) (j := 7) (by rfl) nd rfl rfl (by decide) rfl rfl (pa_cons (pe_gkK g_L_cell hr (by decide) (pa_cons (pv 0) (pa_cons (pv 1) (pa_cons (pv 5) (pa_cons (pv 4) pa_nil))))) (pa_cons pe_int pa_nil)) (by rfl))
  (pss_cons (ps_if (pt_cmpR op_notN (pv 6) pe_non (nomark _)) (pss_one (ps_ret (pv 6))) pss_nil)
  pss_never))), ?_⟩
  obtain ⟨f, v, sh, sp, ds, s, k, r, d, x, rfl, hf, hv, hsp, hd, hx, q⟩ := h
  walk_at "go"
  refine ⟨f, v, ds, s, k, r, d, x, rfl, hf, hv, hd, hx, ?_⟩
  walk_at "go"
  exact q

def toldL (s : SB) (ds : List DiskS) : List Int := (List.range s.blocks.toNat).map fun i => valAt s ds (i : Nat)
def sp_L_told (K : PySem.W.Frag) : Sp := fun vs H Q _ => ∃ (f v : V) (ds : List DiskS) (s : SB) (R : Nat), vs = [f, v] ∧ Rp K H f (imgD ds) ∧ Rp K H v s.d ∧ s.ok ∧ ds.length = 6 ∧ (∀ d ∈ ds, d.ok R) ∧ s.blocks ≤ 2 * R ∧
  ∀ p H', H p = none → Same H H' → H' p = some (.lst ((toldL s ds).map V.int)) → Q (.ref p) H'

theorem ok_L_told (T : Tx K mg) (g_L_known : GK P w K mg base "_law_known" ["_law_film", "_law_head", "_law_shape_here", "_law_spot_here"] 2 (sp_L_known K) []) (g_L_of : GK P w K mg base "_law_of" ["_law_head", "_law_its"] 1 (sp_L_of K) []) (g_L_spot : GK P w K mg base "_law_spot" ["_law_shape_here", "_law_its"] 2 (sp_L_spot K) []) : GK P w K mg base "_law_told" ["_law_film", "_law_head"] 3 (sp_L_told K) [] := gk_mk T.f_L_told T.m_L_told (by decide +kernel) sc_L_told (fun _ _ _ _ _ _ us hl => match us, hl with | [_, _], _ => rfl) (fun _ _ _ _ h => by obtain ⟨_, _, _, _, _, rfl, _⟩ := h; rfl) fun cdv A outer s H vs Q E hr h => by
  have nd := sc_L_told.nd
  refine ⟨_, (pss_cons (ps_set (i := 2) nd rfl (Or.inl rfl) (pe_lst pa_nil))
  (pss_cons (ps_wf (ps_for PassesOwn.never rfl (pi_range1 rfl T.b_range (pa_cons (pe_ix (ix_tupK K) (pv 1) pe_int (fun _ _ => rfl)) pa_nil)) (pg_name (i := 3) nd rfl (Or.inl rfl)) (pss_cons (ps_set (i := 4) nd rfl (Or.inl rfl) (pe_gkK g_L_of hr (by decide) (pa_cons (pv 1) (pa_cons (pv 3) pa_nil))))
  (pss_one (ps_expr (pe_bm PySem.F.plainAttrs_list PySem.F.slot_list_append PySem.F.type_list_append mt_append (pv 2) (pa_cons (pe_gkK g_L_known hr (by decide) (pa_cons (pv 0) (pa_cons (pv 1) (pa_cons (pv 4) (pa_cons (pe_gkK g_L_spot hr (by decide) (pa_cons (pv 4) (pa_cons (pv 3) pa_nil))) pa_nil))))) pa_nil)))))))
  (pss_one (ps_ret (pv 2))))), ?_⟩
  obtain ⟨f, v, ds, s, R, rfl, hf, hv, hsb, h6, hok, hbR, q⟩ := h
  obtain ⟨a, y0, y1, rfl, ha, _, _⟩ := sb_open hv
  unfold sbV at ha
  have hb0 := hsb.b0
  have hb1 := hsb.b1
  walk_at "go"
  intro p hp
  walk_at "go"
  refine forG (n := s.blocks.toNat) (fun i σ H' => ∃ s3 s4, σ = [some f, some (.ref a), some (.ref p), s3, s4] ∧ Same H H' ∧ H' p = some (.lst (((List.range i).map fun i => valAt s ds (i : Nat)).map V.int))) ⟨none, none, rfl, same_new hp, upd_same⟩ (fun i σ H' hi _ => by show i < _; exact hi) (fun σ H' _ => by show _ ≤ _; exact Nat.le_refl _) ?_ ?_
  · rintro i σ H' x H2 hi ⟨s3, s4, rfl, e, hp2⟩ ⟨rfl, rfl⟩
    have hv2 := hv.same e
    have hf2 := hf.same e
    rw [Int.zero_add]
    walk_at "go"
    refine ⟨.ref a, s, (i : Nat), rfl, hv2, fun w hw => ?_⟩
    have hlo := layAt_ok hsb (i : Nat)
    have hl2 := hlo.2
    obtain ⟨r0, r1⟩ := row_range hsb (b := (i : Nat)) (by omega) (R := R) (by omega)
    obtain ⟨k0, k1⟩ := dsk_range hlo (i : Nat)
    obtain ⟨d, hd, hx⟩ := cell_get h6 hok (k := (dskOf (layAt s (i : Nat)) (i : Nat)).toNat) (r := (rowOf (layAt s (i : Nat)) (i : Nat)).toNat) (by omega) (by omega)
    walk_at "go"
    refine ⟨w, layAt s (i : Nat), (i : Nat), rfl, hw, hlo, fun p2 H3 e3 hp3 => ?_⟩
    have hp33 : SqT K H3 p2 [.int (rowOf (layAt s (i : Nat)) (i : Nat)).toNat, .int (dskOf (layAt s (i : Nat)) (i : Nat)).toNat] := by
      rw [Int.toNat_of_nonneg r0, Int.toNat_of_nonneg k0]
      exact hp3
    walk_at "go"
    refine ⟨f, .ref a, w, p2, ds, s, _, _, d, _, rfl, hf2.same e3, hv2.same e3, hp33, hd, hx, ?_⟩
    have hp4 := e3 _ _ hp2
    have hll : (((List.range i).map fun i => valAt s ds (i : Nat)).map V.int).length < sizeLine := by
      have h3 : (1000 : Nat) < sizeLine := by decide
      simp only [List.length_map, List.length_range]
      omega
    walk_at "go"
    refine ⟨_, _, _, rfl, rfl, hp4, hll, ?_⟩
    refine ⟨_, _, rfl, same_own hp (e.trans e3), ?_⟩
    rw [upd_same, List.range_succ, List.map_append, List.map_append]
    rfl
  · rintro σ H' ⟨s3, s4, rfl, e, hp2⟩
    walk_at "go"
    exact q p H' hp e hp2


end
end WS
set_option Elab.async false
set_option linter.all false
set_option maxRecDepth 100000
set_option maxHeartbeats 4000000
namespace WS
open PySem PySem.Spec PyProof.Rows L2
local macro_rules | `(tactic| walk_at "tdg") => `(tactic| first | (apply tdg0; walk_at "at") | (apply tdg1; walk_at "at") | (apply tdg2; walk_at "at") | (apply tdg3; walk_at "at") | (apply tdg4; walk_at "at") | (apply tdg5; walk_at "at") | (apply tdg6; walk_at "at") | (apply tdg7; walk_at "at") | (apply tdg8; walk_at "at"))
local macro_rules | `(tactic| walk_at "no") => `(tactic| first | assumption | (apply no_by; assumption; walk_at "sm"))
local macro_rules | `(tactic| walk_at "sm") => `(tactic| first | exact Same.refl _ | assumption | (apply same_up; walk_at "no"; walk_at "sm") | (apply same_by; assumption; walk_at "sm"))
local macro_rules | `(tactic| walk_at "tk") => `(tactic| first | exact TK.refl | assumption | (apply tk_up; walk_at "no"; walk_at "tk") | (apply tk_by; assumption; walk_at "tk") | (apply tk_mv; assumption; walk_at "tk"))
local macro_rules | `(tactic| walk_at "mv") => `(tactic| first | exact Mv.refl | assumption | (apply mv_up; walk_at "no"; walk_at "mv") | (apply mv_mv; assumption; walk_at "mv") | (apply mv_by; assumption; walk_at "mv"))
local macro_rules | `(tactic| walk_at "ne") => `(tactic| first | assumption | (refine Ne.symm ?_; assumption))
local macro_rules | `(tactic| walk_at "at") => `(tactic| first | assumption | exact upd_same | (apply at_new; walk_at "no"; walk_at "at") | (apply at_ne; walk_at "ne"; walk_at "at") | (apply at_same; assumption; walk_at "at") | (apply at_mv; assumption; assumption; walk_at "at"))
local macro_rules | `(tactic| walk_at "rp") => `(tactic| first | assumption | exact Rp.non | exact Rp.int _ | exact Rp.str _ | (apply rp_tk; assumption; walk_at "tk"))
local macro_rules | `(tactic| walk_at "sq") => `(tactic| first | assumption | exact (‹Tx _ _›).t_METAS _ | exact (‹Tx _ _›).t_FIELDS _ | exact (‹Tx _ _›).t_LEFT _ | exact (‹Tx _ _›).t_SYMMETRIC _ | (apply SqT.of; walk_at "at") | (apply SqL.of; walk_at "at") | (apply sqt_tk; assumption; walk_at "tk") | (apply sql_sm; assumption; walk_at "sm"))
local macro_rules | `(tactic| walk_at "sd") => `(tactic| first | rfl | omega | assumption | decide)
local macro_rules | `(tactic| walk_at "fld") => `(tactic| first | refine ⟨_, _, _, _, _, rfl, (by walk_at "at" : _ = some _), (‹Tx _ _›).c_Cells, (‹Tx _ _›).n_Cells_disks, rfl, ?_⟩ | refine ⟨_, _, _, _, _, rfl, (by walk_at "at" : _ = some _), (‹Tx _ _›).c_Cells, (‹Tx _ _›).n_Cells_done, rfl, ?_⟩ | refine ⟨_, _, _, _, _, rfl, (by walk_at "at" : _ = some _), (‹Tx _ _›).c_Cells, (‹Tx _ _›).n_Cells_begun, rfl, ?_⟩ | refine ⟨_, _, _, _, _, rfl, (by walk_at "at" : _ = some _), (‹Tx _ _›).c_Cells, (‹Tx _ _›).n_Cells_is_loose, rfl, ?_⟩ | refine ⟨_, _, _, _, _, rfl, (by walk_at "at" : _ = some _), (‹Tx _ _›).c_State, (‹Tx _ _›).n_State_cells, rfl, ?_⟩ | refine ⟨_, _, _, _, _, rfl, (by walk_at "at" : _ = some _), (‹Tx _ _›).c_State, (‹Tx _ _›).n_State_own_superblock, rfl, ?_⟩ | refine ⟨_, _, _, _, _, rfl, (by walk_at "at" : _ = some _), (‹Tx _ _›).c_Array, (‹Tx _ _›).n_Array_state, rfl, ?_⟩)
local macro_rules | `(tactic| walk_at "w") => `(tactic| first | refine ⟨_, rfl, ⟨_, (by walk_at "sq" : SqT _ _ _ _)⟩, ?_⟩ | refine ⟨_, rfl, ⟨_, (by walk_at "sq" : SqL _ _ _ _)⟩, ?_⟩ | refine ⟨_, rfl, ?_⟩ | refine ⟨_, _, rfl, rfl, ?_⟩ | refine ⟨rfl, ?_⟩ | refine ⟨_, _, rfl, (by walk_at "sq" : SqT _ _ _ _), rfl, ?_⟩ | refine ⟨_, _, rfl, (by walk_at "sq" : SqT _ _ _ _), ?_⟩ | refine ⟨_, _, rfl, (by walk_at "sq" : SqL _ _ _ _), ?_⟩ | refine ⟨_, _, rfl, (by walk_at "tdg" : DGet _ _ _ _), ?_⟩ | refine ⟨_, _, rfl, ?_⟩ | refine ⟨_, _, _, _, rfl, rfl, (by walk_at "sq" : SqT _ _ _ _), rfl, ?_⟩ | refine ⟨_, _, rfl, .inl (by walk_at "sq" : SqL _ _ _ _), rfl, rfl, ?_⟩ | refine ⟨_, _, rfl, .inr (by walk_at "sq" : SqT _ _ _ _), rfl, rfl, ?_⟩ | refine ⟨_, _, rfl, .inl (by walk_at "sq" : SqL _ _ _ _), ?_⟩ | refine ⟨_, _, rfl, .inr (by walk_at "sq" : SqT _ _ _ _), ?_⟩ | refine ⟨_, _, rfl, (by walk_at "at" : _ = some (HO.dK _)), ?_⟩ | refine ⟨_, _, _, _, rfl, rfl, (by walk_at "sq" : SqL _ _ _ _), rfl, ?_⟩ | refine ⟨_, _, _, rfl, (by walk_at "at" : _ = some _), rfl, ?_⟩ | refine ⟨_, _, _, rfl, ?_⟩ | walk_at "fld" | refine ty_d (by walk_at "at") ?_ | refine ty_l (by walk_at "sq") ?_ | refine ty_t (‹Tx _ _›).z_FIELDS ?_ | refine And.intro (by first | omega | decide | exact Nat.le_of_ble_eq_true rfl | (unfold CDiv; omega) | (unfold CMul; omega)) ?_)
local macro_rules | `(tactic| walk_at "go") => `(tactic| repeat walk_at "w")
section
variable {P : Program} {w : World} {K : PySem.W.Frag} {mg : Str → Option Value} {base : Heap}

def usedB (s : SB) (n : Nat) : List Int := (List.range n).map fun i => rowOf (layAt s (i : Nat)) (i : Nat)
theorem used_put {kvs : List (Key × V)} {s : SB} {i : Nat} {v : V} (h : ∀ r : Int, (valV kvs (.inl r)).isSome = true ↔ r ∈ usedB s i) :
    ∀ r : Int, (valV (putK kvs (.inl (rowOf (layAt s (i : Nat)) (i : Nat))) v) (.inl r)).isSome = true ↔ r ∈ usedB s (i + 1) := fun r => by
  have e : usedB s (i + 1) = usedB s i ++ [rowOf (layAt s (i : Nat)) (i : Nat)] := by
    unfold usedB
    rw [List.range_succ, List.map_append]
    rfl
  rw [valV_put, e, List.mem_append, List.mem_singleton]
  by_cases hr : (Sum.inl r : Key) = .inl (rowOf (layAt s (i : Nat)) (i : Nat))
  · rw [if_pos hr]
    simp [Sum.inl.inj hr]
  · rw [if_neg hr, h r]
    constructor
    · exact .inl
    · rintro (z | z)
      · exact z
      · exact absurd (congrArg Sum.inl z) hr
def sp_L_used (K : PySem.W.Frag) : Sp := fun vs H Q _ => ∃ (v : V) (s : SB), vs = [v] ∧ Rp K H v s.d ∧ s.ok ∧
  ∀ (p : Addr) (H' : Hp) (kvs : List (Key × V)), H p = none → Same H H' → H' p = some (.dK kvs) → (∀ r : Int, (valV kvs (.inl r)).isSome = true ↔ r ∈ usedB s s.blocks.toNat) → Q (.ref p) H'

theorem ok_L_used (T : Tx K mg) (g_L_of : GK P w K mg base "_law_of" ["_law_head", "_law_its"] 1 (sp_L_of K) []) : GK P w K mg base "_law_used" ["_law_head"] 2 (sp_L_used K) [] := gk_mk T.f_L_used T.m_L_used (by decide +kernel) sc_L_used (fun _ _ _ _ _ _ us hl => match us, hl with | [_], _ => rfl) (fun _ _ _ _ h => by obtain ⟨_, _, rfl, _⟩ := h; rfl) fun cdv A outer s H vs Q E hr h => by
  have nd := sc_L_used.nd
  refine ⟨_, (pss_cons (ps_set (i := 1) nd rfl (Or.inl rfl) pe_dnewK)
  (pss_cons (ps_wf (ps_for PassesOwn.never rfl (pi_range1 rfl T.b_range (pa_cons (pe_ix (ix_tupK K) (pv 0) pe_int (fun _ _ => rfl)) pa_nil)) (pg_name (i := 2) nd rfl (Or.inl rfl)) (pss_cons (ps_set (i := 3) nd rfl (Or.inl rfl) (pe_gkK g_L_of hr (by decide) (pa_cons (pv 0) (pa_cons (pv 2) pa_nil))))
  (pss_one (ps_dput (hu_of hr) (pv 1) (pe_op op_fdiv (pv 2) (pe_op op_sub (pe_ix (ix_tupK K) (pv 3) pe_int (fun _ _ => rfl)) pe_int)) (pv 3) rfl)))))
  (pss_one (ps_ret (pv 1))))), ?_⟩
  obtain ⟨v, s, rfl, hv, hsb, q⟩ := h
  obtain ⟨a, y0, y1, rfl, ha, _, _⟩ := sb_open hv
  unfold sbV at ha
  have hb0 := hsb.b0
  have hb1 := hsb.b1
  walk_at "go"
  intro p hp
  walk_at "go"
  refine forG (n := s.blocks.toNat) (fun i σ H' => ∃ s2 s3 kvs, σ = [some (.ref a), some (.ref p), s2, s3] ∧ Same H H' ∧ H' p = some (.dK kvs) ∧ kvs.length ≤ i ∧ ∀ r : Int, (valV kvs (.inl r)).isSome = true ↔ r ∈ usedB s i) ⟨none, none, [], rfl, same_new hp, upd_same, Nat.le_refl _, fun r => by simp [usedB, valV]⟩ (fun i σ H' hi _ => by show i < _; exact hi) (fun σ H' _ => by show _ ≤ _; exact Nat.le_refl _) ?_ ?_
  · rintro i σ H' x H2 hi ⟨s3, s4, kvs, rfl, e, hp2, hl, hu⟩ ⟨rfl, rfl⟩
    have hv2 := hv.same e
    rw [Int.zero_add]
    walk_at "go"
    refine ⟨.ref a, s, (i : Nat), rfl, hv2, fun w hw => ?_⟩
    have hlo := layAt_ok hsb (i : Nat)
    have hl1 := hlo.1
    have hl2 := hlo.2
    obtain ⟨aw, rfl, haw⟩ := lay_open hw
    walk_at "go"
    have hll : kvs.length < sizeLine := by
      have h3 : (1000 : Nat) < sizeLine := by decide
      omega
    refine ⟨_, _, rfl, .inl ⟨kvs, .inl (rowOf (layAt s (i : Nat)) (i : Nat)), hp2, rfl, hll, rfl⟩, ?_⟩
    exact ⟨_, _, _, rfl, same_own hp e, upd_same, by have := length_putK kvs (.inl (rowOf (layAt s (i : Nat)) (i : Nat))) (.ref aw); omega, used_put hu⟩
  · rintro σ H' ⟨s3, s4, kvs, rfl, e, hp2, hl, hu⟩
    walk_at "go"
    exact q p H' kvs hp e hp2 hu


end
end WS
set_option Elab.async false
set_option linter.all false
set_option maxRecDepth 100000
set_option maxHeartbeats 4000000
namespace WS
open PySem PySem.Spec PyProof.Rows L2
local macro_rules | `(tactic| walk_at "tdg") => `(tactic| first | (apply tdg0; walk_at "at") | (apply tdg1; walk_at "at") | (apply tdg2; walk_at "at") | (apply tdg3; walk_at "at") | (apply tdg4; walk_at "at") | (apply tdg5; walk_at "at") | (apply tdg6; walk_at "at") | (apply tdg7; walk_at "at") | (apply tdg8; walk_at "at"))
local macro_rules | `(tactic| walk_at "no") => `(tactic| first | assumption | (apply no_by; assumption; walk_at "sm"))
local macro_rules | `(tactic| walk_at "sm") => `(tactic| first | exact Same.refl _ | assumption | (apply same_up; walk_at "no"; walk_at "sm") | (apply same_by; assumption; walk_at "sm"))
local macro_rules | `(tactic| walk_at "tk") => `(tactic| first | exact TK.refl | assumption | (apply tk_up; walk_at "no"; walk_at "tk") | (apply tk_by; assumption; walk_at "tk") | (apply tk_mv; assumption; walk_at "tk"))
local macro_rules | `(tactic| walk_at "mv") => `(tactic| first | exact Mv.refl | assumption | (apply mv_up; walk_at "no"; walk_at "mv") | (apply mv_mv; assumption; walk_at "mv") | (apply mv_by; assumption; walk_at "mv"))
local macro_rules | `(tactic| walk_at "ne") => `(tactic| first | assumption | (refine Ne.symm ?_; assumption))
local macro_rules | `(tactic| walk_at "at") => `(tactic| first | assumption | exact upd_same | (apply at_new; walk_at "no"; walk_at "at") | (apply at_ne; walk_at "ne"; walk_at "at") | (apply at_same; assumption; walk_at "at") | (apply at_mv; assumption; assumption; walk_at "at"))
local macro_rules | `(tactic| walk_at "rp") => `(tactic| first | assumption | exact Rp.non | exact Rp.int _ | exact Rp.str _ | (apply rp_tk; assumption; walk_at "tk"))
local macro_rules | `(tactic| walk_at "sq") => `(tactic| first | assumption | exact (‹Tx _ _›).t_METAS _ | exact (‹Tx _ _›).t_FIELDS _ | exact (‹Tx _ _›).t_LEFT _ | exact (‹Tx _ _›).t_SYMMETRIC _ | (apply SqT.of; walk_at "at") | (apply SqL.of; walk_at "at") | (apply sqt_tk; assumption; walk_at "tk") | (apply sql_sm; assumption; walk_at "sm"))
local macro_rules | `(tactic| walk_at "sd") => `(tactic| first | rfl | omega | assumption | decide)
local macro_rules | `(tactic| walk_at "fld") => `(tactic| first | refine ⟨_, _, _, _, _, rfl, (by walk_at "at" : _ = some _), (‹Tx _ _›).c_Cells, (‹Tx _ _›).n_Cells_disks, rfl, ?_⟩ | refine ⟨_, _, _, _, _, rfl, (by walk_at "at" : _ = some _), (‹Tx _ _›).c_Cells, (‹Tx _ _›).n_Cells_done, rfl, ?_⟩ | refine ⟨_, _, _, _, _, rfl, (by walk_at "at" : _ = some _), (‹Tx _ _›).c_Cells, (‹Tx _ _›).n_Cells_begun, rfl, ?_⟩ | refine ⟨_, _, _, _, _, rfl, (by walk_at "at" : _ = some _), (‹Tx _ _›).c_Cells, (‹Tx _ _›).n_Cells_is_loose, rfl, ?_⟩ | refine ⟨_, _, _, _, _, rfl, (by walk_at "at" : _ = some _), (‹Tx _ _›).c_State, (‹Tx _ _›).n_State_cells, rfl, ?_⟩ | refine ⟨_, _, _, _, _, rfl, (by walk_at "at" : _ = some _), (‹Tx _ _›).c_State, (‹Tx _ _›).n_State_own_superblock, rfl, ?_⟩ | refine ⟨_, _, _, _, _, rfl, (by walk_at "at" : _ = some _), (‹Tx _ _›).c_Array, (‹Tx _ _›).n_Array_state, rfl, ?_⟩)
local macro_rules | `(tactic| walk_at "w") => `(tactic| first | refine ⟨_, rfl, ⟨_, (by walk_at "sq" : SqT _ _ _ _)⟩, ?_⟩ | refine ⟨_, rfl, ⟨_, (by walk_at "sq" : SqL _ _ _ _)⟩, ?_⟩ | refine ⟨_, rfl, ?_⟩ | refine ⟨_, _, rfl, rfl, ?_⟩ | refine ⟨rfl, ?_⟩ | refine ⟨_, _, rfl, (by walk_at "sq" : SqT _ _ _ _), rfl, ?_⟩ | refine ⟨_, _, rfl, (by walk_at "sq" : SqT _ _ _ _), ?_⟩ | refine ⟨_, _, rfl, (by walk_at "sq" : SqL _ _ _ _), ?_⟩ | refine ⟨_, _, rfl, (by walk_at "tdg" : DGet _ _ _ _), ?_⟩ | refine ⟨_, _, rfl, ?_⟩ | refine ⟨_, _, _, _, rfl, rfl, (by walk_at "sq" : SqT _ _ _ _), rfl, ?_⟩ | refine ⟨_, _, rfl, .inl (by walk_at "sq" : SqL _ _ _ _), rfl, rfl, ?_⟩ | refine ⟨_, _, rfl, .inr (by walk_at "sq" : SqT _ _ _ _), rfl, rfl, ?_⟩ | refine ⟨_, _, rfl, .inl (by walk_at "sq" : SqL _ _ _ _), ?_⟩ | refine ⟨_, _, rfl, .inr (by walk_at "sq" : SqT _ _ _ _), ?_⟩ | refine ⟨_, _, rfl, (by walk_at "at" : _ = some (HO.dK _)), ?_⟩ | refine ⟨_, _, _, _, rfl, rfl, (by walk_at "sq" : SqL _ _ _ _), rfl, ?_⟩ | refine ⟨_, _, _, rfl, (by walk_at "at" : _ = some _), rfl, ?_⟩ | refine ⟨_, _, _, rfl, ?_⟩ | walk_at "fld" | refine ty_d (by walk_at "at") ?_ | refine ty_l (by walk_at "sq") ?_ | refine ty_t (‹Tx _ _›).z_FIELDS ?_ | refine And.intro (by first | omega | decide | exact Nat.le_of_ble_eq_true rfl | (unfold CDiv; omega) | (unfold CMul; omega)) ?_)
local macro_rules | `(tactic| walk_at "go") => `(tactic| repeat walk_at "w")
section
variable {P : Program} {w : World} {K : PySem.W.Frag} {mg : Str → Option Value} {base : Heap}

theorem rules_mem {v : V} (h : v ∈ [V.str "left-symmetric", V.str "left-asymmetric", V.str "right-symmetric", V.str "right-asymmetric"]) : ∃ r : Rule, v = .str r.s := by
  simp only [List.mem_cons, List.not_mem_nil, or_false] at h
  rcases h with z | z | z | z
  · exact ⟨.ls, z⟩
  · exact ⟨.la, z⟩
  · exact ⟨.rs, z⟩
  · exact ⟨.ra, z⟩
def sp_L_shape (K : PySem.W.Frag) : Sp := fun vs H Q _ => ∃ (bx : Addr) (n : Nat) (lo hi : Int), vs = [.ref bx, .int lo, .int hi] ∧ BoxAt H bx n ∧ lo ≤ hi ∧ hi - lo < 1000 ∧ n ≤ 900000 ∧
  ∀ (l : Lay) (v : V) (H' : Hp), lo ≤ l.n → l.n ≤ hi → Mv K [bx] H H' → BoxAt H' bx (n + 2) → Rp K H' v l.d → Q v H'

theorem ok_L_shape (T : Tx K mg) (g_L_pick : GK P w K mg base "_law_pick" ["_law_box_here", "_law_some"] 2 (sp_L_pick K) []) (g_L_take : GK P w K mg base "_law_take" ["_law_box_here", "_law_many"] 1 (sp_L_take K) []) : GK P w K mg base "_law_shape" ["_law_box_here", "_law_least", "_law_most"] 3 (sp_L_shape K) [] := gk_mk T.f_L_shape T.m_L_shape (by decide +kernel) sc_L_shape (fun _ _ _ _ _ _ us hl => match us, hl with | [_, _, _], _ => rfl) (fun _ _ _ _ h => by obtain ⟨_, _, _, _, rfl, _⟩ := h; rfl) fun cdv A outer s H vs Q E hr h => by
  have nd := sc_L_shape.nd
  refine ⟨_, (pss_cons (ps_set (i := 3) nd rfl (Or.inl rfl) (pe_lst (pa_cons pe_str (pa_cons pe_str (pa_cons pe_str (pa_cons pe_str pa_nil))))))
  (pss_one (ps_ret (pe_tup (pa_cons (pe_op op_add (pv 1) (pe_gkK g_L_take hr (by decide) (pa_cons (pv 0) (pa_cons (pe_op op_add (pe_op op_sub (pv 2) (pv 1)) pe_int) pa_nil)))) (pa_cons (pe_gkK g_L_pick hr (by decide) (pa_cons (pv 0) (pa_cons (pv 3) pa_nil))) pa_nil)))))), ?_⟩
  obtain ⟨bx, n, lo, hi, rfl, hb, hlo, hhi, hn, q⟩ := h
  walk_at "go"
  intro p hp
  have hpb : p ≠ bx := fun z => by obtain ⟨_, _, _, h1, _⟩ := hb; rw [z, h1] at hp; cases hp
  walk_at "go"
  refine ⟨bx, n, _, rfl, hb.same (same_new hp), by omega, by omega, by omega, fun r H1 hr0 hr1 m1 hb1 => ?_⟩
  have hp1 := m1.at (upd_same (H := H) (a := p)) (by simpa using hpb)
  walk_at "go"
  refine ⟨bx, p, n + 1, _, rfl, hb1, hp1, hpb, Nat.le_of_ble_eq_true rfl, Nat.le_of_ble_eq_true rfl, by omega, fun v H2 hv m2 hb2 => ?_⟩
  obtain ⟨rr, rfl⟩ := rules_mem hv
  walk_at "go"
  intro p3 hp3
  exact q ⟨lo + r, rr⟩ _ _ (by show lo ≤ lo + r; omega) (by show lo + r ≤ hi; omega) ((Mv.of_same (same_new hp)).trans (m1.trans (m2.trans (Mv.of_same (same_new hp3))))) (hb2.same (same_new hp3)) (.tup (SqT.new hp3) (.cons (.int _) (.cons (.str _) .nil)))

def sp_L_worth (K : PySem.W.Frag) : Sp := fun vs H Q _ => ∃ (bx : Addr) (n : Nat), vs = [.ref bx] ∧ BoxAt H bx n ∧ n ≤ 900000 ∧ ∀ (x : Int) (H' : Hp), 0 ≤ x → x < 4294967296 → Mv K [bx] H H' → BoxAt H' bx (n + 4) → Q (.int x) H'

theorem ok_L_worth (T : Tx K mg) (g_L_pick : GK P w K mg base "_law_pick" ["_law_box_here", "_law_some"] 2 (sp_L_pick K) []) (g_L_take : GK P w K mg base "_law_take" ["_law_box_here", "_law_many"] 1 (sp_L_take K) []) : GK P w K mg base "_law_worth" ["_law_box_here"] 3 (sp_L_worth K) [] := gk_mk T.f_L_worth T.m_L_worth (by decide +kernel) sc_L_worth (fun _ _ _ _ _ _ us hl => match us, hl with | [_], _ => rfl) (fun _ _ _ _ h => by obtain ⟨_, _, rfl, _⟩ := h; rfl) fun cdv A outer s H vs Q E hr h => by
  have nd := sc_L_worth.nd
  refine ⟨_, (pss_cons (ps_set (i := 1) nd rfl (Or.inl rfl) (pe_op op_mod (pe_op op_mul (pe_gkK g_L_take hr (by decide) (pa_cons (pv 0) (pa_cons pe_int pa_nil))) pe_int) pe_int))
  (pss_one (ps_ret (pe_gkK g_L_pick hr (by decide) (pa_cons (pv 0) (pa_cons (pe_lst (pa_cons (pe_gkK g_L_take hr (by decide) (pa_cons (pv 0) (pa_cons pe_int pa_nil))) (pa_cons (pe_op op_sub pe_int (pe_gkK g_L_take hr (by decide) (pa_cons (pv 0) (pa_cons pe_int pa_nil)))) (pa_cons (pv 1) pa_nil)))) pa_nil)))))), ?_⟩
  obtain ⟨bx, n, rfl, hb, hn, q⟩ := h
  walk_at "go"
  refine ⟨bx, n, _, rfl, hb, by omega, by omega, by omega, fun r H1 hr0 hr1 m1 hb1 => ?_⟩
  have hw0 := Int.emod_nonneg (r * 65537) (show (4294967296 : Int) ≠ 0 by decide)
  have hw1 := Int.emod_lt_of_pos (r * 65537) (show (0 : Int) < 4294967296 by decide)
  walk_at "go"
  refine ⟨bx, n + 1, _, rfl, hb1, by omega, by omega, by omega, fun r2 H2 hs0 hs1 m2 hb2 => ?_⟩
  walk_at "go"
  refine ⟨bx, n + 2, _, rfl, hb2, by omega, by omega, by omega, fun r3 H3 ht0 ht1 m3 hb3 => ?_⟩
  walk_at "go"
  intro p hp
  have hpb : p ≠ bx := fun z => by obtain ⟨_, _, _, h1, _⟩ := hb3; rw [z, h1] at hp; cases hp
  walk_at "go"
  refine ⟨bx, p, n + 3, _, rfl, hb3.same (same_new hp), upd_same, hpb, Nat.le_of_ble_eq_true rfl, Nat.le_of_ble_eq_true rfl, by omega, fun v H4 hv m4 hb4 => ?_⟩
  have mm : Mv K [bx] H H4 := m1.trans (m2.trans (m3.trans ((Mv.of_same (same_new hp)).trans m4)))
  simp only [List.mem_cons, List.not_mem_nil, or_false] at hv
  rcases hv with z | z | z
  · rw [z]; exact q _ _ (by omega) (by omega) mm hb4
  · rw [z]; exact q _ _ (by omega) (by omega) mm hb4
  · rw [z]; exact q _ _ (by omega) (by omega) mm hb4


end
end WS
set_option Elab.async false
set_option linter.all false
set_option maxRecDepth 100000
set_option maxHeartbeats 4000000
namespace WS
open PySem PySem.Spec PyProof.Rows L2
local macro_rules | `(tactic| walk_at "tdg") => `(tactic| first | (apply tdg0; walk_at "at") | (apply tdg1; walk_at "at") | (apply tdg2; walk_at "at") | (apply tdg3; walk_at "at") | (apply tdg4; walk_at "at") | (apply tdg5; walk_at "at") | (apply tdg6; walk_at "at") | (apply tdg7; walk_at "at") | (apply tdg8; walk_at "at"))
local macro_rules | `(tactic| walk_at "no") => `(tactic| first | assumption | (apply no_by; assumption; walk_at "sm"))
local macro_rules | `(tactic| walk_at "sm") => `(tactic| first | exact Same.refl _ | assumption | (apply same_up; walk_at "no"; walk_at "sm") | (apply same_by; assumption; walk_at "sm"))
local macro_rules | `(tactic| walk_at "tk") => `(tactic| first | exact TK.refl | assumption | (apply tk_up; walk_at "no"; walk_at "tk") | (apply tk_by; assumption; walk_at "tk") | (apply tk_mv; assumption; walk_at "tk"))
local macro_rules | `(tactic| walk_at "mv") => `(tactic| first | exact Mv.refl | assumption | (apply mv_up; walk_at "no"; walk_at "mv") | (apply mv_mv; assumption; walk_at "mv") | (apply mv_by; assumption; walk_at "mv"))
local macro_rules | `(tactic| walk_at "ne") => `(tactic| first | assumption | (refine Ne.symm ?_; assumption))
local macro_rules | `(tactic| walk_at "at") => `(tactic| first | assumption | exact upd_same | (apply at_new; walk_at "no"; walk_at "at") | (apply at_ne; walk_at "ne"; walk_at "at") | (apply at_same; assumption; walk_at "at") | (apply at_mv; assumption; assumption; walk_at "at"))
local macro_rules | `(tactic| walk_at "rp") => `(tactic| first | assumption | exact Rp.non | exact Rp.int _ | exact Rp.str _ | (apply rp_tk; assumption; walk_at "tk"))
local macro_rules | `(tactic| walk_at "sq") => `(tactic| first | assumption | exact (‹Tx _ _›).t_METAS _ | exact (‹Tx _ _›).t_FIELDS _ | exact (‹Tx _ _›).t_LEFT _ | exact (‹Tx _ _›).t_SYMMETRIC _ | (apply SqT.of; walk_at "at") | (apply SqL.of; walk_at "at") | (apply sqt_tk; assumption; walk_at "tk") | (apply sql_sm; assumption; walk_at "sm"))
local macro_rules | `(tactic| walk_at "sd") => `(tactic| first | rfl | omega | assumption | decide)
local macro_rules | `(tactic| walk_at "fld") => `(tactic| first | refine ⟨_, _, _, _, _, rfl, (by walk_at "at" : _ = some _), (‹Tx _ _›).c_Cells, (‹Tx _ _›).n_Cells_disks, rfl, ?_⟩ | refine ⟨_, _, _, _, _, rfl, (by walk_at "at" : _ = some _), (‹Tx _ _›).c_Cells, (‹Tx _ _›).n_Cells_done, rfl, ?_⟩ | refine ⟨_, _, _, _, _, rfl, (by walk_at "at" : _ = some _), (‹Tx _ _›).c_Cells, (‹Tx _ _›).n_Cells_begun, rfl, ?_⟩ | refine ⟨_, _, _, _, _, rfl, (by walk_at "at" : _ = some _), (‹Tx _ _›).c_Cells, (‹Tx _ _›).n_Cells_is_loose, rfl, ?_⟩ | refine ⟨_, _, _, _, _, rfl, (by walk_at "at" : _ = some _), (‹Tx _ _›).c_State, (‹Tx _ _›).n_State_cells, rfl, ?_⟩ | refine ⟨_, _, _, _, _, rfl, (by walk_at "at" : _ = some _), (‹Tx _ _›).c_State, (‹Tx _ _›).n_State_own_superblock, rfl, ?_⟩ | refine ⟨_, _, _, _, _, rfl, (by walk_at "at" : _ = some _), (‹Tx _ _›).c_Array, (‹Tx _ _›).n_Array_state, rfl, ?_⟩)
local macro_rules | `(tactic| walk_at "w") => `(tactic| first | refine ⟨_, rfl, ⟨_, (by walk_at "sq" : SqT _ _ _ _)⟩, ?_⟩ | refine ⟨_, rfl, ⟨_, (by walk_at "sq" : SqL _ _ _ _)⟩, ?_⟩ | refine ⟨_, rfl, ?_⟩ | refine ⟨_, _, rfl, rfl, ?_⟩ | refine ⟨rfl, ?_⟩ | refine ⟨_, _, rfl, (by walk_at "sq" : SqT _ _ _ _), rfl, ?_⟩ | refine ⟨_, _, rfl, (by walk_at "sq" : SqT _ _ _ _), ?_⟩ | refine ⟨_, _, rfl, (by walk_at "sq" : SqL _ _ _ _), ?_⟩ | refine ⟨_, _, rfl, (by walk_at "tdg" : DGet _ _ _ _), ?_⟩ | refine ⟨_, _, rfl, ?_⟩ | refine ⟨_, _, _, _, rfl, rfl, (by walk_at "sq" : SqT _ _ _ _), rfl, ?_⟩ | refine ⟨_, _, rfl, .inl (by walk_at "sq" : SqL _ _ _ _), rfl, rfl, ?_⟩ | refine ⟨_, _, rfl, .inr (by walk_at "sq" : SqT _ _ _ _), rfl, rfl, ?_⟩ | refine ⟨_, _, rfl, .inl (by walk_at "sq" : SqL _ _ _ _), ?_⟩ | refine ⟨_, _, rfl, .inr (by walk_at "sq" : SqT _ _ _ _), ?_⟩ | refine ⟨_, _, rfl, (by walk_at "at" : _ = some (HO.dK _)), ?_⟩ | refine ⟨_, _, _, _, rfl, rfl, (by walk_at "sq" : SqL _ _ _ _), rfl, ?_⟩ | refine ⟨_, _, _, rfl, (by walk_at "at" : _ = some _), rfl, ?_⟩ | refine ⟨_, _, _, rfl, ?_⟩ | walk_at "fld" | refine ty_d (by walk_at "at") ?_ | refine ty_l (by walk_at "sq") ?_ | refine ty_t (‹Tx _ _›).z_FIELDS ?_ | refine And.intro (by first | omega | decide | exact Nat.le_of_ble_eq_true rfl | (unfold CDiv; omega) | (unfold CMul; omega)) ?_)
local macro_rules | `(tactic| walk_at "go") => `(tactic| repeat walk_at "w")
section
variable {P : Program} {w : World} {K : PySem.W.Frag} {mg : Str → Option Value} {base : Heap}

theorem img_none {H : Hp} {xs : List V} {ds : List DiskS} {k : Nat} (h : RpL K H xs (imgL ds)) (h6 : ds.length = 6) (hk : k < 6) : ∃ a, atI xs (k : Int) = some (.ref a) := by
  obtain ⟨a, _, _, _, _, h1, _⟩ := img_at h (List.getElem?_eq_getElem (show k < ds.length by omega))
  exact ⟨a, h1⟩
def sp_L_room (K : PySem.W.Frag) : Sp := fun vs H Q _ => ∃ (A : Ad) (S : ArrS) (R : Nat), vs = [.ref A.arr, .int 6] ∧ ArrAt K H A S ∧ S.ce.ok R ∧ ∀ H', Same H H' → Q (.int 6) H'

theorem ok_L_room (T : Tx K mg) (g_Array_image : MK P w K mg base "Array" "image" ["self"] 3 (sp_Array_image K)) (g_Array_superblock : MK P w K mg base "Array" "superblock" ["self"] 1 (sp_Array_superblock K)) : GK P w K mg base "_law_room" ["_law_host", "_law_disks"] 4 (sp_L_room K) [] := gk_mk T.f_L_room T.m_L_room (by decide +kernel) sc_L_room (fun _ _ _ _ _ _ us hl => match us, hl with | [_, _], _ => rfl) (fun _ _ _ _ h => by obtain ⟨_, _, _, rfl, _⟩ := h; rfl) fun cdv A outer s H vs Q E hr h => by
  have nd := sc_L_room.nd
  refine ⟨_, (pss_cons (ps_asg (pe_tup (pa_cons (pe_mk0K g_Array_image hr (by decide) (pv 0)) (pa_cons (pe_mk0K g_Array_superblock hr (by decide) (pv 0)) pa_nil))) (pg_tupK K 2 rfl (pgs_cons (pg_name (i := 2) nd rfl (Or.inr rfl)) (pgs_cons (pg_name (i := 3) nd rfl (Or.inr rfl)) pgs_nil))))
  (pss_one (ps_ret (pb_min T.b_min (pa_cons (pe_op op_cat (pe_lst (pa_cons (pv 1) pa_nil)) (pe_w (pe_lc (own := [("_law_disk", 4)]) (g := gName 4) (tt := _) rfl nd (pi_range1 rfl T.b_range (pa_cons (pv 1) pa_nil)) (blkOk_by (N := ["_law_host", "_law_disks", "_law_film", "_law_head", "_law_disk"]) (sc := defScope s_L_room) (by decide +kernel)) (fun _ _ _ _ _ => (pg_name (i := 4) nd rfl (Or.inl rfl))) (fun _ _ _ _ _ => (pts_one (PW.pt (pw_and (pt_cmpR op_isN (pe_ix (ix_tupK K) (pv 2) (pv 4) (fun _ _ => rfl)) pe_non (nomark _)) (pw_and1 (pt_cmpR op_ne (pv 4) (pe_ix (ix_tupK K) (pv 3) pe_int (fun _ _ => rfl)) (nomark _))))))) (fun _ _ _ _ _ => (pv 4))))) pa_nil))))), ?_⟩
  obtain ⟨A, S, R, rfl, har, hok, q⟩ := h
  have hH := har.arr
  walk_at "go"
  refine ⟨A, S, R, rfl, har, hok, fun fv H1 e1 hfv => ?_⟩
  have hH1 := e1 _ _ hH
  walk_at "go"
  refine ⟨A, S, rfl, har.same e1, fun hv hhv => ?_⟩
  walk_at "go"
  intro tp htp
  walk_at "go"
  intro p hp
  have hfv2 : Rp K (upd (upd H1 tp (.tup [fv, hv])) p (.lst [.int 6])) fv (imgD S.ce.disks) := hfv.same ((same_new htp).trans (same_new hp))
  have e2 : Same H (upd (upd H1 tp (.tup [fv, hv])) p (.lst [.int 6])) := (e1.trans (same_new htp)).trans (same_new hp)
  have hp2 : (upd (upd H1 tp (.tup [fv, hv])) p (.lst [.int 6])) p = some (.lst [.int 6]) := upd_same
  generalize (upd (upd H1 tp (.tup [fv, hv])) p (.lst [.int 6])) = H2 at hfv2 e2 hp2 ⊢
  obtain ⟨fa, xs, rfl, hfa, hxs⟩ := img_open hfv2
  walk_at "go"
  refine lcK (n := 6) (fun _ => false) (fun _ _ _ => True) (by decide) (fun _ _ _ _ _ _ => trivial) (fun i H' hi e => by show i < _; exact hi) (fun H' e => by show _ ≤ _; exact Nat.le_refl _) ?_ ?_
  · rintro i H' x H3 hi e ⟨rfl, rfl⟩ R2 Z hR2 hZ
    have hfa2 := SqT.tk hfa (tk_same e)
    obtain ⟨da, hat⟩ := img_none hxs hok.nd hi
    refine ⟨rfl, ?_⟩
    rw [Int.zero_add]
    walk_at "go"
    refine ⟨_, _, _, _, rfl, rfl, hfa2, hat, ?_⟩
    walk_at "go"
    exact hZ rfl _ (Same.refl _)
  · intro p3 ys H3 hp3 hy e3 hq
    have hnil : (List.range 6).filter (fun _ => false) = [] := by simp
    rw [hnil] at hq
    cases hq
    have hp23 := e3 _ _ hp2
    refine ⟨_, _, _, _, rfl, rfl, hp23, hy, Nat.le_of_ble_eq_true rfl, fun p4 hp4 => ?_⟩
    refine ⟨p4, [6], rfl, SqL.of upd_same, Nat.le_of_ble_eq_true rfl, fun m hm _ => ?_⟩
    obtain rfl : m = 6 := by simpa using hm
    exact q _ ((e2.trans e3).trans (same_new hp4))


end
end WS
set_option Elab.async false
set_option linter.all false
set_option maxRecDepth 100000
set_option maxHeartbeats 4000000
namespace WS
open PySem PySem.Spec PyProof.Rows L2
local macro_rules | `(tactic| walk_at "tdg") => `(tactic| first | (apply tdg0; walk_at "at") | (apply tdg1; walk_at "at") | (apply tdg2; walk_at "at") | (apply tdg3; walk_at "at") | (apply tdg4; walk_at "at") | (apply tdg5; walk_at "at") | (apply tdg6; walk_at "at") | (apply tdg7; walk_at "at") | (apply tdg8; walk_at "at"))
local macro_rules | `(tactic| walk_at "no") => `(tactic| first | assumption | (apply no_by; assumption; walk_at "sm"))
local macro_rules | `(tactic| walk_at "sm") => `(tactic| first | exact Same.refl _ | assumption | (apply same_up; walk_at "no"; walk_at "sm") | (apply same_by; assumption; walk_at "sm"))
local macro_rules | `(tactic| walk_at "tk") => `(tactic| first | exact TK.refl | assumption | (apply tk_up; walk_at "no"; walk_at "tk") | (apply tk_by; assumption; walk_at "tk") | (apply tk_mv; assumption; walk_at "tk"))
local macro_rules | `(tactic| walk_at "mv") => `(tactic| first | exact Mv.refl | assumption | (apply mv_up; walk_at "no"; walk_at "mv") | (apply mv_mv; assumption; walk_at "mv") | (apply mv_by; assumption; walk_at "mv"))
local macro_rules | `(tactic| walk_at "ne") => `(tactic| first | assumption | (refine Ne.symm ?_; assumption))
local macro_rules | `(tactic| walk_at "at") => `(tactic| first | assumption | exact upd_same | (apply at_new; walk_at "no"; walk_at "at") | (apply at_ne; walk_at "ne"; walk_at "at") | (apply at_same; assumption; walk_at "at") | (apply at_mv; assumption; assumption; walk_at "at"))
local macro_rules | `(tactic| walk_at "rp") => `(tactic| first | assumption | exact Rp.non | exact Rp.int _ | exact Rp.str _ | (apply rp_tk; assumption; walk_at "tk"))
local macro_rules | `(tactic| walk_at "sq") => `(tactic| first | assumption | exact (‹Tx _ _›).t_METAS _ | exact (‹Tx _ _›).t_FIELDS _ | exact (‹Tx _ _›).t_LEFT _ | exact (‹Tx _ _›).t_SYMMETRIC _ | (apply SqT.of; walk_at "at") | (apply SqL.of; walk_at "at") | (apply sqt_tk; assumption; walk_at "tk") | (apply sql_sm; assumption; walk_at "sm"))
local macro_rules | `(tactic| walk_at "sd") => `(tactic| first | rfl | omega | assumption | decide)
local macro_rules | `(tactic| walk_at "fld") => `(tactic| first | refine ⟨_, _, _, _, _, rfl, (by walk_at "at" : _ = some _), (‹Tx _ _›).c_Cells, (‹Tx _ _›).n_Cells_disks, rfl, ?_⟩ | refine ⟨_, _, _, _, _, rfl, (by walk_at "at" : _ = some _), (‹Tx _ _›).c_Cells, (‹Tx _ _›).n_Cells_done, rfl, ?_⟩ | refine ⟨_, _, _, _, _, rfl, (by walk_at "at" : _ = some _), (‹Tx _ _›).c_Cells, (‹Tx _ _›).n_Cells_begun, rfl, ?_⟩ | refine ⟨_, _, _, _, _, rfl, (by walk_at "at" : _ = some _), (‹Tx _ _›).c_Cells, (‹Tx _ _›).n_Cells_is_loose, rfl, ?_⟩ | refine ⟨_, _, _, _, _, rfl, (by walk_at "at" : _ = some _), (‹Tx _ _›).c_State, (‹Tx _ _›).n_State_cells, rfl, ?_⟩ | refine ⟨_, _, _, _, _, rfl, (by walk_at "at" : _ = some _), (‹Tx _ _›).c_State, (‹Tx _ _›).n_State_own_superblock, rfl, ?_⟩ | refine ⟨_, _, _, _, _, rfl, (by walk_at "at" : _ = some _), (‹Tx _ _›).c_Array, (‹Tx _ _›).n_Array_state, rfl, ?_⟩)
local macro_rules | `(tactic| walk_at "w") => `(tactic| first | refine ⟨_, rfl, ⟨_, (by walk_at "sq" : SqT _ _ _ _)⟩, ?_⟩ | refine ⟨_, rfl, ⟨_, (by walk_at "sq" : SqL _ _ _ _)⟩, ?_⟩ | refine ⟨_, rfl, ?_⟩ | refine ⟨_, _, rfl, rfl, ?_⟩ | refine ⟨rfl, ?_⟩ | refine ⟨_, _, rfl, (by walk_at "sq" : SqT _ _ _ _), rfl, ?_⟩ | refine ⟨_, _, rfl, (by walk_at "sq" : SqT _ _ _ _), ?_⟩ | refine ⟨_, _, rfl, (by walk_at "sq" : SqL _ _ _ _), ?_⟩ | refine ⟨_, _, rfl, (by walk_at "tdg" : DGet _ _ _ _), ?_⟩ | refine ⟨_, _, rfl, ?_⟩ | refine ⟨_, _, _, _, rfl, rfl, (by walk_at "sq" : SqT _ _ _ _), rfl, ?_⟩ | refine ⟨_, _, rfl, .inl (by walk_at "sq" : SqL _ _ _ _), rfl, rfl, ?_⟩ | refine ⟨_, _, rfl, .inr (by walk_at "sq" : SqT _ _ _ _), rfl, rfl, ?_⟩ | refine ⟨_, _, rfl, .inl (by walk_at "sq" : SqL _ _ _ _), ?_⟩ | refine ⟨_, _, rfl, .inr (by walk_at "sq" : SqT _ _ _ _), ?_⟩ | refine ⟨_, _, rfl, (by walk_at "at" : _ = some (HO.dK _)), ?_⟩ | refine ⟨_, _, _, _, rfl, rfl, (by walk_at "sq" : SqL _ _ _ _), rfl, ?_⟩ | refine ⟨_, _, _, rfl, (by walk_at "at" : _ = some _), rfl, ?_⟩ | refine ⟨_, _, _, rfl, ?_⟩ | walk_at "fld" | refine ty_d (by walk_at "at") ?_ | refine ty_l (by walk_at "sq") ?_ | refine ty_t (‹Tx _ _›).z_FIELDS ?_ | refine And.intro (by first | omega | decide | exact Nat.le_of_ble_eq_true rfl | (unfold CDiv; omega) | (unfold CMul; omega)) ?_)
local macro_rules | `(tactic| walk_at "go") => `(tactic| repeat walk_at "w")
section
variable {P : Program} {w : World} {K : PySem.W.Frag} {mg : Str → Option Value} {base : Heap}

theorem cl_ints : ∀ l : List Int, PyData.canLayAll0 (l.map PyData.int) = true
  | [] => by simp [PyData.canLayAll0]
  | _ :: l => by simp [PyData.canLayAll0, PyData.canLay0, cl_ints l]
theorem dp_ints : ∀ l : List Int, PyData.depthAll (l.map PyData.int) ≤ 1
  | [] => by simp [PyData.depthAll]
  | _ :: l => by have := dp_ints l; simp [PyData.depthAll, PyData.depth]; omega
theorem shaped_ints (l : List Int) : SeqAt.shaped (.list (l.map PyData.int)) = true :=
  shaped_of (by simp only [PyData.canLay0]; exact cl_ints l) (by have := dp_ints l; simp only [PyData.depth]; omega)
theorem dpall_ints {H : Hp} : ∀ l : List Int, DpAll K H (l.map V.int) (l.map PyData.int)
  | [] => .nil
  | _ :: l => .cons (.int _) (dpall_ints l)
theorem mv_own {F : List Addr} {H H4 : Hp} {D : Addr} {l : List V} {o : HO} (hD : H D = none) (m : Mv K F H H4) (hl : H4 D = some (.lst l)) : Mv K F H (upd H4 D o) :=
  ⟨fun b u q n => by
    rw [upd_ne (fun z => by rw [z, hD] at q; cases q)]
    exact m.at q n, m.t.trans (tk_upd hl (fun _ z => by cases z) (fun _ _ z => by cases z)), fun b f q => by
    have h1 := m.x b f q
    rw [upd_ne (fun z => by rw [z, hl] at h1; cases h1)]
    exact h1⟩
def sp_L_kept (K : PySem.W.Frag) : Sp := fun vs H Q _ => ∃ (bx a : Addr) (n : Nat) (ns : List Int), vs = [.ref bx, .ref a] ∧ BoxAt H bx n ∧ H a = some (.lst (ns.map V.int)) ∧ a ≠ bx ∧ ns.length ≤ 1000 ∧ n ≤ 900000 ∧
  ∀ (ks : List Int) (p : Addr) (H' : Hp), H p = none → Mv K [bx] H H' → BoxAt H' bx (n + 1002) → H' p = some (.lst (ks.map V.int)) → Q (.ref p) H'

theorem ok_L_kept (T : Tx K mg) (g_L_pick : GK P w K mg base "_law_pick" ["_law_box_here", "_law_some"] 2 (sp_L_pick K) []) (g_L_take : GK P w K mg base "_law_take" ["_law_box_here", "_law_many"] 1 (sp_L_take K) []) : GK P w K mg base "_law_kept" ["_law_box_here", "_law_loose"] 3 (sp_L_kept K) [] := gk_mk T.f_L_kept T.m_L_kept (by decide +kernel) sc_L_kept (fun _ _ _ _ _ _ us hl => match us, hl with | [_, _], _ => rfl) (fun _ _ _ _ h => by obtain ⟨_, _, _, _, rfl, _⟩ := h; rfl) fun cdv A outer s H vs Q E hr h => by
  have nd := sc_L_kept.nd
  refine ⟨_, (pss_cons (ps_set (i := 2) nd rfl (Or.inl rfl) (pe_gkK g_L_take hr (by decide) (pa_cons (pv 0) (pa_cons pe_int pa_nil))))
  (pss_cons (ps_if (PW.pt (pw_or (pt_cmpR op_lt (pv 2) pe_int (nomark _)) (pw_or1 (pt_cmpR (op_eqDK K hr.units) (pv 1) (pe_lst pa_nil) (nomark _))))) (pss_one (ps_ret (pe_ifExp (pt_cmpR op_eq (pv 2) pe_int (nomark _)) (pb_list T.b_list (pa_cons (pv 1) pa_nil)) (pe_lst pa_nil)))) pss_nil)
  (pss_cons (ps_if (pt_cmpR op_eq (pv 2) pe_int (nomark _)) (pss_one (ps_ret (pe_lst (pa_cons (pe_gkK g_L_pick hr (by decide) (pa_cons (pv 0) (pa_cons (pv 1) pa_nil))) pa_nil)))) pss_nil)
  (pss_one (ps_ret (pe_w (pe_lc (own := [("_law_at", 3)]) (g := gName 3) (tt := _) rfl nd (pi_listK K (pv 1)) (blkOk_by (N := ["_law_box_here", "_law_loose", "_law_way", "_law_at"]) (sc := defScope s_L_kept) (by decide +kernel)) (fun _ _ _ _ _ => (pg_name (i := 3) nd rfl (Or.inl rfl))) (fun _ _ _ _ _ => (pts_one (pt_cmpR op_eq (pe_gkK g_L_take hr (by decide) (pa_cons (pv 0) (pa_cons pe_int pa_nil))) pe_int (nomark _)))) (fun _ _ _ _ _ => (pv 3))))))))), ?_⟩
  obtain ⟨bx, a, n, ns, rfl, hb, ha, hab, hl, hn, q⟩ := h
  walk_at "go"
  refine ⟨bx, n, _, rfl, hb, by omega, by omega, by omega, fun r H1 hr0 hr1 m1 hb1 => ?_⟩
  have ha1 := m1.at ha (by simpa using hab)
  have nob : ∀ p, H1 p = none → H p = none := fun p hp => by
    cases q2 : H p with
    | none => rfl
    | some o =>
      by_cases hpb : p = bx
      · obtain ⟨_, _, _, h1, _⟩ := hb1
        rw [hpb, h1] at hp
        cases hp
      · rw [m1.at q2 (by simpa using hpb)] at hp
        cases hp
  walk_at "go"
  by_cases h2 : r < 2
  · rw [decide_eq_true h2]
    walk_at "go"
    by_cases h0 : r = 0
    · subst h0
      walk_at "go"
      intro p hp
      exact q ns p _ (nob p hp) (m1.trans (.of_same (same_new hp))) ((hb1.same (same_new hp)).le (by omega)) upd_same
    · rw [show decide (V.int r = V.int 0) = false from decide_eq_false (fun z => h0 (V.int.inj z))]
      walk_at "go"
      intro p hp
      exact q [] p _ (nob p hp) (m1.trans (.of_same (same_new hp))) ((hb1.same (same_new hp)).le (by omega)) upd_same
  · rw [decide_eq_false h2]
    walk_at "go"
    intro p0 hp0
    have ha2 := at_new (o := .lst []) hp0 ha1
    walk_at "go"
    refine ⟨.list (ns.map PyData.int), .list ([].map PyData.int), .lst (SqL.of ha2) (dpall_ints ns), .lst (SqL.of (xs := []) upd_same) .nil, shaped_ints ns, shaped_ints [], ?_⟩
    have hb2 := hb1.same (same_new (o := .lst []) hp0)
    have m2 : Mv K [bx] H (upd H1 p0 (.lst [])) := m1.trans (.of_same (same_new hp0))
    have nob2 : ∀ p, (upd H1 p0 (.lst [])) p = none → H p = none := fun p hp => nob p ((same_new hp0).free hp)
    generalize (upd H1 p0 (.lst [])) = H2 at ha2 hb2 m2 nob2 ⊢
    cases ns with
    | nil =>
      walk_at "go"
      rw [show decide (V.int r = V.int 0) = false from decide_eq_false (fun z => by cases z; omega)]
      walk_at "go"
      intro p hp
      exact q [] p _ (nob2 p hp) (m2.trans (.of_same (same_new hp))) ((hb2.same (same_new hp)).le (by omega)) upd_same
    | cons z zs =>
      rw [show PyData.eqv (.list ((z :: zs).map PyData.int)) (.list ([].map PyData.int)) = false from by simp [PyData.eqv, PyData.eqvAll]]
      walk_at "go"
      by_cases h3 : r = 2
      · subst h3
        walk_at "go"
        refine ⟨bx, a, n + 1, _, rfl, hb2, ha2, hab, by simp, by simp only [List.length_map]; omega, by omega, fun v H3 hv m3 hb3 => ?_⟩
        obtain ⟨i, _, rfl⟩ := List.mem_map.mp hv
        walk_at "go"
        intro p hp
        have nob3 : H p = none := nob2 p (by
          cases q2 : H2 p with
          | none => rfl
          | some o =>
            by_cases hpb : p = bx
            · obtain ⟨_, _, _, h1, _⟩ := hb3
              rw [hpb, h1] at hp
              cases hp
            · rw [m3.at q2 (by simpa using hpb)] at hp
              cases hp)
        exact q [i] p _ nob3 (m2.trans (m3.trans (.of_same (same_new hp)))) ((hb3.same (same_new hp)).le (by omega)) upd_same
      · rw [show decide (V.int r = V.int 2) = false from decide_eq_false (fun z => h3 (V.int.inj z))]
        walk_at "go"
        intro D hD
        have hDb : D ≠ bx := fun y => by obtain ⟨_, _, _, h1, _⟩ := hb2; rw [y, h1] at hD; cases hD
        refine lc_gen (n := ((z :: zs).map V.int).length) (fun i H' => ∃ ks : List Int, H' D = some (.lst (ks.map V.int)) ∧ ks.length ≤ i ∧ Mv K [bx] H2 H' ∧ BoxAt H' bx (n + 1 + i)) ⟨[], upd_same, Nat.le_refl _, .of_same (same_new hD), hb2.same (same_new hD)⟩
          (fun i H' hi ⟨_, _, _, m, _⟩ => itl_go (SqL.of (m.at ha2 (by simpa using hab))) hi) (fun H' ⟨_, _, _, m, _⟩ => itl_stop (SqL.of (m.at ha2 (by simpa using hab)))) ?_ ?_
        · rintro i H' x H3 hi ⟨ks, hks, hkl, m3, hb3⟩ hy
          obtain ⟨rfl, hx⟩ := itl_yld (SqL.of (m3.at ha2 (by simpa using hab))) hy
          rw [List.getElem?_map, Option.map_eq_some_iff] at hx
          obtain ⟨j, _, rfl⟩ := hx
          rw [List.length_map] at hi
          refine ⟨rfl, ?_⟩
          walk_at "go"
          refine ⟨bx, n + 1 + i, _, rfl, hb3, by omega, by omega, by omega, fun r4 H4 _ _ m4 hb4 => ?_⟩
          have hks4 := m4.at hks (by simpa using hDb)
          have m24 := m3.trans m4
          walk_at "go"
          by_cases h5 : r4 = 0
          · subst h5
            walk_at "go"
            refine ⟨_, hks4, ?_, ks ++ [j], by rw [upd_same, List.map_append]; rfl, by simp; omega, mv_own hD m24 hks4, ?_⟩
            · have h6 : (100000 : Nat) < sizeLine := by decide
              rw [List.length_map]
              omega
            · obtain ⟨b0, b1, b2, q1, q2⟩ := hb4
              exact ⟨b0, b1, b2, by rw [upd_ne (Ne.symm hDb)]; exact q1, q2⟩
          · rw [show decide (V.int r4 = V.int 0) = false from decide_eq_false (fun y => h5 (V.int.inj y))]
            exact ⟨ks, hks4, by omega, m24, hb4⟩
        · rintro H' ⟨ks, hks, hkl, m3, hb3⟩
          exact q ks D H' (nob2 D hD) (m2.trans m3) (hb3.le (by rw [List.length_map] at *; simp only [List.length_cons] at hl ⊢; omega)) hks


end
end WS
set_option Elab.async false
set_option linter.all false
set_option maxRecDepth 100000
set_option maxHeartbeats 4000000
/-! the plain law: where blocks lie -/
namespace WS
open PySem PySem.Spec PyProof.Rows L2
theorem four {l : Lay} (h : l.ok) : l.n = 3 ∨ l.n = 4 ∨ l.n = 5 ∨ l.n = 6 := by
  have h1 := h.1
  have h2 := h.2
  omega
/-! ### cells of a row -/
theorem dat_inj {l : Lay} (h : l.ok) {r p q : Int} (p0 : 0 ≤ p) (p1 : p < l.n - 1) (q0 : 0 ≤ q) (q1 : q < l.n - 1) (e : dat l r p = dat l r q) : p = q := by
  obtain ⟨a0, a1⟩ := par_range (l := l) (by have := h.1; omega) r
  unfold dat at e
  generalize par l r = a at a0 a1 e
  split at e
  · rcases four h with z | z | z | z <;> rw [z] at e a1 p1 q1 <;> omega
  · split at e <;> split at e <;> omega
theorem dat_par {l : Lay} (h : l.ok) {r p : Int} (p0 : 0 ≤ p) (p1 : p < l.n - 1) : dat l r p ≠ par l r := by
  obtain ⟨a0, a1⟩ := par_range (l := l) (by have := h.1; omega) r
  unfold dat
  generalize par l r = a at a0 a1
  split
  · rcases four h with z | z | z | z <;> rw [z] at a1 p1 ⊢ <;> omega
  · split <;> omega
theorem dsk_inj {l : Lay} (h : l.ok) {b c : Int} (e : rowOf l b = rowOf l c) (d : dskOf l b = dskOf l c) : b = c := by
  obtain ⟨b0, b1⟩ := place_range h b
  obtain ⟨c0, c1⟩ := place_range h c
  unfold rowOf at e
  unfold dskOf at d
  rw [e] at d b0 b1
  have := dat_inj h b0 b1 c0 c1 d
  omega
theorem dsk_par {l : Lay} (h : l.ok) (b : Int) : dskOf l b ≠ par l (rowOf l b) := by
  obtain ⟨b0, b1⟩ := place_range h b
  exact dat_par h b0 b1
/-! ### which layout -/
theorem layAt_lo {s : SB} {t : Lay} {up : Bool} {b : Int} (h : s.mv = some (t, up)) (hb : b < s.front) : layAt s b = if up = true then t else s.lay := by
  rw [layAt_some h, decide_eq_true hb]
  cases up <;> rfl
theorem layAt_hi {s : SB} {t : Lay} {up : Bool} {b : Int} (h : s.mv = some (t, up)) (hb : s.front ≤ b) : layAt s b = if up = true then s.lay else t := by
  rw [layAt_some h, decide_eq_false (by omega)]
  cases up <;> rfl
/-- what holds of the superblock between two operations -/
structure Geo (s : SB) : Prop where
  ok : s.ok
  go : ∀ t up, s.mv = some (t, up) → over s up = false ∧ (up = true → s.lay.n ≤ t.n) ∧ (up = false → t.n ≤ s.lay.n)
  sep : ∀ t up, s.mv = some (t, up) → ∀ b c : Int, 0 ≤ b → b < s.front → s.front ≤ c → c < s.blocks → rowOf (layAt s b) b < rowOf (layAt s c) c
theorem Geo.apart {s : SB} (g : Geo s) {b c : Int} (b0 : 0 ≤ b) (b1 : b < s.blocks) (c0 : 0 ≤ c) (c1 : c < s.blocks) (e : rowOf (layAt s b) b = rowOf (layAt s c) c) : layAt s b = layAt s c := by
  cases hm : s.mv with
  | none => rw [layAt_none hm, layAt_none hm]
  | some m =>
    obtain ⟨t, up⟩ := m
    by_cases hb : b < s.front <;> by_cases hc : c < s.front
    · rw [layAt_lo hm hb, layAt_lo hm hc]
    · have := g.sep t up hm b c b0 hb (by omega) c1; omega
    · have := g.sep t up hm c b c0 hc (by omega) b1; omega
    · rw [layAt_hi hm (by omega), layAt_hi hm (by omega)]
theorem Geo.inj {s : SB} (g : Geo s) {b c : Int} (b0 : 0 ≤ b) (b1 : b < s.blocks) (c0 : 0 ≤ c) (c1 : c < s.blocks) (e : rowOf (layAt s b) b = rowOf (layAt s c) c) (d : dskOf (layAt s b) b = dskOf (layAt s c) c) : b = c := by
  have h := g.apart b0 b1 c0 c1 e
  rw [h] at e d
  exact dsk_inj (layAt_ok g.ok c) e d
theorem Geo.nopar {s : SB} (g : Geo s) {b c : Int} (b0 : 0 ≤ b) (b1 : b < s.blocks) (c0 : 0 ≤ c) (c1 : c < s.blocks) (e : rowOf (layAt s b) b = rowOf (layAt s c) c) : dskOf (layAt s b) b ≠ par (layAt s c) (rowOf (layAt s c) c) := by
  have h := g.apart b0 b1 c0 c1 e
  rw [← e, ← h]
  exact dsk_par (layAt_ok g.ok b) b
/-! ### rows in use -/
theorem rowsFrom_mem {f b w r : Int} (f0 : 0 ≤ f) (w0 : 0 < w) : r ∈ rowsFrom f b w ↔ ∃ x, f ≤ x ∧ x < b ∧ x / w = r := by
  unfold rowsFrom
  have key : ∀ x y : Int, x ≤ y → x / w ≤ y / w := fun x y h => Int.ediv_le_ediv w0 h
  split
  · rename_i hfb
    simp only [List.mem_map, List.mem_range]
    have h1 := key f (b - 1) (by omega)
    constructor
    · rintro ⟨i, hi, rfl⟩
      have hmul : ∀ k : Int, (k * w) / w = k := fun k => Int.mul_ediv_cancel k (by omega)
      by_cases hx : f ≤ (f / w + i) * w
      · refine ⟨(f / w + i) * w, hx, ?_, hmul _⟩
        have h2 : f / w + (i : Int) ≤ (b - 1) / w := by omega
        have h3 := Int.mul_le_mul_of_nonneg_right h2 (show 0 ≤ w by omega)
        have h4 := Int.ediv_mul_le (b - 1) (show w ≠ 0 by omega)
        omega
      · have hi0 : i = 0 := by
          have h5 := Int.lt_ediv_add_one_mul_self f w0
          by_cases z : i = 0
          · exact z
          · have h6 : f / w + 1 ≤ f / w + (i : Int) := by omega
            have h7 := Int.mul_le_mul_of_nonneg_right h6 (show 0 ≤ w by omega)
            omega
        subst hi0
        exact ⟨f, Int.le_refl _, hfb, by omega⟩
    · rintro ⟨x, x0, x1, rfl⟩
      have h2 := key f x x0
      have h3 := key x (b - 1) (by omega)
      exact ⟨(x / w - f / w).toNat, by omega, by omega⟩
  · rename_i hfb
    constructor
    · intro h; cases h
    · rintro ⟨x, x0, x1, _⟩; omega
theorem used_mem {s : SB} (g : s.ok) {r : Int} : r ∈ usedL s ↔ ∃ b, 0 ≤ b ∧ b < s.blocks ∧ rowOf (layAt s b) b = r := by
  have f0 := g.f0
  have f1 := g.f1
  have hl := g.lay.1
  unfold usedL
  cases hm : s.mv with
  | none =>
    show r ∈ rowsFrom 0 s.blocks (s.lay.n - 1) ↔ _
    rw [rowsFrom_mem (by omega) (by omega)]
    simp only [layAt_none hm]
    rfl
  | some m =>
    obtain ⟨t, up⟩ := m
    have ht := (g.tgt t up hm).1
    show r ∈ rowsFrom 0 s.front (if up = true then t.n - 1 else s.lay.n - 1) ++ rowsFrom s.front s.blocks (if up = true then s.lay.n - 1 else t.n - 1) ↔ _
    have w1 : 0 < (if up = true then t.n - 1 else s.lay.n - 1) := by split <;> omega
    have w2 : 0 < (if up = true then s.lay.n - 1 else t.n - 1) := by split <;> omega
    rw [List.mem_append, rowsFrom_mem (by omega) w1, rowsFrom_mem f0 w2]
    constructor
    · rintro (⟨x, x0, x1, e⟩ | ⟨x, x0, x1, e⟩)
      · refine ⟨x, x0, by omega, ?_⟩
        rw [layAt_lo hm x1, ← e]
        cases up <;> rfl
      · refine ⟨x, by omega, x1, ?_⟩
        rw [layAt_hi hm x0, ← e]
        cases up <;> rfl
    · rintro ⟨b, b0, b1, e⟩
      by_cases hb : b < s.front
      · rw [layAt_lo hm hb] at e
        refine .inl ⟨b, b0, hb, ?_⟩
        rw [← e]
        cases up <;> rfl
      · rw [layAt_hi hm (by omega)] at e
        refine .inr ⟨b, by omega, b1, ?_⟩
        rw [← e]
        cases up <;> rfl
theorem usedB_mem {s : SB} (g : s.ok) {r : Int} : r ∈ usedB s s.blocks.toNat ↔ r ∈ usedL s := by
  rw [used_mem g]
  unfold usedB
  have hb := g.b0
  simp only [List.mem_map, List.mem_range]
  constructor
  · rintro ⟨i, hi, e⟩
    exact ⟨i, by omega, by omega, e⟩
  · rintro ⟨b, b0, b1, e⟩
    refine ⟨b.toNat, by omega, ?_⟩
    rw [Int.toNat_of_nonneg b0]
    exact e
/-! ### a step -/
/-- the row of the step and where it leads -/
theorem step_geo {s : SB} (g : Geo s) {t : Lay} {up : Bool} {r : Int} (hm : s.mv = some (t, up)) (hr : nextRow s = some r) :
    Geo (steppedS s) ∧ (steppedS s).blocks = s.blocks ∧ (steppedS s).aside = none ∧ 0 ≤ r ∧ (∀ R : Nat, s.blocks ≤ 2 * R → r < R) ∧
    (∀ b, 0 ≤ b → b < s.blocks → rowOf t b = r → layAt (steppedS s) b = t) ∧
    (∀ b, 0 ≤ b → b < s.blocks → rowOf t b ≠ r → layAt (steppedS s) b = layAt s b ∧ rowOf (layAt s b) b ≠ r) := by
  obtain ⟨hov, hd1, hd2⟩ := g.go t up hm
  have f0 := g.ok.f0
  have f1 := g.ok.f1
  have b0 := g.ok.b0
  have b1 := g.ok.b1
  have hl := g.ok.lay
  have ht := g.ok.tgt t up hm
  unfold nextRow at hr
  rw [hm] at hr
  replace hr := Option.some.inj hr
  obtain ⟨num, blocks, lay, mv, front, aside⟩ := s
  simp only at hm f0 f1 b0 b1 hl
  subst hm
  simp only at hr hd1 hd2
  have fe : steppedS ⟨num, blocks, lay, some (t, up), front, aside⟩ = endedS ⟨num, blocks, lay, some (t, up), frontB ⟨num, blocks, lay, some (t, up), front, aside⟩, none⟩ := rfl
  rw [fe]
  cases up with
  | true =>
    have hlt : front < blocks := by
      unfold over at hov
      simp only [if_true, decide_eq_false_iff_not] at hov
      omega
    have hln := hd1 rfl
    simp only [if_true] at hr
    have hF : frontB ⟨num, blocks, lay, some (t, true), front, aside⟩ = if blocks < (r + 1) * (t.n - 1) then blocks else (r + 1) * (t.n - 1) := by
      unfold frontB
      simp only [if_true]
      rw [hr]
    generalize frontB ⟨num, blocks, lay, some (t, true), front, aside⟩ = F at hF
    have hFb : F ≤ blocks := by rw [hF]; split <;> omega
    have hrow : ∀ b, rowOf t b = b / (t.n - 1) := fun b => rfl
    have hrowl : ∀ b, rowOf lay b = b / (lay.n - 1) := fun b => rfl
    have r0 : 0 ≤ r := by rw [← hr]; exact Int.ediv_nonneg f0 (by have := ht.1; omega)
    have hFr : front < (r + 1) * (t.n - 1) := by rw [← hr]; exact Int.lt_ediv_add_one_mul_self front (by have := ht.1; omega)
    have hrf : r * (t.n - 1) ≤ front := by rw [← hr]; exact Int.ediv_mul_le front (by have := ht.1; omega)
    have hF0 : 0 < F := by rw [hF]; split <;> omega
    have hR : ∀ R : Nat, blocks ≤ 2 * R → r < R := fun R hR => by
      rcases four ht with z | z | z | z <;> rw [z] at hrf <;> omega
    have inrow : ∀ b, rowOf t b = r → r * (t.n - 1) ≤ b ∧ b < (r + 1) * (t.n - 1) := fun b e => by
      rw [hrow] at e
      rw [← e]
      exact ⟨Int.ediv_mul_le b (by have := ht.1; omega), Int.lt_ediv_add_one_mul_self b (by have := ht.1; omega)⟩
    have outrow : ∀ b, rowOf t b ≠ r → b < r * (t.n - 1) ∨ (r + 1) * (t.n - 1) ≤ b := fun b e => by
      rw [hrow] at e
      rcases Int.lt_or_le b (r * (t.n - 1)) with z | z
      · exact .inl z
      · rcases Int.lt_or_le b ((r + 1) * (t.n - 1)) with z2 | z2
        · exact absurd (by
            have h1 := (Int.le_ediv_iff_mul_le (show 0 < t.n - 1 by have := ht.1; omega)).mpr z
            have h2 := (Int.ediv_lt_iff_lt_mul (show 0 < t.n - 1 by have := ht.1; omega)).mpr z2
            omega) e
        · exact .inr z2
    have lowrow : ∀ b, b < r * (t.n - 1) → b / (t.n - 1) < r := fun b z => (Int.ediv_lt_iff_lt_mul (show 0 < t.n - 1 by have := ht.1; omega)).mpr z
    have hirow : ∀ b, (r + 1) * (t.n - 1) ≤ b → r + 1 ≤ b / (lay.n - 1) := fun b z => by
      refine (Int.le_ediv_iff_mul_le (show 0 < lay.n - 1 by have := hl.1; omega)).mpr ?_
      have h3 := Int.mul_le_mul_of_nonneg_left (show lay.n - 1 ≤ t.n - 1 by omega) (show 0 ≤ r + 1 by omega)
      omega
    by_cases hov2 : blocks ≤ F
    · have e2 : endedS ⟨num, blocks, lay, some (t, true), F, none⟩ = ⟨num, blocks, t, none, 0, none⟩ := by
        unfold endedS over
        simp only [if_true, decide_eq_true hov2]
      rw [e2]
      refine ⟨⟨⟨ht, fun t up h => (by cases h), b0, b1, Int.le_refl _, by show 0 ≤ blocks; omega⟩, fun t up h => (by cases h), fun t up h => (by cases h)⟩, rfl, rfl, r0, hR, fun b _ _ _ => rfl, fun b c0 c1 e => ?_⟩
      replace c1 : b < blocks := c1
      rcases outrow b e with z | z
      · have hb : layAt ⟨num, blocks, lay, some (t, true), front, aside⟩ b = t := by rw [layAt_lo (s := ⟨num, blocks, lay, some (t, true), front, aside⟩) rfl (show b < front by omega)]; rfl
        rw [hb]
        exact ⟨rfl, e⟩
      · exfalso
        rw [hF] at hov2
        split at hov2 <;> omega
    · have e2 : endedS ⟨num, blocks, lay, some (t, true), F, none⟩ = ⟨num, blocks, lay, some (t, true), F, none⟩ := by
        unfold endedS over
        simp only [if_true, decide_eq_false hov2]
        rfl
      rw [e2]
      have hFe : F = (r + 1) * (t.n - 1) := by
        rw [hF] at hov2 ⊢
        split at hov2
        · omega
        · rename_i q; rw [if_neg q]
      refine ⟨⟨⟨hl, fun t' up h => (by cases h; exact ht), b0, b1, (by show 0 ≤ F; omega), hFb⟩, fun t' up h => ?_, fun t' up h b c c0 c1 c2 c3 => ?_⟩, rfl, rfl, r0, hR, fun b c0 c1 e => ?_, fun b c0 c1 e => ?_⟩
      · cases h
        refine ⟨?_, fun _ => hln, fun h => (by cases h)⟩
        unfold over
        simp only [if_true, decide_eq_false hov2]
      · cases h
        simp only at c1 c2 c3
        rw [layAt_lo (s := ⟨num, blocks, lay, some (t, true), F, none⟩) rfl c1, layAt_hi (s := ⟨num, blocks, lay, some (t, true), F, none⟩) rfl c2]
        show b / (t.n - 1) < c / (lay.n - 1)
        have h1 := hirow c (by omega)
        have h2 := (Int.ediv_lt_iff_lt_mul (show 0 < t.n - 1 by have := ht.1; omega)).mpr (show b < (r + 1) * (t.n - 1) by omega)
        omega
      · have := inrow b e
        rw [layAt_lo (s := ⟨num, blocks, lay, some (t, true), F, none⟩) rfl (show b < F by omega)]
        rfl
      · rcases outrow b e with z | z
        · rw [layAt_lo (s := ⟨num, blocks, lay, some (t, true), F, none⟩) rfl (show b < F by omega), layAt_lo (s := ⟨num, blocks, lay, some (t, true), front, aside⟩) rfl (show b < front by omega)]
          exact ⟨rfl, e⟩
        · rw [layAt_hi (s := ⟨num, blocks, lay, some (t, true), F, none⟩) rfl (show F ≤ b by omega), layAt_hi (s := ⟨num, blocks, lay, some (t, true), front, aside⟩) rfl (show front ≤ b by omega)]
          refine ⟨rfl, ?_⟩
          show b / (lay.n - 1) ≠ r
          have := hirow b z
          omega
  | false =>
    have hlt : 0 < front := by
      unfold over at hov
      simp only [Bool.false_eq_true, if_false, decide_eq_false_iff_not] at hov
      omega
    have hln := hd2 rfl
    simp only [Bool.false_eq_true, if_false] at hr
    have hF : frontB ⟨num, blocks, lay, some (t, false), front, aside⟩ = r * (t.n - 1) := by
      unfold frontB
      simp only [Bool.false_eq_true, if_false]
      rw [hr]
    generalize frontB ⟨num, blocks, lay, some (t, false), front, aside⟩ = F at hF
    have r0 : 0 ≤ r := by rw [← hr]; exact Int.ediv_nonneg (by omega) (by have := ht.1; omega)
    have hFr : front - 1 < (r + 1) * (t.n - 1) := by rw [← hr]; exact Int.lt_ediv_add_one_mul_self (front - 1) (by have := ht.1; omega)
    have hrf : r * (t.n - 1) ≤ front - 1 := by rw [← hr]; exact Int.ediv_mul_le (front - 1) (by have := ht.1; omega)
    have hF0 : 0 ≤ F := by rw [hF]; exact Int.mul_nonneg r0 (by have := ht.1; omega)
    have hR : ∀ R : Nat, blocks ≤ 2 * R → r < R := fun R hR => by
      rcases four ht with z | z | z | z <;> rw [z] at hrf <;> omega
    have hrow : ∀ b, rowOf t b = b / (t.n - 1) := fun b => rfl
    have inrow : ∀ b, rowOf t b = r → r * (t.n - 1) ≤ b ∧ b < (r + 1) * (t.n - 1) := fun b e => by
      rw [hrow] at e
      rw [← e]
      exact ⟨Int.ediv_mul_le b (by have := ht.1; omega), Int.lt_ediv_add_one_mul_self b (by have := ht.1; omega)⟩
    have outrow : ∀ b, rowOf t b ≠ r → b < r * (t.n - 1) ∨ (r + 1) * (t.n - 1) ≤ b := fun b e => by
      rw [hrow] at e
      rcases Int.lt_or_le b (r * (t.n - 1)) with z | z
      · exact .inl z
      · rcases Int.lt_or_le b ((r + 1) * (t.n - 1)) with z2 | z2
        · exact absurd (by
            have h1 := (Int.le_ediv_iff_mul_le (show 0 < t.n - 1 by have := ht.1; omega)).mpr z
            have h2 := (Int.ediv_lt_iff_lt_mul (show 0 < t.n - 1 by have := ht.1; omega)).mpr z2
            omega) e
        · exact .inr z2
    have lowrow : ∀ b, 0 ≤ b → b < r * (t.n - 1) → b / (lay.n - 1) < r := fun b c0 z => by
      have h1 : b / (lay.n - 1) < r := (Int.ediv_lt_iff_lt_mul (show 0 < lay.n - 1 by have := hl.1; omega)).mpr (by
        have h3 := Int.mul_le_mul_of_nonneg_left (show t.n - 1 ≤ lay.n - 1 by omega) r0
        omega)
      exact h1
    by_cases hov2 : F ≤ 0
    · have e2 : endedS ⟨num, blocks, lay, some (t, false), F, none⟩ = ⟨num, blocks, t, none, 0, none⟩ := by
        unfold endedS over
        simp only [Bool.false_eq_true, if_false, decide_eq_true hov2, if_true]
      rw [e2]
      refine ⟨⟨⟨ht, fun t up h => (by cases h), b0, b1, Int.le_refl _, by show 0 ≤ blocks; omega⟩, fun t up h => (by cases h), fun t up h => (by cases h)⟩, rfl, rfl, r0, hR, fun b _ _ _ => rfl, fun b c0 c1 e => ?_⟩
      replace c1 : b < blocks := c1
      rcases outrow b e with z | z
      · exfalso; omega
      · have hb : layAt ⟨num, blocks, lay, some (t, false), front, aside⟩ b = t := by rw [layAt_hi (s := ⟨num, blocks, lay, some (t, false), front, aside⟩) rfl (show front ≤ b by omega)]; rfl
        rw [hb]
        exact ⟨rfl, e⟩
    · have e2 : endedS ⟨num, blocks, lay, some (t, false), F, none⟩ = ⟨num, blocks, lay, some (t, false), F, none⟩ := by
        unfold endedS over
        simp only [Bool.false_eq_true, if_false, decide_eq_false hov2]
      rw [e2]
      refine ⟨⟨⟨hl, fun t' up h => (by cases h; exact ht), b0, b1, hF0, by show F ≤ blocks; omega⟩, fun t' up h => ?_, fun t' up h b c c0 c1 c2 c3 => ?_⟩, rfl, rfl, r0, hR, fun b c0 c1 e => ?_, fun b c0 c1 e => ?_⟩
      · cases h
        refine ⟨?_, fun h => (by cases h), fun _ => hln⟩
        unfold over
        simp only [Bool.false_eq_true, if_false, decide_eq_false hov2]
      · cases h
        simp only at c1 c2 c3
        rw [layAt_lo (s := ⟨num, blocks, lay, some (t, false), F, none⟩) rfl c1, layAt_hi (s := ⟨num, blocks, lay, some (t, false), F, none⟩) rfl c2]
        show b / (lay.n - 1) < c / (t.n - 1)
        have h1 := lowrow b c0 (by omega)
        have h2 : r ≤ c / (t.n - 1) := (Int.le_ediv_iff_mul_le (show 0 < t.n - 1 by have := ht.1; omega)).mpr (by omega)
        omega
      · have := inrow b e
        rw [layAt_hi (s := ⟨num, blocks, lay, some (t, false), F, none⟩) rfl (show F ≤ b by omega)]
        rfl
      · rcases outrow b e with z | z
        · rw [layAt_lo (s := ⟨num, blocks, lay, some (t, false), F, none⟩) rfl (show b < F by omega), layAt_lo (s := ⟨num, blocks, lay, some (t, false), front, aside⟩) rfl (show b < front by omega)]
          refine ⟨rfl, ?_⟩
          show b / (lay.n - 1) ≠ r
          have := lowrow b c0 z
          omega
        · rw [layAt_hi (s := ⟨num, blocks, lay, some (t, false), F, none⟩) rfl (show F ≤ b by omega), layAt_hi (s := ⟨num, blocks, lay, some (t, false), front, aside⟩) rfl (show front ≤ b by omega)]
          exact ⟨rfl, e⟩
/-! ### a change begins, is turned -/
theorem begun_geo {s : SB} (g : Geo s) {t : Lay} (hm : s.mv = none) (ht : t.ok) : Geo (begunS s t) ∧ ∀ b, 0 ≤ b → b < s.blocks → layAt (begunS s t) b = layAt s b := by
  have b0 := g.ok.b0
  have b1 := g.ok.b1
  by_cases hn : s.lay.n ≤ t.n
  · have hmv : (begunS s t).mv = some (t, true) := by unfold begunS; rw [decide_eq_true hn]
    have hf : (begunS s t).front = 0 := by unfold begunS; simp only [if_pos hn]
    refine ⟨⟨⟨g.ok.lay, fun t' up h => ?_, b0, b1, (by rw [hf]; exact Int.le_refl _), (by rw [hf]; show 0 ≤ s.blocks; omega)⟩, fun t' up h => ?_, fun t' up h b c c0 c1 => ?_⟩, fun b c0 c1 => ?_⟩
    · rw [hmv] at h; cases h; exact ht
    · rw [hmv] at h; cases h
      refine ⟨?_, fun _ => hn, fun h => (by cases h)⟩
      unfold over
      rw [hf]
      exact decide_eq_false (by show ¬ s.blocks ≤ 0; omega)
    · rw [hf] at c1; omega
    · rw [layAt_hi hmv (by rw [hf]; exact c0), layAt_none hm]
      rfl
  · have hmv : (begunS s t).mv = some (t, false) := by unfold begunS; rw [decide_eq_false hn]
    have hf : (begunS s t).front = s.blocks := by unfold begunS; simp only [if_neg hn]
    refine ⟨⟨⟨g.ok.lay, fun t' up h => ?_, b0, b1, (by rw [hf]; omega), (by rw [hf]; exact Int.le_refl _)⟩, fun t' up h => ?_, fun t' up h b c c0 c1 c2 c3 => ?_⟩, fun b c0 c1 => ?_⟩
    · rw [hmv] at h; cases h; exact ht
    · rw [hmv] at h; cases h
      refine ⟨?_, fun h => (by cases h), fun _ => by show t.n ≤ s.lay.n; omega⟩
      unfold over
      rw [hf]
      exact decide_eq_false (by omega)
    · rw [hf] at c2
      have : (begunS s t).blocks = s.blocks := rfl
      omega
    · rw [layAt_lo hmv (by rw [hf]; exact c1), layAt_none hm]
      rfl
theorem turned_geo {s : SB} (g : Geo s) {t : Lay} {up : Bool} (hm : s.mv = some (t, up)) : Geo (turnedS s) ∧ (turnedS s).blocks = s.blocks ∧ (turnedS s).aside = s.aside ∧ ∀ b, 0 ≤ b → b < s.blocks → layAt (turnedS s) b = layAt s b := by
  have b0 := g.ok.b0
  have b1 := g.ok.b1
  have f0 := g.ok.f0
  have f1 := g.ok.f1
  have ht := g.ok.tgt t up hm
  obtain ⟨hov, hd1, hd2⟩ := g.go t up hm
  have e : turnedS s = endedS (turnS s t up) := by unfold turnedS; rw [hm]
  rw [e]
  have hmv : (turnS s t up).mv = some (s.lay, !up) := rfl
  have hlay : ∀ b, layAt (turnS s t up) b = layAt s b := fun b => by
    by_cases hb : b < s.front
    · rw [layAt_lo hmv (show b < s.front from hb), layAt_lo hm hb]
      cases up <;> rfl
    · rw [layAt_hi hmv (show s.front ≤ b by omega), layAt_hi hm (by omega)]
      cases up <;> rfl
  by_cases hov2 : over (turnS s t up) (!up) = true
  · have e2 : endedS (turnS s t up) = ⟨s.num + 1, s.blocks, s.lay, none, 0, s.aside⟩ := by
      show (if over (turnS s t up) (!up) = true then _ else _) = _
      rw [if_pos hov2]
      rfl
    rw [e2]
    refine ⟨⟨⟨g.ok.lay, fun t up h => (by cases h), b0, b1, Int.le_refl _, by show 0 ≤ s.blocks; omega⟩, fun t up h => (by cases h), fun t up h => (by cases h)⟩, rfl, rfl, fun b c0 c1 => ?_⟩
    show s.lay = _
    unfold over at hov2
    cases up with
    | true =>
      have hz : s.front ≤ 0 := by
        simp only [Bool.not_true, Bool.false_eq_true, if_false, decide_eq_true_eq] at hov2
        exact hov2
      rw [layAt_hi hm (by omega)]
      rfl
    | false =>
      have hz : s.blocks ≤ s.front := by
        simp only [Bool.not_false, if_true, decide_eq_true_eq] at hov2
        exact hov2
      rw [layAt_lo hm (by omega)]
      rfl
  · have e2 : endedS (turnS s t up) = turnS s t up := by
      show (if over (turnS s t up) (!up) = true then _ else _) = _
      rw [if_neg hov2]
    rw [e2]
    refine ⟨⟨⟨ht, fun t' up' h => (by rw [hmv] at h; cases h; exact g.ok.lay), b0, b1, f0, f1⟩, fun t' up' h => ?_, fun t' up' h b c c0 c1 c2 c3 => ?_⟩, rfl, rfl, fun b c0 c1 => hlay b⟩
    · rw [hmv] at h; cases h
      refine ⟨by simpa using hov2, ?_, ?_⟩
      · intro h; exact hd2 (by simpa using h)
      · intro h; exact hd1 (by simpa using h)
    · rw [hlay, hlay]
      exact g.sep t up hm b c c0 c1 c2 c3
end WS
set_option Elab.async false
set_option linter.all false
set_option maxRecDepth 100000
set_option maxHeartbeats 4000000
/-! the plain law: what the cells hold -/
namespace WS
open PySem PySem.Spec PyProof.Rows L2
/-! ### one entry -/
theorem cell_data_ne {ds : List DiskS} {k r k' r' : Nat} {x : Int} (h : k' ≠ k ∨ r' ≠ r) : cellAt (ap1 ds (.data k r x)) k' r' = cellAt ds k' r' := by
  unfold cellAt ap1
  simp only [List.getElem?_modify]
  cases hd : ds[k']? with
  | none => simp
  | some d =>
    by_cases hk : k = k'
    · subst hk
      have hr : r' ≠ r := by rcases h with z | z; exact absurd rfl z; exact z
      simp only [if_true, Option.map_eq_map, Option.map_some]
      show (d.cells.set r x).getD r' 0 = d.cells.getD r' 0
      simp [List.getD, List.getElem?_set, Ne.symm hr]
    · simp [hk]
theorem cell_data_eq {ds : List DiskS} {R k r : Nat} {x : Int} (h6 : ds.length = 6) (hok : ∀ d ∈ ds, d.ok R) (hk : k < 6) (hr : r < R) : cellAt (ap1 ds (.data k r x)) k r = x := by
  unfold cellAt ap1
  simp only [List.getElem?_modify]
  have hd : ds[k]? = some ds[k] := List.getElem?_eq_getElem (by omega)
  have hn := (hok ds[k] (List.getElem_mem (by omega))).n
  rw [hd]
  simp only [if_true, Option.map_eq_map, Option.map_some]
  show ((ds[k]).cells.set r x).getD r 0 = x
  simp [List.getD, List.getElem?_set, hn, hr]
theorem cell_meta {ds : List DiskS} {k k' r' : Nat} {m : Mt} {c : PyData} : cellAt (ap1 ds (.meta_ k m c)) k' r' = cellAt ds k' r' := by
  unfold cellAt ap1
  simp only [List.getElem?_modify]
  cases hd : ds[k']? with
  | none => simp
  | some d =>
    by_cases hk : k = k'
    · subst hk
      simp only [if_true, Option.map_eq_map, Option.map_some]
      cases m <;> rfl
    · simp [hk]
theorem ap_app (ds : List DiskS) (xs ys : List En) : ap ds (xs ++ ys) = ap (ap ds xs) ys := List.foldl_append ..
theorem ap_cons (ds : List DiskS) (x : En) (ys : List En) : ap ds (x :: ys) = ap (ap1 ds x) ys := rfl
def isMeta : En → Prop
  | .meta_ _ _ _ => True
  | _ => False
theorem cell_metas {k r : Nat} : ∀ {es : List En} {ds : List DiskS}, (∀ e ∈ es, isMeta e) → cellAt (ap ds es) k r = cellAt ds k r
  | [], _, _ => rfl
  | e :: es, ds, h => by
    rw [ap_cons, cell_metas (fun e he => h e (List.mem_cons_of_mem _ he))]
    have h1 := h e List.mem_cons_self
    cases e with
    | meta_ k m c => exact cell_meta
    | _ => exact h1.elim
theorem asideEs_meta (s : SB) (row : Int) (vals : List Int) : ∀ e ∈ asideEs s row vals, isMeta e := fun e he => by
  obtain ⟨k, _, rfl⟩ := List.mem_map.mp he
  trivial
theorem superEs_meta (s : SB) : ∀ e ∈ superEs s, isMeta e := fun e he => by
  obtain ⟨k, _, rfl⟩ := List.mem_map.mp he
  trivial
theorem ok_ap {R : Nat} : ∀ {es : List En} {ds : List DiskS}, (∀ d ∈ ds, d.ok R) → (∀ e ∈ es, e.ok R) → ∀ d ∈ ap ds es, d.ok R
  | [], _, h, _ => h
  | e :: es, ds, h, he => ok_ap (es := es) (ok_ap1 h (he e List.mem_cons_self)) (fun e h => he e (List.mem_cons_of_mem _ h))
theorem len_ap : ∀ (es : List En) (ds : List DiskS), (ap ds es).length = ds.length
  | [], _ => rfl
  | e :: es, ds => (len_ap es (ap1 ds e)).trans (len_ap1 ds e)
/-! ### the cells of a row -/
theorem cell_off {row : Int} {k r : Nat} : ∀ {ps : List (Int × Int)} {ds : List DiskS}, (r ≠ row.toNat ∨ ∀ p ∈ ps, p.1.toNat ≠ k) → cellAt (ap ds (dataEs row ps)) k r = cellAt ds k r
  | [], _, _ => rfl
  | p :: ps, ds, h => by
    show cellAt (ap (ap1 ds (.data p.1.toNat row.toNat p.2)) (dataEs row ps)) k r = _
    rw [cell_off (ps := ps) (h.imp id fun h q hq => h q (List.mem_cons_of_mem _ hq))]
    exact cell_data_ne (h.symm.imp (fun h => (h p List.mem_cons_self).symm) id)
theorem cell_on {row : Int} {R : Nat} (hr : row.toNat < R) : ∀ {ps : List (Int × Int)} {ds : List DiskS}, ds.length = 6 → (∀ d ∈ ds, d.ok R) → (∀ p ∈ ps, p.1.toNat < 6) → (ps.map fun p => p.1.toNat).Nodup → ∀ p ∈ ps, cellAt (ap ds (dataEs row ps)) p.1.toNat row.toNat = p.2
  | [], _, _, _, _, _, _, h => by cases h
  | q :: ps, ds, h6, hok, hk, hn, p, hp => by
    show cellAt (ap (ap1 ds (.data q.1.toNat row.toNat q.2)) (dataEs row ps)) p.1.toNat row.toNat = _
    have hq := hk q List.mem_cons_self
    rw [List.map_cons, List.nodup_cons] at hn
    rcases List.mem_cons.mp hp with z | z
    · subst z
      rw [cell_off (.inr fun x hx e => hn.1 (List.mem_map.mpr ⟨x, hx, e⟩))]
      exact cell_data_eq h6 hok hq hr
    · exact cell_on hr (by rw [len_ap1]; exact h6) (ok_ap1 (e := .data _ _ _) hok ⟨hq, hr⟩) (fun x hx => hk x (List.mem_cons_of_mem _ hx)) hn.2 p z
/-! ### flushed puts -/
theorem puts_eq : ∀ (es : List En) (c : CeS), c.puts es = ⟨c.begun, ap c.disks es, c.done ++ es, if es.isEmpty = true then c.loose else true⟩
  | [], c => by simp [CeS.puts, ap]
  | e :: es, c => by
    show (c.put e).puts es = _
    rw [puts_eq es]
    simp only [CeS.put, ap_cons, List.isEmpty_cons, List.append_assoc, List.singleton_append]
    congr 1
    cases es <;> rfl
theorem puf {es : List En} (c : CeS) (h : es ≠ []) : (c.puts es).flush = ⟨c.begun, ap c.disks es, c.done ++ es ++ [.flush], false⟩ := by
  rw [puts_eq]
  cases es with
  | nil => exact absurd rfl h
  | cons e es => rfl
theorem super_ne (s : SB) : superEs s ≠ [] := fun h => by cases h
theorem aside_ne (s : SB) (r : Int) (vals : List Int) : asideEs s r vals ≠ [] := fun h => by cases h
/-! ### what is loose -/
theorem looseF_app : ∀ (xs ys : List En) (i : Nat) (acc : List Int), looseF i acc (xs ++ ys) = looseF (i + xs.length) (looseF i acc xs) ys
  | [], ys, i, acc => rfl
  | e :: xs, ys, i, acc => by
    have e1 : i + (e :: xs).length = i + 1 + xs.length := by rw [List.length_cons]; omega
    rw [e1]
    cases e <;> exact looseF_app xs ys (i + 1) _
theorem loose_flush (xs : List En) : looseAt (xs ++ [.flush]) = [] := by
  unfold looseAt
  rw [looseF_app]
  rfl
theorem looseF_ge {n : Int} : ∀ (es : List En) (i : Nat) (acc : List Int), n ≤ i → (∀ x ∈ acc, n ≤ x) → ∀ x ∈ looseF i acc es, n ≤ x
  | [], i, acc, _, h => h
  | e :: es, i, acc, hi, h => by
    have hs : ∀ x ∈ acc ++ [(i : Int)], n ≤ x := fun x hx => by
      rcases List.mem_append.mp hx with z | z
      · exact h x z
      · rw [List.mem_singleton.mp z]; exact hi
    cases e with
    | data k r x => exact looseF_ge es (i + 1) _ (by omega) hs
    | meta_ k m c => exact looseF_ge es (i + 1) _ (by omega) hs
    | flush => exact looseF_ge es (i + 1) _ (by omega) (fun x hx => by cases hx)
    | bg b v => exact looseF_ge es (i + 1) _ (by omega) h
    | dn b => exact looseF_ge es (i + 1) _ (by omega) h
theorem filmF_app (lost : List Int) : ∀ (xs ys : List En) (i : Nat) (ds : List DiskS), filmF lost i ds (xs ++ ys) = filmF lost (i + xs.length) (filmF lost i ds xs) ys
  | [], ys, i, ds => rfl
  | e :: xs, ys, i, ds => by
    have e1 : i + (e :: xs).length = i + 1 + xs.length := by rw [List.length_cons]; omega
    rw [e1]
    exact filmF_app lost xs ys (i + 1) _
theorem filmF_ap {lost : List Int} : ∀ {xs : List En} {i : Nat} {ds : List DiskS}, (∀ x ∈ lost, ((i + xs.length : Nat) : Int) ≤ x) → filmF lost i ds xs = ap ds xs
  | [], i, ds, _ => rfl
  | e :: xs, i, ds, h => by
    have hn : ¬ (i : Int) ∈ lost := fun m => by
      have := h _ m
      rw [List.length_cons] at this
      omega
    show filmF lost (i + 1) (if (i : Int) ∈ lost then ds else ap1 ds e) xs = _
    rw [if_neg hn]
    exact filmF_ap fun x hx => by
      have := h x hx
      rw [List.length_cons] at this
      omega
theorem filmF_ok {lost : List Int} {R : Nat} : ∀ {xs : List En} {i : Nat} {ds : List DiskS}, (∀ d ∈ ds, d.ok R) → (∀ e ∈ xs, e.ok R) → (∀ d ∈ filmF lost i ds xs, d.ok R)
  | [], _, _, h, _ => h
  | e :: xs, i, ds, h, he => by
    show ∀ d ∈ filmF lost (i + 1) (if (i : Int) ∈ lost then ds else ap1 ds e) xs, d.ok R
    refine filmF_ok ?_ (fun e h => he e (List.mem_cons_of_mem _ h))
    split
    · exact h
    · exact ok_ap1 h (he e List.mem_cons_self)
theorem filmF_len {lost : List Int} : ∀ {xs : List En} {i : Nat} {ds : List DiskS}, (filmF lost i ds xs).length = ds.length
  | [], _, _ => rfl
  | e :: xs, i, ds => by
    show (filmF lost (i + 1) (if (i : Int) ∈ lost then ds else ap1 ds e) xs).length = _
    rw [filmF_len]
    split
    · rfl
    · exact len_ap1 _ _
theorem filmF_off {lost : List Int} {row : Int} {k r : Nat} (hr : r ≠ row.toNat) : ∀ {xs : List En} {i : Nat} {ds : List DiskS}, (∀ e ∈ xs, ∃ k x, e = .data k row.toNat x) → cellAt (filmF lost i ds xs) k r = cellAt ds k r
  | [], _, _, _ => rfl
  | e :: xs, i, ds, h => by
    show cellAt (filmF lost (i + 1) (if (i : Int) ∈ lost then ds else ap1 ds e) xs) k r = _
    rw [filmF_off hr (fun e he => h e (List.mem_cons_of_mem _ he))]
    split
    · rfl
    · obtain ⟨k', x, rfl⟩ := h e List.mem_cons_self
      exact cell_data_ne (.inr hr)
/-! ### between two operations -/
structure Wf (S : ArrS) (R : Nat) (ws : List Int) : Prop where
  g : Geo S.sb
  ce : S.ce.ok R
  br : S.sb.blocks ≤ 2 * R
  asd : S.sb.aside = none
  loose : S.ce.loose = false
  fl : looseAt S.ce.done = []
  wl : (ws.length : Int) = S.sb.blocks
  val : ∀ i : Nat, i < ws.length → valAt S.sb S.ce.disks i = ws.getD i 0
theorem val_eq {s s' : SB} {ds ds' : List DiskS} {b : Int} (hl : layAt s' b = layAt s b) (hc : cellAt ds' (dskOf (layAt s b) b).toNat (rowOf (layAt s b) b).toNat = cellAt ds (dskOf (layAt s b) b).toNat (rowOf (layAt s b) b).toNat) : valAt s' ds' b = valAt s ds b := by
  unfold valAt
  rw [hl]
  exact hc
theorem told_ws {s : SB} {ds : List DiskS} {ws : List Int} (wl : (ws.length : Int) = s.blocks) (h : ∀ i : Nat, i < ws.length → valAt s ds i = ws.getD i 0) : toldL s ds = ws := by
  unfold toldL
  refine List.ext_getElem (by simp; omega) fun i h1 h2 => ?_
  rw [List.getElem_map, List.getElem_range, h i h2]
  simp [List.getD, h2]
/-! ### a superblock is put -/
theorem goOn_ce (S : ArrS) (u : UpS) : (goOn S u).ce = ⟨S.ce.begun, ap S.ce.disks (superEs (u.app S.sb 1)), S.ce.done ++ superEs (u.app S.sb 1) ++ [.flush], false⟩ := puf _ (super_ne _)
theorem goOn_wf {S : ArrS} {R : Nat} {ws : List Int} (h : Wf S R ws) {u : UpS} (g : Geo (u.app S.sb 1)) (hb : (u.app S.sb 1).blocks = S.sb.blocks) (ha : (u.app S.sb 1).aside = none) (hl : ∀ b, 0 ≤ b → b < S.sb.blocks → layAt (u.app S.sb 1) b = layAt S.sb b) : Wf (goOn S u) R ws := by
  have hce := goOn_ce S u
  refine ⟨g, goOn_ok h.ce, by show (u.app S.sb 1).blocks ≤ _; rw [hb]; exact h.br, ha, by rw [hce], by rw [hce]; exact loose_flush _, by show _ = (u.app S.sb 1).blocks; rw [hb]; exact h.wl, fun i hi => ?_⟩
  rw [← h.val i hi]
  have := h.wl
  exact val_eq (hl i (by omega) (by omega)) (by rw [hce]; exact cell_metas (superEs_meta _))
theorem Geo.num {s : SB} (g : Geo s) (n : Int) : Geo { s with num := n } := ⟨⟨g.ok.lay, g.ok.tgt, g.ok.b0, g.ok.b1, g.ok.f0, g.ok.f1⟩, g.go, g.sep⟩
theorem change_wf {S : ArrS} {R : Nat} {ws : List Int} (h : Wf S R ws) {t : Lay} (hm : S.sb.mv = none) (ht : t.ok) : Wf (goOn S (.all (begunS S.sb t))) R ws := by
  obtain ⟨g, hl⟩ := begun_geo h.g hm ht
  exact goOn_wf h (u := .all (begunS S.sb t)) (g.num _) rfl h.asd hl
theorem turn_wf {S : ArrS} {R : Nat} {ws : List Int} (h : Wf S R ws) {t : Lay} {up : Bool} (hm : S.sb.mv = some (t, up)) : Wf (goOn S (.all (turnedS S.sb))) R ws := by
  obtain ⟨g, hb, ha, hl⟩ := turned_geo h.g hm
  exact goOn_wf h (u := .all (turnedS S.sb)) (g.num _) hb (ha.trans h.asd) hl
/-! ### a block is written -/
theorem write_wf {S : ArrS} {R : Nat} {ws : List Int} (h : Wf S R ws) {b x y : Int} {lc : PyData} (b0 : 0 ≤ b) (b1 : b < S.sb.blocks) (hlc : fits 3 lc) : Wf ⟨S.sb, writeCe S.ce S.sb b x y lc⟩ R (ws.set b.toNat x) := by
  have hwl := h.wl
  have hbr := h.br
  have hlo := layAt_ok h.g.ok b
  have hl2 := hlo.2
  obtain ⟨r0, r1⟩ := row_range h.g.ok b0 (R := R) (by omega)
  obtain ⟨k0, k1⟩ := dsk_range hlo b
  obtain ⟨q0, q1, hP⟩ := wP_range h.g.ok b
  have hK : wK S.sb b < 6 := by unfold wK; omega
  have hR : wR S.sb b < R := by unfold wR; omega
  have hok1 : (((S.ce.note (.bg b x)).put (.meta_ (wP S.sb b) .lg lc)).flush).ok R := ((h.ce.ok_note (e := .bg b x) trivial).ok_put (e := .meta_ (wP S.sb b) .lg lc) ⟨hP, hlc⟩).ok_flush
  have hokD : ((((S.ce.note (.bg b x)).put (.meta_ (wP S.sb b) .lg lc)).flush).put (.data (wK S.sb b) (wR S.sb b) x)).ok R := hok1.ok_put (e := .data (wK S.sb b) (wR S.sb b) x) ⟨hK, hR⟩
  have hok : (writeCe S.ce S.sb b x y lc).ok R := ((hokD.ok_put (e := .data (wP S.sb b) (wR S.sb b) y) ⟨hP, hR⟩).ok_flush).ok_note (e := .dn b) trivial
  have hd : (writeCe S.ce S.sb b x y lc).disks = ap1 (ap1 (ap1 S.ce.disks (.meta_ (wP S.sb b) .lg lc)) (.data (wK S.sb b) (wR S.sb b) x)) (.data (wP S.sb b) (wR S.sb b) y) := rfl
  have hdone : (writeCe S.ce S.sb b x y lc).done = ((((S.ce.done ++ [.bg b x]) ++ [.meta_ (wP S.sb b) .lg lc] ++ [.flush]) ++ [.data (wK S.sb b) (wR S.sb b) x]) ++ [.data (wP S.sb b) (wR S.sb b) y] ++ [.flush]) ++ [.dn b] := rfl
  refine ⟨h.g, hok, h.br, h.asd, rfl, ?_, by rw [List.length_set]; exact h.wl, fun i hi => ?_⟩
  · rw [hdone, looseAt_snoc, loose_flush]
    rfl
  · rw [List.length_set] at hi
    have hne : dskOf (layAt S.sb b) b ≠ par (layAt S.sb b) (rowOf (layAt S.sb b) b) := h.g.nopar b0 b1 b0 b1 rfl
    show valAt S.sb (writeCe S.ce S.sb b x y lc).disks i = _
    rw [hd]
    unfold valAt
    by_cases hib : (i : Int) = b
    · subst hib
      rw [cell_data_ne (.inl (by unfold wP; omega))]
      rw [show (ws.set (i : Int).toNat x).getD i 0 = x from by simp [List.getD, List.getElem?_set, hi]]
      exact cell_data_eq (by rw [len_ap1]; exact h.ce.nd) (ok_ap1 (e := .meta_ _ .lg lc) h.ce.od ⟨hP, hlc⟩) hK hR
    · obtain ⟨ri0, ri1⟩ := row_range h.g.ok (b := (i : Int)) (by omega) (R := R) (by omega)
      obtain ⟨ki0, ki1⟩ := dsk_range (layAt_ok h.g.ok (i : Int)) (i : Int)
      have hset : (ws.set b.toNat x).getD i 0 = ws.getD i 0 := by
        have : b.toNat ≠ i := by omega
        simp [List.getD, List.getElem?_set, this]
      rw [hset, ← h.val i hi]
      rw [cell_data_ne, cell_data_ne, cell_meta]
      · rfl
      · by_cases e : rowOf (layAt S.sb (i : Int)) i = rowOf (layAt S.sb b) b
        · refine .inl fun z => hib (h.g.inj (by omega) (by omega) b0 b1 e ?_)
          unfold wK at z
          omega
        · refine .inr ?_
          unfold wR
          omega
      · by_cases e : rowOf (layAt S.sb (i : Int)) i = rowOf (layAt S.sb b) b
        · refine .inl fun z => h.g.nopar (b := (i : Int)) (c := b) (by omega) (by omega) b0 b1 e ?_
          unfold wP at z
          omega
        · refine .inr ?_
          unfold wR
          omega
end WS
set_option Elab.async false
set_option linter.all false
set_option maxRecDepth 100000
set_option maxHeartbeats 4000000
/-! the plain law: a step -/
namespace WS
open PySem PySem.Spec PyProof.Rows L2
theorem steppedS_num (s : SB) (n : Int) (a : Option Int) : steppedS { s with num := n, aside := a } = { steppedS s with num := n } := by
  obtain ⟨num, blocks, lay, mv, front, aside⟩ := s
  cases mv with
  | none => rfl
  | some m =>
    obtain ⟨t, up⟩ := m
    show endedS ⟨n, blocks, lay, some (t, up), frontB ⟨num, blocks, lay, some (t, up), front, aside⟩, none⟩ = { endedS ⟨num, blocks, lay, some (t, up), frontB ⟨num, blocks, lay, some (t, up), front, aside⟩, none⟩ with num := n }
    generalize frontB ⟨num, blocks, lay, some (t, up), front, aside⟩ = F
    show (if over ⟨n, blocks, lay, some (t, up), F, none⟩ up = true then _ else _) = _
    have e : over ⟨n, blocks, lay, some (t, up), F, none⟩ up = over ⟨num, blocks, lay, some (t, up), F, none⟩ up := rfl
    rw [e]
    unfold endedS
    simp only
    split <;> rfl
/-! ### the trace of a step -/
def sbA (s : SB) (r : Int) : SB := { s with num := s.num + 1, aside := some r }
def sbF (s : SB) (c : Bool) : SB := { steppedS s with num := if c = true then s.num + 2 else s.num + 1 }
def esA (s : SB) (r : Int) (vals : List Int) (c : Bool) : List En := if c = true then asideEs s r vals ++ [.flush] ++ (superEs (sbA s r) ++ [.flush]) else []
def esS (s : SB) (r : Int) (vals : List Int) (c : Bool) (ps : List (Int × Int)) : List En := esA s r vals c ++ (dataEs r ps ++ [.flush]) ++ (superEs (sbF s c) ++ [.flush])
theorem stepA_ce (S : ArrS) (r : Int) (vals : List Int) (c : Bool) (hl : S.ce.loose = false) : (stepA S r vals c).ce = ⟨S.ce.begun, ap S.ce.disks (esA S.sb r vals c), S.ce.done ++ esA S.sb r vals c, false⟩ := by
  cases c with
  | false =>
    show S.ce = ⟨S.ce.begun, ap S.ce.disks [], S.ce.done ++ [], false⟩
    rw [List.append_nil]
    cases hS : S.ce with
    | mk a b c d =>
      rw [hS] at hl
      simp only at hl
      rw [hl]
      rfl
  | true =>
    show (goOn ⟨S.sb, (S.ce.puts (asideEs S.sb r vals)).flush⟩ (.aside r)).ce = _
    rw [goOn_ce, puf _ (aside_ne _ _ _)]
    simp only [esA, if_true, ap_app, List.append_assoc]
    rfl
theorem stepS_eq (S : ArrS) (r : Int) (vals : List Int) (c : Bool) (ps : List (Int × Int)) (hl : S.ce.loose = false) (hp : ps ≠ []) :
    (stepS S r vals c ps).sb = sbF S.sb c ∧ (stepS S r vals c ps).ce = ⟨S.ce.begun, ap S.ce.disks (esS S.sb r vals c ps), S.ce.done ++ esS S.sb r vals c ps, false⟩ := by
  have hne : dataEs r ps ≠ [] := fun h => hp (List.map_eq_nil_iff.mp h)
  have e1 : (stepS S r vals c ps).sb = sbF S.sb c := by
    show { steppedS (stepA S r vals c).sb with num := (stepA S r vals c).sb.num + 1 } = _
    cases c with
    | false => rfl
    | true =>
      show { steppedS ({ S.sb with num := S.sb.num + 1, aside := some r } : SB) with num := S.sb.num + 1 + 1 } = _
      rw [steppedS_num]
      show ({ steppedS S.sb with num := S.sb.num + 1 + 1 } : SB) = { steppedS S.sb with num := S.sb.num + 2 }
      rw [Int.add_assoc]
      rfl
  refine ⟨e1, ?_⟩
  have e2 : (UpS.all (steppedS (stepD (stepA S r vals c) r ps).sb)).app (stepD (stepA S r vals c) r ps).sb 1 = sbF S.sb c := e1
  show (goOn (stepD (stepA S r vals c) r ps) (.all (steppedS (stepD (stepA S r vals c) r ps).sb))).ce = _
  rw [goOn_ce, e2]
  show (⟨((stepA S r vals c).ce.puts (dataEs r ps)).flush.begun, ap ((stepA S r vals c).ce.puts (dataEs r ps)).flush.disks _, ((stepA S r vals c).ce.puts (dataEs r ps)).flush.done ++ _ ++ _, false⟩ : CeS) = _
  rw [puf _ hne, stepA_ce S r vals c hl]
  simp only [esS, ap_app, List.append_assoc]
  rfl
/-! ### the cells that are written -/
theorem ps_nodup {t : Lay} (ht : t.ok) {r q : Int} {vals : List Int} {ps : List (Int × Int)} (hv : vals.length = (t.n - 1).toNat) (hp : ps.Perm (dataCells t r vals ++ [(par t r, q)])) : (ps.map fun p => p.1.toNat).Nodup := by
  have ht1 := ht.1
  rw [(hp.map fun p => p.1.toNat).nodup_iff]
  rw [List.map_append, List.nodup_append]
  refine ⟨?_, by simp, ?_⟩
  · unfold dataCells
    rw [List.map_map]
    refine List.pairwise_map.mpr (List.Pairwise.imp_of_mem ?_ List.nodup_range)
    intro i j hi hj hij e
    rw [List.mem_range] at hi hj
    simp only [Function.comp_apply] at e
    obtain ⟨d0, d1⟩ := dat_range (l := t) (by omega) r (p := (i : Nat)) (by omega) (by omega)
    obtain ⟨e0, e1⟩ := dat_range (l := t) (by omega) r (p := (j : Nat)) (by omega) (by omega)
    have := dat_inj ht (r := r) (p := (i : Nat)) (q := (j : Nat)) (by omega) (by omega) (by omega) (by omega) (by omega)
    omega
  · intro a ha b hb e
    subst e
    simp only [List.map_cons, List.map_nil, List.mem_singleton] at hb
    unfold dataCells at ha
    rw [List.map_map] at ha
    obtain ⟨i, hi, e⟩ := List.mem_map.mp ha
    rw [List.mem_range] at hi
    simp only [Function.comp_apply] at e
    obtain ⟨d0, d1⟩ := dat_range (l := t) (by omega) r (p := (i : Nat)) (by omega) (by omega)
    obtain ⟨e0, e1⟩ := par_range (l := t) (by omega) r
    exact dat_par ht (r := r) (p := (i : Nat)) (by omega) (by omega) (by omega)
theorem ps_ne {t : Lay} {r q : Int} {vals : List Int} {ps : List (Int × Int)} (hp : ps.Perm (dataCells t r vals ++ [(par t r, q)])) : ps ≠ [] := fun h => by
  have := hp.length_eq
  rw [h] at this
  simp at this
/-- the cells behind the step -/
theorem step_cells {S : ArrS} {R : Nat} {ws : List Int} (h : Wf S R ws) {r : Int} {vals : List Int} {c : Bool} {ps : List (Int × Int)} {k row : Nat} :
    cellAt (ap S.ce.disks (esS S.sb r vals c ps)) k row = cellAt (ap (ap S.ce.disks (esA S.sb r vals c)) (dataEs r ps)) k row := by
  unfold esS
  rw [ap_app, ap_app, ap_app, ap_app]
  show cellAt (ap1 (ap (ap1 _ .flush) _) .flush) k row = _
  show cellAt (ap (ap (ap S.ce.disks (esA S.sb r vals c)) (dataEs r ps)) (superEs (sbF S.sb c))) k row = _
  exact cell_metas (superEs_meta _)
theorem esA_cells {ds : List DiskS} {s : SB} {r : Int} {vals : List Int} {c : Bool} {k row : Nat} : cellAt (ap ds (esA s r vals c)) k row = cellAt ds k row := by
  cases c with
  | false => rfl
  | true =>
    unfold esA
    simp only [if_true]
    rw [ap_app, ap_app, ap_app]
    show cellAt (ap (ap ds (asideEs s r vals)) (superEs (sbA s r))) k row = _
    rw [cell_metas (superEs_meta _), cell_metas (asideEs_meta _ _ _)]
theorem esA_ok {s : SB} {r : Int} {vals : List Int} {c : Bool} {R : Nat} (hl : vals.length ≤ 100) : ∀ e ∈ esA s r vals c, e.ok R := fun e he => by
  cases c with
  | false => cases he
  | true =>
    unfold esA at he
    simp only [if_true, List.mem_append, List.mem_singleton] at he
    rcases he with (z | z) | (z | z)
    · exact aside_ok (by omega) R e z
    · subst z; trivial
    · exact super_ok _ R e z
    · subst z; trivial
theorem step_wf {S : ArrS} {R : Nat} {ws : List Int} (h : Wf S R ws) {t : Lay} {up : Bool} {r q : Int} {c : Bool} {ps : List (Int × Int)} (hm : S.sb.mv = some (t, up)) (hr : nextRow S.sb = some r)
    (hp : ps.Perm (dataCells t r (rowVals S.sb S.ce.disks t r) ++ [(par t r, q)])) : Wf (stepS S r (rowVals S.sb S.ce.disks t r) c ps) R ws := by
  obtain ⟨g, hb, ha, r0, hR, hin, hout⟩ := step_geo h.g hm hr
  have hrR := hR R h.br
  have ht := h.g.ok.tgt t up hm
  have ht1 := ht.1
  have ht2 := ht.2
  have hwl := h.wl
  have hvl : (rowVals S.sb S.ce.disks t r).length = (t.n - 1).toNat := rowVals_len _ _ _ _
  generalize hvals : rowVals S.sb S.ce.disks t r = vals at hp hvl
  obtain ⟨e1, e2⟩ := stepS_eq S r vals c ps h.loose (ps_ne hp)
  obtain ⟨hpr, hde⟩ := data_ok ht hvl r0 hrR hp
  have hokA : ∀ d ∈ ap S.ce.disks (esA S.sb r vals c), d.ok R := ok_ap h.ce.od (esA_ok (by omega))
  have hokE : ∀ e ∈ esS S.sb r vals c ps, e.ok R := fun e he => by
    unfold esS at he
    simp only [List.mem_append, List.mem_singleton] at he
    rcases he with (z | z | z) | z | z
    · exact esA_ok (by omega) e z
    · exact hde e z
    · subst z; trivial
    · exact super_ok _ R e z
    · subst z; trivial
  have hok : (stepS S r vals c ps).ce.ok R := by
    rw [e2]
    refine ⟨h.ce.nb, by show (ap _ _).length = 6; rw [len_ap]; exact h.ce.nd, h.ce.ob, ok_ap h.ce.od hokE, fun e he => ?_, ?_, h.ce.r0, h.ce.r1⟩
    · rcases List.mem_append.mp he with z | z
      · exact h.ce.oe e z
      · exact hokE e z
    · show ap S.ce.disks _ = ap S.ce.begun (S.ce.done ++ _)
      rw [ap_app, ← h.ce.run]
  refine ⟨by rw [e1]; exact g.num _, hok, by rw [e1]; show (steppedS S.sb).blocks ≤ _; rw [hb]; exact h.br, by rw [e1]; exact ha, by rw [e2], ?_, by rw [e1]; show _ = (steppedS S.sb).blocks; rw [hb]; exact hwl, fun i hi => ?_⟩
  · rw [e2]
    show looseAt (S.ce.done ++ (_ ++ (superEs _ ++ [.flush]))) = []
    rw [← List.append_assoc, ← List.append_assoc]
    exact loose_flush _
  · rw [e1, e2, ← h.val i hi]
    by_cases hrow : rowOf t (i : Int) = r
    · have hl : layAt (sbF S.sb c) (i : Int) = t := hin i (by omega) (by omega) hrow
      unfold valAt
      rw [hl]
      show cellAt (ap S.ce.disks (esS S.sb r vals c ps)) _ _ = valAt S.sb S.ce.disks i
      rw [step_cells h, hrow]
      obtain ⟨p0, p1⟩ := place_range ht (i : Int)
      have hdsk : dskOf t (i : Int) = dat t r ((i : Int) - r * (t.n - 1)) := by
        unfold dskOf
        unfold rowOf at hrow
        rw [hrow]
      unfold rowOf at hrow
      rw [hrow] at p0 p1
      obtain ⟨j, hj⟩ : ∃ j : Nat, (j : Int) = (i : Int) - r * (t.n - 1) := ⟨((i : Int) - r * (t.n - 1)).toNat, by omega⟩
      have hmem : (dat t r (j : Int), valAt S.sb S.ce.disks i) ∈ ps := by
        refine hp.mem_iff.mpr (List.mem_append_left _ (List.mem_map.mpr ⟨j, List.mem_range.mpr (by omega), ?_⟩))
        refine Prod.ext rfl ?_
        show vals.getD j 0 = _
        rw [← hvals]
        unfold rowVals
        have hjl : j < (t.n - 1).toNat := by omega
        have hij : r * (t.n - 1) + (j : Int) = (i : Int) := by omega
        have hblk : (i : Int) < S.sb.blocks := by omega
        simp only [List.getD, List.getElem?_map, List.getElem?_range hjl, Option.map_some, Option.getD_some]
        rw [hij, if_pos hblk]
      rw [hdsk, ← hj]
      exact cell_on (by omega) (by rw [len_ap]; exact h.ce.nd) hokA (fun p hpm => by have := hpr p hpm; omega) (ps_nodup ht hvl hp) _ hmem
    · obtain ⟨hl, hne⟩ := hout i (by omega) (by omega) hrow
      obtain ⟨ri0, ri1⟩ := row_range h.g.ok (b := (i : Int)) (by omega) (R := R) (by have := h.br; omega)
      refine val_eq (s' := sbF S.sb c) hl ?_
      show cellAt (ap S.ce.disks (esS S.sb r vals c ps)) _ _ = _
      rw [step_cells h, cell_off (.inl (by omega)), esA_cells]
theorem stepS_len (S : ArrS) (r : Int) (vals : List Int) (c : Bool) {ps : List (Int × Int)} (hl : S.ce.loose = false) (hp : ps ≠ []) (h6 : ps.length ≤ 6) : (stepS S r vals c ps).ce.done.length ≤ S.ce.done.length + 28 := by
  rw [(stepS_eq S r vals c ps hl hp).2]
  unfold esS esA
  cases c <;> simp [dataEs, superEs, asideEs] <;> omega
/-! ### what a plain step leaves -/
theorem used_ne {s : SB} (g : s.ok) {r : Int} (h : r ∉ usedL s) {b : Int} (b0 : 0 ≤ b) (b1 : b < s.blocks) : rowOf (layAt s b) b ≠ r := fun e => h ((used_mem g).mpr ⟨b, b0, b1, e⟩)
/-- both superblocks and every film tell all values -/
structure PlainR (s : SB) (S : ArrS) (R : Nat) (ws : List Int) (n0 m : Nat) : Prop where
  ok : s.ok
  sr : s.blocks ≤ 2 * R
  wl : (ws.length : Int) = s.blocks
  now : toldL S.sb S.ce.disks = ws
  old : toldL s S.ce.disks = ws
  cut : ∀ j, j ≤ m → ∀ kept, toldL s (film S.ce.begun S.ce.done (n0 + j) kept) = ws ∧ (film S.ce.begun S.ce.done (n0 + j) kept).length = 6 ∧ ∀ d ∈ film S.ce.begun S.ce.done (n0 + j) kept, d.ok R
theorem plain_r {S : ArrS} {R : Nat} {ws : List Int} (h : Wf S R ws) {t : Lay} {up : Bool} {r q : Int} {ps : List (Int × Int)} (hm : S.sb.mv = some (t, up)) (hr : nextRow S.sb = some r)
    (hp : ps.Perm (dataCells t r (rowVals S.sb S.ce.disks t r) ++ [(par t r, q)])) (hu : r ∉ usedL S.sb) :
    PlainR S.sb (stepS S r (rowVals S.sb S.ce.disks t r) false ps) R ws S.ce.done.length ps.length := by
  have w := step_wf (c := false) h hm hr hp
  obtain ⟨g, hb, ha, r0, hR, hin, hout⟩ := step_geo h.g hm hr
  have hrR := hR R h.br
  have ht := h.g.ok.tgt t up hm
  have hwl := h.wl
  have hvl : (rowVals S.sb S.ce.disks t r).length = (t.n - 1).toNat := rowVals_len _ _ _ _
  generalize hvals : rowVals S.sb S.ce.disks t r = vals at hp hvl w ⊢
  obtain ⟨e1, e2⟩ := stepS_eq S r vals false ps h.loose (ps_ne hp)
  obtain ⟨hpr, hde⟩ := data_ok ht hvl r0 hrR hp
  have hrow : ∀ i : Nat, i < ws.length → (rowOf (layAt S.sb (i : Int)) (i : Int)).toNat ≠ r.toNat := fun i hi => by
    obtain ⟨ri0, ri1⟩ := row_range h.g.ok (b := (i : Int)) (by omega) (R := R) (by have := h.br; omega)
    have := used_ne h.g.ok hu (b := (i : Int)) (by omega) (by omega)
    omega
  refine ⟨h.g.ok, h.br, hwl, told_ws w.wl w.val, told_ws hwl fun i hi => ?_, fun j hj kept => ?_⟩
  · rw [← h.val i hi]
    refine val_eq rfl ?_
    rw [e2]
    show cellAt (ap S.ce.disks (esS S.sb r vals false ps)) _ _ = _
    rw [step_cells h, cell_off (.inl (hrow i hi)), esA_cells]
  · have htake : (stepS S r vals false ps).ce.done.take (S.ce.done.length + j) = S.ce.done ++ (dataEs r ps).take j := by
      rw [e2]
      show (S.ce.done ++ (([] ++ (dataEs r ps ++ [En.flush])) ++ (superEs (sbF S.sb false) ++ [En.flush]))).take (S.ce.done.length + j) = _
      rw [List.take_append, List.take_of_length_le (by omega)]
      have : S.ce.done.length + j - S.ce.done.length = j := by omega
      rw [this, List.nil_append, List.append_assoc, List.take_append_of_le_length (by simp [dataEs]; omega)]
    have hbeg : (stepS S r vals false ps).ce.begun = S.ce.begun := by rw [e2]
    unfold film lostOf
    rw [htake, hbeg]
    have hge : ∀ x ∈ looseAt (S.ce.done ++ (dataEs r ps).take j), (S.ce.done.length : Int) ≤ x := by
      unfold looseAt
      rw [looseF_app]
      have hf := h.fl
      unfold looseAt at hf
      rw [hf]
      exact looseF_ge _ _ _ (by omega) (fun x hx => by cases hx)
    have hge2 : ∀ x ∈ (looseAt (S.ce.done ++ (dataEs r ps).take j)).filter fun i => !decide (i ∈ kept), ((0 + S.ce.done.length : Nat) : Int) ≤ x := fun x hx => by
      have := hge x (List.mem_filter.mp hx).1
      omega
    generalize (looseAt (S.ce.done ++ (dataEs r ps).take j)).filter (fun i => !decide (i ∈ kept)) = lost at hge2
    rw [filmF_app, filmF_ap hge2, ← h.ce.run]
    have hdat : ∀ e ∈ (dataEs r ps).take j, ∃ k x, e = .data k r.toNat x := fun e he => by
      obtain ⟨p, _, rfl⟩ := List.mem_map.mp (List.mem_of_mem_take he)
      exact ⟨_, _, rfl⟩
    refine ⟨told_ws hwl fun i hi => ?_, by rw [filmF_len]; exact h.ce.nd, filmF_ok h.ce.od fun e he => hde e (List.mem_of_mem_take he)⟩
    rw [← h.val i hi]
    exact val_eq rfl (filmF_off (hrow i hi) hdat)
/-! ### the row that is put aside -/
theorem row_ws {S : ArrS} {R : Nat} {ws : List Int} (h : Wf S R ws) {t : Lay} {r : Int} (r0 : 0 ≤ r) (ht : t.ok) :
    rowVals S.sb S.ce.disks t r = (List.range (t.n - 1).toNat).map fun j => if r * (t.n - 1) + (j : Nat) < S.sb.blocks then ws.getD (r * (t.n - 1) + (j : Nat)).toNat 0 else 0 := by
  unfold rowVals
  refine List.map_congr_left fun j hj => ?_
  have hn := Int.mul_nonneg r0 (show 0 ≤ t.n - 1 by have := ht.1; omega)
  split
  · rename_i hlt
    have hwl := h.wl
    have := h.val (r * (t.n - 1) + (j : Nat)).toNat (by omega)
    rw [← this, Int.toNat_of_nonneg (by omega)]
  · rfl
/-! ### the start -/
theorem start_wf {l : Lay} {b : Int} {R : Nat} (hl : l.ok) (b0 : 3 ≤ b) (b1 : b ≤ 30) (hb : b ≤ 2 * R) (h2 : 2 ≤ R) (h20 : R ≤ 20) : Wf (startS l b R) R (List.replicate b.toNat 0) := by
  have hce : (startS l b R).ce = ⟨disksNew l b R, ap (disksNew l b R) (superEs { sbNew l b with num := 2 }), [] ++ superEs { sbNew l b with num := 2 } ++ [.flush], false⟩ := puf _ (super_ne _)
  refine ⟨⟨⟨hl, fun t up h => (by cases h), b0, b1, Int.le_refl _, (by show 0 ≤ b; omega)⟩, fun t up h => (by cases h), fun t up h => (by cases h)⟩, ((start_ce h2 h20).ok_puts (super_ok _ R)).ok_flush, hb, rfl, by rw [hce], by rw [hce]; exact loose_flush _, by rw [List.length_replicate]; show _ = b; omega, fun i hi => ?_⟩
  rw [List.length_replicate] at hi
  rw [hce]
  unfold valAt
  rw [cell_metas (superEs_meta _)]
  simp only [List.getD, List.getElem?_replicate, hi, if_true, Option.getD_some]
  unfold cellAt disksNew
  rw [List.getElem?_replicate]
  split
  · rename_i d hd
    split at hd
    · cases hd
      simp only [diskNew, List.getD, List.getElem?_replicate]
      split <;> rfl
    · cases hd
  · rfl
theorem start_len (l : Lay) (b : Int) (R : Nat) : (startS l b R).ce.done.length = 7 := by
  have hce : (startS l b R).ce = ⟨disksNew l b R, ap (disksNew l b R) (superEs { sbNew l b with num := 2 }), [] ++ superEs { sbNew l b with num := 2 } ++ [.flush], false⟩ := puf _ (super_ne _)
  rw [hce]
  rfl
theorem write_len (c : CeS) (s : SB) (b x y : Int) (lc : PyData) : (writeCe c s b x y lc).done.length = c.done.length + 7 := by
  have hdone : (writeCe c s b x y lc).done = ((((c.done ++ [.bg b x]) ++ [.meta_ (wP s b) .lg lc] ++ [.flush]) ++ [.data (wK s b) (wR s b) x]) ++ [.data (wP s b) (wR s b) y] ++ [.flush]) ++ [.dn b] := rfl
  rw [hdone]
  simp
theorem critical_eq {s : SB} (g : s.ok) (r : Int) : decide (r ∈ usedB s s.blocks.toNat) = decide (r ∈ usedL s) := by
  by_cases h : r ∈ usedL s
  · rw [decide_eq_true h, decide_eq_true ((usedB_mem g).mpr h)]
  · rw [decide_eq_false h, decide_eq_false (fun z => h ((usedB_mem g).mp z))]
end WS
set_option Elab.async false
set_option linter.all false
set_option maxRecDepth 100000
set_option maxHeartbeats 4000000
/-! max(xs, key=lambda x: x[0]) -/
namespace WS
open PySem PySem.Spec PyProof.Rows L2
/-- every object of h but the one at L, where h₀ has none -/
def allObjs (h h₀ : Heap) (L : Addr) : List (Addr × Obj) := (List.range h.objs.size).filterMap fun b => if b = L then none else match h₀.get? b with
  | some _ => none
  | none => (h.get? b).map fun o => (b, o)
theorem allObjs_mem {h h₀ : Heap} {L b : Addr} {o : Obj} (hb : h.get? b = some o) (n : b ≠ L) (h0 : h₀.get? b = none) : (b, o) ∈ allObjs h h₀ L := by
  unfold allObjs
  refine List.mem_filterMap.mpr ⟨b, List.mem_range.mpr (Heap.lt_size hb), ?_⟩
  rw [if_neg n, h0]
  show (h.get? b).map _ = _
  rw [hb]
  rfl
theorem allObjs_news {h h₀ : Heap} {L : Addr} : News h₀ L h (allObjs h h₀ L) := fun p hp => by
  unfold allObjs at hp
  obtain ⟨b, _, e⟩ := List.mem_filterMap.mp hp
  split at e
  · cases e
  · rename_i n
    cases h0 : h₀.get? b with
    | some o => rw [h0] at e; cases e
    | none =>
      rw [h0] at e
      cases hb : h.get? b with
      | none =>
        have e2 : (h.get? b).map (fun o => (b, o)) = some p := e
        rw [hb] at e2; cases e2
      | some o =>
        have e2 : (h.get? b).map (fun o => (b, o)) = some p := e
        rw [hb] at e2; cases e2
        exact ⟨hb, n, h0⟩
theorem ns_unique {h : Heap} {a : Addr} {m m' : Str → Option Value} (x : h.Ns a m) (y : h.Ns a m') : m = m' := by
  obtain ⟨o, es, ep, e1, e2, _, e3⟩ := x
  obtain ⟨o', es', ep', f1, f2, _, f3⟩ := y
  rw [e1] at f1; cases f1
  rw [e2] at f2; cases f2
  funext z
  rw [← e3, ← f3]
theorem vals_getV {xs : List V} {us : List Value} (r : Vals xs us) {i : Nat} {u : Value} (h : us[i]? = some u) : ∃ x, xs[i]? = some x ∧ RelV x u := by
  have hl := r.length
  have hi := (List.getElem?_eq_some_iff.mp h).1
  have hx : xs[i]? = some (xs[i]'(by omega)) := List.getElem?_eq_getElem (by omega)
  obtain ⟨u', h1, h2⟩ := r.get hx
  rw [h] at h1
  cases h1
  exact ⟨_, hx, h2⟩
section
variable {X : Cx} {pins : List (Addr × Obj)} {σ : L2.St} {H : Hp} {s : Shared}
/-- from the frame and all objects: what stands in the heap -/
theorem all_kept {m : Str → Option Value} {h : Heap} {own : List (Addr × Obj)} (I : Inv X pins σ H s) (F : Fr X.base X.env.locals h m) (N : News X.base X.env.locals h (allObjs s.heap X.base X.env.locals ++ own)) : ∀ b o, b ≠ X.env.locals → s.heap.get? b = some o → h.get? b = some o := fun b o n hb => by
  cases h0 : X.base.get? b with
  | some u =>
    have := I.bk b u h0
    rw [hb] at this
    obtain rfl := Option.some.inj this
    exact F.keep b _ h0
  | none => exact N.get (List.mem_append_left _ (allObjs_mem hb n h0))
theorem inv_all {m : Str → Option Value} {h : Heap} {own : List (Addr × Obj)} {t' : Nat} (I : Inv X pins σ H s) (hn : s.heap.Ns X.env.locals m) (F : Fr X.base X.env.locals h m) (N : News X.base X.env.locals h (allObjs s.heap X.base X.env.locals ++ own)) :
    Inv X pins σ H { s with heap := h, toks := t' } := by
  have k := all_kept I F N
  refine I.step (g' := s.gens) (d' := s.drawn) (ch := []) (fun b hb => absurd hb (by simp)) (fun b o n _ _ e _ => k b o n e) (fun b o n _ _ e _ => ⟨o.slots, k b o n e⟩) (fun b o _ _ e => e) (fun b o _ e => ?_) (fun b xs e => e) (fun b o u e => e)
    (fun b ps e => ⟨#[], by simp [e]⟩) (fun m' hm' => by rw [ns_unique hm' hn]; exact F.ns) (fun b u e => ?_) I.bare
  · by_cases hb : b = X.env.locals
    · obtain ⟨o', _, _, e', _⟩ := F.ns
      exact ⟨o', by rw [hb]; exact e'⟩
    · exact ⟨o, k b o hb e⟩
  · have nb : ∀ d : Addr, (d = b ∨ ∃ w, H d = some w) → d ≠ X.env.locals := fun d hd z => by
      rcases hd with q | ⟨w, q⟩
      · rw [← q, z, I.free] at e; cases e
      · rw [z, I.free] at q; cases q
    refine (I.hok b u e).stay (fun d v hd q => k d v ?_ q) (fun d q => q) fun d xs q => q
    rcases hd with z | z
    · exact nb d (.inl z)
    · exact nb d (.inr ⟨_, z⟩)
end
/-- the lambda's parameter is a local of it -/
abbrev lamSc (sc : Scope) (x : Str) : Prop := sc.kind = .function ∧ sc.isCoroutine = false ∧ sc.isGenerator = false ∧ sc.names = [(x, NameKind.local)]
theorem maxk_run {X : Cx} {pins : List (Addr × Obj)} {σ : L2.St} {H : Hp} {s : Shared} {f c' a : Addr} {q x : Str} {params : Arguments} {scope : Scope} {pm ctv : Value} {xs : List V} {kf : Nat → Int} {p1 p2 p3 : Pos} {j : Nat} {Q : VK}
    (I : Inv X pins σ H s) (hc : X.calm = true) (hr : Room 1 X.A) (L : lamSc scope x)
    (hf : s.heap.get? f = some (PySem.W.kla_obj "<lambda>" q params (.Subscript (.Name x p1) (.Constant (.int 0) j p2) p3) scope (cloFrom X.env.cells scope.names []) pm c' ctv)) (hfl : f ≠ X.env.locals)
    (hco : H c' = some (LamX.CodeO c' q)) (hbind : ∀ v, bindArgs (PySem.W.kla_fn "<lambda>" q params (.Subscript (.Name x p1) (.Constant (.int 0) j p2) p3) scope (cloFrom X.env.cells scope.names []) pm (.ref c') ctv) ⟨[v], []⟩ = pure [(x, v)])
    (hs : SqL X.K H a xs) (hl : 0 < xs.length) (hk : ∀ (i : Nat) (y : V), xs[i]? = some y → ∃ t ys, y = .ref t ∧ SqT X.K H t ys ∧ ys[0]? = some (.int (kf i)))
    (hd : (x == ("__debug__" : Str)) = false) (h : ∀ (i : Nat) (y : V), xs[i]? = some y → Q y H) :
    wpAny (model X.prog X.w) X.A (call (.builtin "max") [.ref a] [(Str.ofString "key", .ref f)]) (EP X pins σ Q) X.xe s := by
  obtain ⟨hk1, hk2, hk3, hk4⟩ := L
  obtain ⟨m, hn, hlook⟩ := I.loc
  obtain ⟨its, rv, pl, hz⟩ := I.list hs
  have F0 : Fr X.base X.env.locals s.heap m := ⟨hn, I.bk, Nat.le_trans I.ok.bsz I.ok.above⟩
  have N0 : News X.base X.env.locals s.heap (allObjs s.heap X.base X.env.locals) := allObjs_news
  have nsq : ∀ {b : Addr} {o : Obj} {vs : Array Value} {n : Nat}, s.heap.get? b = some o → o.data = .seq vs n → b ≠ X.env.locals := fun {b o vs n} e d z => by
    obtain ⟨o', es, ep, e', d', _⟩ := hn
    rw [z, e'] at e; cases e
    rw [d'] at d; cases d
  have hit : its.length = xs.length := rv.length.symm
  refine kmk_max (vs := its) kf (I.ok.hd hc) F0 N0 (fun h F N => ?_) (by omega) (fun i v hv h tk own F N => ?_) (fun i v h' tk' hv _ F N => ?_)
  · have k := all_kept (own := []) I F (by rw [List.append_nil]; exact N)
    obtain ⟨o, e1, e2, n, e3⟩ := pl.isList
    exact ⟨o, k _ _ (nsq e1 e3) e1, e2, n, e3⟩
  · have k := all_kept I F N
    obtain ⟨y, hy, ry⟩ := vals_getV rv hv
    obtain ⟨t, ys, rfl, hst, hy0⟩ := hk i y hy
    obtain ⟨ts, rt, it, _⟩ := I.tuple hst
    obtain rfl : v = Value.ref t := ry
    obtain ⟨w0, hw0, rw0⟩ := rt.get hy0
    obtain ⟨t0, rfl⟩ := rw0
    obtain ⟨ot, et1, et2, nt, et3⟩ := it
    have hts : 0 < ts.length := by
      have := (List.getElem?_eq_some_iff.mp hw0).1
      omega
    obtain ⟨⟨oc, vs, tc, hoc, hdc, hvc⟩, _, _⟩ := I.hok c' _ hco
    have hc'l : c' ≠ X.env.locals := fun z => by rw [z, I.free] at hco; cases hco
    refine wpAny_call (PySem.W.kla_callFunE (by show X.A.depth < _; have := hr.dp; omega) (k f _ hfl hf) rfl hk2 hk3 rfl ⟨c', oc, vs, tc, rfl, k _ _ hc'l hoc, hdc, hvc⟩ ?_)
    rw [hbind]
    refine wpAny_pure (wpAny_newFunctionEnv (fun y hy => by rw [hk4] at hy; rw [List.mem_singleton.mp hy]; simp) (fun y hy => by rw [List.mem_singleton.mp hy, hk4]; simp) (fun h₁ hns hsb => ⟨?_, ?_⟩) hk1)
    · have nl : h.NoLimit := I.ok.mod.nolimit.keeps F.keep
      exact nl.fresh _ hsb
    · show codeAny _ _ (.expr _ (PySem.W.envX q scope h.objs.size f (.ref c') (cloFrom X.env.cells scope.names []))) _ _
      have kp : ∀ b o, h.get? b = some o → h₁.get? b = some o := fun b o e => hsb.extBut b o (Nat.ne_of_lt (Heap.lt_size e)) (Heap.get?_push_of_some _ e)
      refine PySem.W.kla_codeExpr (Subscript_ (wpAny_Name (wpAny_loadName_local hk1 (by show scope.names.lookup x = _; rw [hk4]; simp) hns (v := .ref t) (by simp) (wpAny_Constant_int ?_)) hd))
      refine item_tuple (x := .int (kf i) t0) (j := 0) ⟨ot, kp _ _ (k _ _ (nsq et1 et3) et1), et2, nt, et3⟩ (by decide) (by decide) (seqIndex_of (by decide) (by rw [List.size_toArray]; omega)) (by simpa using hw0) ?_
      exact ⟨h₁, _, t0, rfl, rfl, ⟨F.ns.keeps kp, fun b o e => kp _ _ (F.keep b o e), F.above⟩, fun p hp => ⟨kp _ _ (N p hp).1, (N p hp).2⟩⟩
  · obtain ⟨y, hy, ry⟩ := vals_getV rv hv
    exact ⟨y, H, inv_all (own := []) I hn F (by rw [List.append_nil]; exact N), ry, h i y hy⟩
end WS
namespace WS
open PySem PySem.Spec PyProof.Rows L2
section
variable {X : Cx} {pins : List (Addr × Obj)} {σ : L2.St} {H : Hp} {s : Shared}
/-- a lambda is made: nothing that is tracked changes but the table at P -/
theorem lam_mk {c P : Addr} {q : Str} {params : Arguments} {body : Expr} {scope : Scope} {pos : Pos} {E : Value → Shared → Prop} {Q : Value → Shared → Prop}
    (I : Inv X pins σ H s) (B : LamX.TabB X.base X.mg c P) (hcd : X.env.code = .ref c) (tab : LamX.TabS H P q) (hq : X.env.qual ++ "<lambda>" = q)
    (d0 : defaultsOf params X.env = ([], [])) (fr : ∀ y ∈ scope.names, y.2 = .free → ∃ c, X.env.cells.lookup y.1 = some c)
    (go : ∀ (f c' : Addr) (pm ctv : Value) (H1 : Hp) (s' : Shared), Inv X pins σ H1 s' → (∀ b o, H b = some o → b ≠ P → H1 b = some o) → LamX.TabS H1 P q →
      s'.heap.get? f = some (PySem.W.kla_obj "<lambda>" q params body scope (cloFrom X.env.cells scope.names []) pm c' ctv) → H1 c' = some (LamX.CodeO c' q) → Q (.ref f) s') :
    wpAny (model X.prog X.w) X.A (eval (.Lambda params body scope pos) X.env) Q E s := by
  subst hq
  obtain ⟨tb, htb, htr, hcodes⟩ := tab
  have hobj : s.heap.get? P = some { cls := .none, data := .fields tb } := I.hok P _ htb
  have hbm := B.bm.keeps I.bk
  have hclo := closure_ok fr
  apply PySem.W.kla_eval d0
  rcases hfound : codeAmong pos tb.toList with _ | cv
  · refine PySem.W.kla_makeFunction (mg := X.mg) (c := c) (P := P) (ps := tb) hclo I.ok.glob (I.mod.glob.keeps I.bk) hcd (B.code.keeps I.bk) hobj htr hfound B.gP hbm ?_
    intro n ctv hp tk ext hge hlt ⟨n', oc, vs, t, hn, hoc, hdat, hnam⟩ hnew
    obtain rfl : n = n' := Value.ref.inj hn
    have fresh : H n = none := I.hok.fresh hge
    have hPn : P ≠ n := ne_of_none htb fresh
    have J := LamX.inv_table (t' := tk) (q := X.env.qual ++ "<lambda>") (more := #[rawInt pos.line, rawInt pos.col, .ref n])
      (h' := hp.push (PySem.W.kla_obj "<lambda>" (X.env.qual ++ "<lambda>") params body scope (cloFrom X.env.cells scope.names []) ((X.mg "__name__").getD .none) n ctv)) I htb
      (fun b o nb e => Heap.get?_push_of_some _ (ext b o nb e)) (Heap.get?_push_of_some _ hnew) hge ⟨oc, vs, t, Heap.get?_push_of_some _ hoc, hdat, hnam⟩
    refine go hp.objs.size n ((X.mg "__name__").getD .none) ctv _ _ J (fun b o hb nb => by rw [upd_ne (ne_of_none hb fresh), upd_ne nb]; exact hb) ?_ (Heap.get?_push_size _ rfl) upd_same
    refine ⟨_, by rw [upd_ne hPn, upd_same], ?_, fun p' u hu => ?_⟩
    · rw [show (tb ++ #[rawInt pos.line, rawInt pos.col, Value.ref n]).toList = tb.toList ++ [rawInt pos.line, rawInt pos.col, .ref n] from by simp]
      exact PySem.TriplesOk_snoc _ _ _ _ htr
    · rw [show (tb ++ #[rawInt pos.line, rawInt pos.col, Value.ref n]).toList = tb.toList ++ [rawInt pos.line, rawInt pos.col, .ref n] from by simp] at hu
      rcases LamX.among_app _ htr hu with z | z
      · obtain ⟨a, ha, hco⟩ := hcodes p' u z
        refine ⟨a, ha, ?_⟩
        have na : a ≠ P := fun y => by rw [y, htb] at hco; exact LamX.codeO_ne _ (Option.some.inj hco).symm
        rw [upd_ne (ne_of_none hco fresh), upd_ne na]
        exact hco
      · exact ⟨n, z, upd_same⟩
  · obtain ⟨n, rfl, hco⟩ := hcodes pos cv hfound
    refine PySem.W.kla_makeFunctionHit (mg := X.mg) (c := c) (P := P) (ps := tb) hclo I.ok.glob (I.mod.glob.keeps I.bk) hcd (B.code.keeps I.bk) hobj htr hfound hbm ?_
    intro ctv hp tk ext _
    exact go hp.objs.size n ((X.mg "__name__").getD .none) ctv H _ (I.kept fun b o e => Heap.get?_push_of_some _ (ext b o e)) (fun b o hb _ => hb) ⟨tb, htb, htr, hcodes⟩ (Heap.get?_push_size _ rfl) hco
end
/-- the reading of max(xs, key=lambda x: x[0]) -/
def tMax (K : PySem.W.Frag) (P : Addr) (q : Str) (t : TA) : TE := fun σ H Q => t σ H fun vs H1 => ∃ (a : Addr) (xs : List V) (kf : Nat → Int), vs = [.ref a] ∧ SqL K H1 a xs ∧ 0 < xs.length ∧
  (∀ (i : Nat) (y : V), xs[i]? = some y → ∃ t ys, y = .ref t ∧ SqT K H1 t ys ∧ ys[0]? = some (.int (kf i))) ∧ LamX.TabS H1 P q ∧
  ∀ (H2 : Hp) (i : Nat) (y : V), (∀ b o, H1 b = some o → b ≠ P → H2 b = some o) → LamX.TabS H2 P q → xs[i]? = some y → Q y H2
theorem pe_maxK {X : Cx} {K : PySem.W.Frag} {n : Nat} {c P : Addr} {q x : Str} {params : Arguments} {scope : Scope} {e : Expr} {t : TA} {p p1 p2 p3 lpos kpos pos : Pos} {j : Nat} (hm : X.mg "max" = none) (B : LamX.TabB X.base X.mg c P) (hr : Room (n + 1) X.A) (ha : PA X [e] t)
    (hcd : X.env.code = .ref c := by rfl) (hq : X.env.qual ++ "<lambda>" = q := by rfl) (h : X.K = K := by rfl) (hc : X.calm = true := by rfl)
    (d0 : defaultsOf params X.env = ([], []) := by rfl) (L : lamSc scope x := by exact ⟨rfl, rfl, rfl, rfl⟩)
    (hbind : ∀ (cl : List (Str × Addr)) (pm cv ctv v : Value), bindArgs (PySem.W.kla_fn "<lambda>" q params (.Subscript (.Name x p1) (.Constant (.int 0) j p2) p3) scope cl pm cv ctv) ⟨[v], []⟩ = pure [(x, v)] := by intro _ _ _ _ _; rfl)
    (hd : (x == ("__debug__" : Str)) = false := by decide +kernel) (hg : Gl X "max" := by rfl)
    (he : backTo pos (starEach [e] X.env) = (false, eval e X.env) :: backTo pos (starEach [] X.env) := by rfl) (hpl : (backTo pos (starEach [e] X.env)).any (·.1) = false := by rfl) :
    PE X (.Call (.Name "max" p) [e] [⟨some "key", .Lambda params (.Subscript (.Name x p1) (.Constant (.int 0) j p2) p3) scope lpos, kpos⟩] pos) (tMax K P q t) := by
  subst h
  refine ⟨fun pins s σ H Q I h => ?_⟩
  refine wpAny_Call_Name_kw (ld_blt I hg hm PyProof.Rows.boot_max ?_ (by decide +kernel) (by decide +kernel))
  refine PyProof.Rows.callWith_kw (thn (ha.run pos pins s σ H _ I h) fun us s1 ⟨vs, H1, I1, r1, q1⟩ => ?_) he hpl rfl rfl
  obtain ⟨a, xs, kf, rfl, hxs, hlen, hkey, tab, q1⟩ := q1
  obtain rfl := Vals.ref1 r1
  show wpAny _ _ (evalAll ((do let v ← eval _ X.env; standAt pos; pure v) :: [])) _ _ s1
  obtain ⟨hk1, hk2, hk3, hk4⟩ := id L
  refine wpAny_evalAll_cons (wpAny_bind (lam_mk I1 B hcd tab hq d0 (fun y hy hf => by rw [hk4] at hy; rw [List.mem_singleton.mp hy] at hf; cases hf) ?_))
  intro f c' pm ctv H2 s2 I2 hkeep tab2 hf hco
  refine wpAny_bind (wpAny_standAt (wpAny_pure (wpAny_evalAll_nil ?_)))
  have tk : ∀ b ys, SqT X.K H1 b ys → SqT X.K H2 b ys := fun b ys hb => by
    obtain ⟨tb, htb, _⟩ := tab
    rcases hb with (z | ⟨o, z⟩) | z
    · exact .inl (.inl (hkeep _ _ z fun y => by rw [y, htb] at z; cases z))
    · exact .inl (.inr ⟨o, hkeep _ _ z fun y => by rw [y, htb] at z; cases z⟩)
    · exact .inr z
  have hxs2 : SqL X.K H2 a xs := by
    obtain ⟨tb, htb, _⟩ := tab
    rcases hxs with (z | ⟨o, z⟩) | z
    · exact .inl (.inl (hkeep _ _ z fun y => by rw [y, htb] at z; cases z))
    · exact .inl (.inr ⟨o, hkeep _ _ z fun y => by rw [y, htb] at z; cases z⟩)
    · exact .inr z
  have hfl : f ≠ X.env.locals := fun z => by
    obtain ⟨m, ⟨o, es, ep, ho, hdat, _⟩, _⟩ := I2.loc
    rw [z, ho] at hf
    have hf := Option.some.inj hf
    rw [hf] at hdat
    cases hdat
  exact maxk_run I2 hc (hr.mono (by omega)) L hf hfl hco (hbind _ _ _ _) hxs2 hlen (fun i y hy => by
    obtain ⟨t, ys, h1, h2, h3⟩ := hkey i y hy
    exact ⟨t, ys, h1, tk _ _ h2, h3⟩) hd fun i y hy => q1 H2 i y hkeep tab2 hy
/-! ### the def with the lambda -/
theorem gk_mkC {P : Program} {w : World} {K : PySem.W.Frag} {mg : Str → Option Value} {base : Heap} {x : Str} {params : Arguments} {body : List Stmt} {scope : Scope} {N ps : List Str} {k : Nat} {sp : Sp}
    (F : ∃ fd, FunD K x x params body scope [] [] (He.ga K x) fd) (gl : mg x = some (.ref (He.ga K x))) (db : (x == ("__debug__" : Str)) = false) (S : FnScope N ps scope)
    (hb : ∀ (kV doc pm : Value) (an : Option Addr) (cdv ct : Value) (us : List Value), us.length = ps.length → bindArgs (PySem.W.fnOf x x params body scope .none kV doc pm an cdv ct) ⟨us, []⟩ = pure (ps.zip us))
    (len : ∀ vs H Q E, sp vs H Q E → vs.length = ps.length)
    (hbody : ∀ (A : Around) (outer : List Env) (s : Shared) (H : Hp) (vs : List V) (Q : VK) (E : XK), Room k (A.deeper (envOfC x scope s.heap.objs.size (He.ga K x) (.ref (He.codeOf K (x, none))))) → sp vs H Q E →
      ∃ t, PSs (cxOf CX0 P w K mg base N x scope (He.ga K x) (.ref (He.codeOf K (x, none))) A outer s H E).nox body t ∧ t { nx := fun _ H' => Q .non H', rt := Q } (start N vs) H) : GK P w K mg base x ps (k + 1) sp [] := by
  obtain ⟨fd, F⟩ := F
  have hbd : Binds K fd ps [] := FunD.bindsN F hb
  have hkp := F.kp
  obtain ⟨oc, od, dV, kV, doc, pm, an, cdv, ct, osl, rfl, lk, hcd, _, _⟩ := F.ex
  obtain ⟨c, rfl⟩ := He.codeIn_ref hcd
  have hce : He.codeOf K (x, none) = c := He.codeOf_eq (p := (x, none)) lk rfl
  refine ⟨⟨_, [], ⟨len, fun A outer s H args us vs Q E hr e0 hbi rv hsp => ?_⟩, .nil, hbd⟩, hkp, gl, db⟩
  refine LamX.run_ofS lk hcd S hr e0 hbi rv (len _ _ _ _ hsp) fun hr' => ?_
  rw [← hce] at hr' ⊢
  obtain ⟨t, ht, hq⟩ := hbody A outer s H vs Q E hr' hsp
  exact ⟨t, PSs.nox ht, hq⟩
end WS
set_option Elab.async false
set_option linter.all false
set_option maxRecDepth 100000
set_option maxHeartbeats 4000000
/-! repr of lists of numbers; defs that are run where nothing is being shown -/
namespace WS
open PySem PySem.Spec PyProof.Rows L2
/-! ### repr -/
abbrev rReprQ (K : PySem.W.Frag) : List V → Hp → VK → Prop := fun xs H Q => ∃ (a : Addr) (d : PyData), xs = [.ref a] ∧ Dp K H (.ref a) d ∧ d.showable = true ∧ d.hasDict = false ∧ d.shown.length ≤ sizeLine ∧ d.depth ≤ 10 ∧ Q (.str d.shown) H
theorem call_reprD {X : Cx} (hg : X.A.guards = some []) (hu : X.A.units + 20 < cLine) : CallR X (.builtin "repr") (rReprQ X.K) := by
  intro pins s σ H xs us Q I r h
  obtain ⟨a, d, rfl, hd, hs, hnd, hl, hdep, q⟩ := h
  obtain rfl := Vals.ref1 r
  obtain ⟨as, rd⟩ := Dp.reads I d _ _ hd rfl
  exact repr_of_reads' rd hs (PyData.noDict_hsm hnd) hg (by omega) (fun _ _ e => e) (fun h' u tk hk => ⟨.str d.shown, H, I.kept hk, ⟨_, rfl⟩, q⟩) hl
section
variable {X : Cx} {e : Expr} {es : List Expr} {t : TA} {p pos : Pos} {K : PySem.W.Frag} {n : Nat}
theorem pb_repr (hm : X.mg "repr" = none) (hgd : X.A.guards = some []) (hr : Room n X.A) (ha : PA X (e :: es) t) (h : X.K = K := by rfl) (e1 : starEach (e :: es) X.env = (false, eval e X.env) :: starEach es X.env := by rfl) (e2 : (backTo pos (starEach es X.env)).any (·.1) = false := by rfl) (hg : Gl X "repr" := by rfl) :
    PE X (.Call (.Name "repr" p) (e :: es) [] pos) (tCB (rReprQ K) t) :=
  h ▸ pe_callB (call_reprD hgd (by have := hr.un; omega)) hg hm (by decide +kernel) ha (by decide +kernel) (by decide +kernel) e1 e2
end
/-- the texts of lists of lists of numbers -/
def numsD (ls : List (List Int)) : PyData := .list (ls.map fun l => .list (l.map PyData.int))
theorem sh_ints : ∀ (l : List Int), (∀ x ∈ l, 0 ≤ x ∧ x < 2 ^ 32) → PyData.showableAll (l.map PyData.int) = true
  | [], _ => by simp [PyData.showableAll]
  | x :: l, h => by
    have h1 := h x List.mem_cons_self
    have h2 : x.natAbs.log2 < 1920 := by
      have h3 : x.natAbs.log2 < 32 := by
        rcases Nat.eq_zero_or_pos x.natAbs with z | z
        · rw [z]; decide
        · exact (Nat.log2_lt (by omega)).mpr (by omega)
      omega
    simp only [List.map_cons, PyData.showableAll, PyData.showable, Bool.and_eq_true, decide_eq_true_eq]
    exact ⟨h2, sh_ints l fun y hy => h y (List.mem_cons_of_mem _ hy)⟩
theorem ls_ints : ∀ (l : List Int), (∀ x ∈ l, 0 ≤ x ∧ x < 2 ^ 32) → PyData.leavesShortAll 13 (l.map PyData.int) = true
  | [], _ => by simp [PyData.leavesShortAll]
  | x :: l, h => by
    have h1 := h x List.mem_cons_self
    have h2 : (PyData.shown (.int x)).length ≤ 13 := by
      have := PyProof.Rows.toString_length_le h1.1 (k := 10) (by decide) (by omega)
      show (Str.ofString (toString x)).length ≤ 13
      omega
    simp only [List.map_cons, PyData.leavesShortAll, PyData.leavesShort, Bool.and_eq_true, decide_eq_true_eq]
    exact ⟨h2, ls_ints l fun y hy => h y (List.mem_cons_of_mem _ hy)⟩
theorem bk_ints : ∀ (l : List Int), PyData.bulkAll (l.map PyData.int) = l.length
  | [] => by simp [PyData.bulkAll]
  | x :: l => by simp [PyData.bulkAll, PyData.bulk, bk_ints l]; omega
theorem hd_ints : ∀ (l : List Int), PyData.hasDictAll (l.map PyData.int) = false
  | [] => by simp [PyData.hasDictAll]
  | x :: l => by simp [PyData.hasDictAll, PyData.hasDict, hd_ints l]
theorem sh_nums : ∀ (ls : List (List Int)), (∀ l ∈ ls, ∀ x ∈ l, 0 ≤ x ∧ x < 2 ^ 32) → PyData.showableAll (ls.map fun l => .list (l.map PyData.int)) = true
  | [], _ => by simp [PyData.showableAll]
  | l :: ls, h => by
    simp only [List.map_cons, PyData.showableAll, PyData.showable, Bool.and_eq_true]
    exact ⟨sh_ints l (h l List.mem_cons_self), sh_nums ls fun y hy => h y (List.mem_cons_of_mem _ hy)⟩
theorem ls_nums : ∀ (ls : List (List Int)), (∀ l ∈ ls, ∀ x ∈ l, 0 ≤ x ∧ x < 2 ^ 32) → PyData.leavesShortAll 13 (ls.map fun l => .list (l.map PyData.int)) = true
  | [], _ => by simp [PyData.leavesShortAll]
  | l :: ls, h => by
    simp only [List.map_cons, PyData.leavesShortAll, PyData.leavesShort, Bool.and_eq_true]
    exact ⟨ls_ints l (h l List.mem_cons_self), ls_nums ls fun y hy => h y (List.mem_cons_of_mem _ hy)⟩
theorem bk_nums : ∀ (ls : List (List Int)), (∀ l ∈ ls, l.length ≤ 1000) → PyData.bulkAll (ls.map fun l => .list (l.map PyData.int)) ≤ 1001 * ls.length
  | [], _ => by simp [PyData.bulkAll]
  | l :: ls, h => by
    have h1 := h l List.mem_cons_self
    have h2 := bk_nums ls fun y hy => h y (List.mem_cons_of_mem _ hy)
    simp only [List.map_cons, PyData.bulkAll, PyData.bulk, bk_ints, List.length_cons]
    omega
theorem hd_nums : ∀ (ls : List (List Int)), PyData.hasDictAll (ls.map fun l => .list (l.map PyData.int)) = false
  | [] => by simp [PyData.hasDictAll]
  | l :: ls => by simp only [List.map_cons, PyData.hasDictAll, PyData.hasDict, hd_ints, hd_nums ls, Bool.or_self]
theorem dp_ints1 : ∀ (l : List Int), PyData.depthAll (l.map PyData.int) ≤ 1
  | [] => by simp [PyData.depthAll]
  | _ :: l => by have := dp_ints1 l; simp [PyData.depthAll, PyData.depth]; omega
theorem dp_nums : ∀ (ls : List (List Int)), PyData.depthAll (ls.map fun l => .list (l.map PyData.int)) ≤ 2
  | [] => by simp [PyData.depthAll]
  | l :: ls => by
    have h1 := dp_nums ls
    have h2 := dp_ints1 l
    simp only [List.map_cons, PyData.depthAll, PyData.depth]
    omega
theorem dpa_ints {K : PySem.W.Frag} {H : Hp} : ∀ l : List Int, DpAll K H (l.map V.int) (l.map PyData.int)
  | [] => .nil
  | _ :: l => .cons (.int _) (dpa_ints l)
/-- a list of lists of numbers -/
def NumsAt (K : PySem.W.Frag) (H : Hp) (a : Addr) (ls : List (List Int)) : Prop := ∃ as : List Addr, H a = some (.lst (as.map V.ref)) ∧ PySem.Paired (fun (b : Addr) (l : List Int) => H b = some (.lst (l.map V.int))) as ls
theorem nums_dpall {K : PySem.W.Frag} {H : Hp} : ∀ {as : List Addr} {ls : List (List Int)}, PySem.Paired (fun (b : Addr) (l : List Int) => H b = some (.lst (l.map V.int))) as ls → DpAll K H (as.map V.ref) (ls.map fun l => .list (l.map PyData.int))
  | [], _, h => by cases h; exact .nil
  | _ :: _, _, h => by
    cases h with
    | cons h1 h2 => exact .cons (.lst (.inl (.inl h1)) (dpa_ints _)) (nums_dpall h2)
theorem nums_dp {K : PySem.W.Frag} {H : Hp} {a : Addr} {ls : List (List Int)} (h : NumsAt K H a ls) : Dp K H (.ref a) (numsD ls) := by
  obtain ⟨as, h1, h2⟩ := h
  exact .lst (.inl (.inl h1)) (nums_dpall h2)
theorem nums_ok {ls : List (List Int)} (hl : ls.length ≤ 10) (hb : ∀ l ∈ ls, l.length ≤ 1000 ∧ ∀ x ∈ l, 0 ≤ x ∧ x < 2 ^ 32) : (numsD ls).showable = true ∧ (numsD ls).hasDict = false ∧ (numsD ls).shown.length ≤ sizeLine ∧ (numsD ls).depth ≤ 10 := by
  refine ⟨?_, ?_, ?_, ?_⟩
  · simp only [numsD, PyData.showable]; exact sh_nums ls fun l h => (hb l h).2
  · simp only [numsD, PyData.hasDict]; exact hd_nums ls
  · refine PyData.shown_fits_bulk (B := 13) (by decide) (by decide) (by simp only [numsD, PyData.leavesShort]; exact ls_nums ls fun l h => (hb l h).2) ?_
    have h1 := bk_nums ls fun l h => (hb l h).1
    simp only [numsD, PyData.bulk]
    omega
  · have := dp_nums ls
    simp only [numsD, PyData.depth]
    omega
/-! ### where nothing is being shown -/
structure FnG (P : Program) (w : World) (K : PySem.W.Frag) (mg : Str → Option Value) (base : Heap) (k : Nat) (f : Addr) (fd : FuncData) (ps : List Str) (sp : Sp) : Prop where
  len : ∀ vs H Q E, sp vs H Q E → vs.length = ps.length
  run : ∀ (A : Around) (outer : List Env) (s : Shared) (H : Hp) (args : Args) (us : List Value) (vs : List V) (Q : VK), A.guards = some [] → Room k A → Env0 P w K mg base A outer s H → BindsTo s fd args (ps.zip us) → Vals vs us → sp vs H Q E0 →
    codeAny (model P w) A (.call (.ref f) args) (CR CX0 outer P w H s Q E0) s
structure GG (P : Program) (w : World) (K : PySem.W.Frag) (mg : Str → Option Value) (base : Heap) (x : Str) (ps : List Str) (k : Nat) (sp : Sp) : Prop where
  ex : ∃ fd, FnG P w K mg base k (He.ga K x) fd ps sp ∧ Binds K fd ps []
  kp : PySem.W.keepIn K (.ref (He.ga K x)) = true
  gl : mg x = some (.ref (He.ga K x))
  db : (x == ("__debug__" : Str)) = false
section
variable {P : Program} {w : World} {K : PySem.W.Frag} {mg : Str → Option Value} {base : Heap} {x : Str} {params : Arguments} {body : List Stmt} {scope : Scope} {N ps : List Str} {k : Nat} {sp : Sp}
abbrev BodyOkG (P : Program) (w : World) (K : PySem.W.Frag) (mg : Str → Option Value) (base : Heap) (N : List Str) (q : Str) (body : List Stmt) (scope : Scope) (f : Addr) (k : Nat) (sp : Sp) : Prop :=
  ∀ (cdv : Value) (A : Around) (outer : List Env) (s : Shared) (H : Hp) (vs : List V) (Q : VK) (E : XK), (A.deeper (envOfC q scope s.heap.objs.size f cdv)).guards = some [] → Room k (A.deeper (envOfC q scope s.heap.objs.size f cdv)) → sp vs H Q E →
    ∃ t, PSs (cxOf CX0 P w K mg base N q scope f cdv A outer s H E).nox body t ∧ t { nx := fun _ H' => Q .non H', rt := Q } (start N vs) H
theorem gg_mk (F : ∃ fd, FunD K x x params body scope [] [] (He.ga K x) fd) (gl : mg x = some (.ref (He.ga K x))) (db : (x == ("__debug__" : Str)) = false) (S : FnScope N ps scope)
    (hb : ∀ (kV doc pm : Value) (an : Option Addr) (cdv ct : Value) (us : List Value), us.length = ps.length → bindArgs (PySem.W.fnOf x x params body scope .none kV doc pm an cdv ct) ⟨us, []⟩ = pure (ps.zip us))
    (len : ∀ vs H Q E, sp vs H Q E → vs.length = ps.length) (hbody : BodyOkG P w K mg base N x body scope (He.ga K x) k sp) : GG P w K mg base x ps (k + 1) sp := by
  obtain ⟨fd, F⟩ := F
  have hbd : Binds K fd ps [] := FunD.bindsN F hb
  have hkp := F.kp
  obtain ⟨oc, od, dV, kV, doc, pm, an, cdv, ct, osl, rfl, lk, hcd, _, _⟩ := F.ex
  refine ⟨⟨_, ⟨len, fun A outer s H args us vs Q hg hr e0 hbi rv hsp => ?_⟩, hbd⟩, hkp, gl, db⟩
  refine LamX.run_ofS lk hcd S hr e0 hbi rv (len _ _ _ _ hsp) fun hr' => ?_
  obtain ⟨t, ht, hq⟩ := hbody cdv A outer s H vs Q E0 hg hr' hsp
  exact ⟨t, PSs.nox ht, hq⟩
theorem pe_ggK {X : Cx} {n : Nat} {e : Expr} {es : List Expr} {t : TA} {p pos : Pos} (G : GG P w K mg base x ps k sp) (hgd : X.A.guards = some []) (hr : Room n X.A) (hk : k ≤ n) (ha : PA X (e :: es) t) (hg : Gl X x := by rfl)
    (h1 : X.prog = P := by rfl) (h2 : X.w = w := by rfl) (h3 : X.K = K := by rfl) (h4 : X.mg = mg := by rfl) (h5 : X.base = base := by rfl)
    (he : starEach (e :: es) X.env = (false, eval e X.env) :: starEach es X.env := by rfl) (hpl : (backTo pos (starEach es X.env)).any (·.1) = false := by rfl) : PE X (.Call (.Name x p) (e :: es) [] pos) (tCall sp [] E0 t) := by
  subst h1 h2 h3 h4 h5
  obtain ⟨fd, F, hb⟩ := G.ex
  refine ⟨fun pins s σ H Q I h => ?_⟩
  refine wpAny_Call_Name_kw (ld_glob I hg G.gl ?_ G.db)
  refine PySem.W.callWith_K (h₀ := X.base) I.ok.mod.kin G.kp (thn (ha.run pos pins s σ H _ I h) fun us s1 ⟨vs, H1, I1, r, q⟩ => ⟨I1.kIn, ?_⟩) he hpl
  have q' : sp vs H1 Q E0 := by
    have q2 : sp (vs ++ []) H1 Q E0 := q
    rwa [List.append_nil] at q2
  have hlen : us.length = ps.length := by rw [← r.length]; exact F.len _ _ _ _ q'
  have hbi := hb s1 us I1.kIn (by rw [List.append_nil]; exact hlen)
  rw [List.append_nil] at hbi
  refine wpAny_call (codeAny_mono (F.run X.A X.stack s1 H1 ⟨us, []⟩ us vs Q hgd (hr.mono hk) I1.env0 hbi r q') fun rr s' hq => ?_)
  rcases rr with e | fl
  · exact (show False from hq).elim
  · cases fl with
    | ret u => exact I1.after hq
    | _ => exact hq.elim
end
end WS
set_option Elab.async false
set_option linter.all false
set_option maxRecDepth 100000
set_option maxHeartbeats 4000000
namespace WS
open PySem PySem.Spec PyProof.Rows L2
local macro_rules | `(tactic| walk_at "tdg") => `(tactic| first | (apply tdg0; walk_at "at") | (apply tdg1; walk_at "at") | (apply tdg2; walk_at "at") | (apply tdg3; walk_at "at") | (apply tdg4; walk_at "at") | (apply tdg5; walk_at "at") | (apply tdg6; walk_at "at") | (apply tdg7; walk_at "at") | (apply tdg8; walk_at "at"))
local macro_rules | `(tactic| walk_at "no") => `(tactic| first | assumption | (apply no_by; assumption; walk_at "sm"))
local macro_rules | `(tactic| walk_at "sm") => `(tactic| first | exact Same.refl _ | assumption | (apply same_up; walk_at "no"; walk_at "sm") | (apply same_by; assumption; walk_at "sm"))
local macro_rules | `(tactic| walk_at "tk") => `(tactic| first | exact TK.refl | assumption | (apply tk_up; walk_at "no"; walk_at "tk") | (apply tk_by; assumption; walk_at "tk") | (apply tk_mv; assumption; walk_at "tk"))
local macro_rules | `(tactic| walk_at "mv") => `(tactic| first | exact Mv.refl | assumption | (apply mv_up; walk_at "no"; walk_at "mv") | (apply mv_mv; assumption; walk_at "mv") | (apply mv_by; assumption; walk_at "mv"))
local macro_rules | `(tactic| walk_at "ne") => `(tactic| first | assumption | (refine Ne.symm ?_; assumption))
local macro_rules | `(tactic| walk_at "at") => `(tactic| first | assumption | exact upd_same | (apply at_new; walk_at "no"; walk_at "at") | (apply at_ne; walk_at "ne"; walk_at "at") | (apply at_same; assumption; walk_at "at") | (apply at_mv; assumption; assumption; walk_at "at"))
local macro_rules | `(tactic| walk_at "rp") => `(tactic| first | assumption | exact Rp.non | exact Rp.int _ | exact Rp.str _ | (apply rp_tk; assumption; walk_at "tk"))
local macro_rules | `(tactic| walk_at "sq") => `(tactic| first | assumption | exact (‹Tx _ _›).t_METAS _ | exact (‹Tx _ _›).t_FIELDS _ | exact (‹Tx _ _›).t_LEFT _ | exact (‹Tx _ _›).t_SYMMETRIC _ | (apply SqT.of; walk_at "at") | (apply SqL.of; walk_at "at") | (apply sqt_tk; assumption; walk_at "tk") | (apply sql_sm; assumption; walk_at "sm"))
local macro_rules | `(tactic| walk_at "sd") => `(tactic| first | rfl | omega | assumption | decide)
local macro_rules | `(tactic| walk_at "fld") => `(tactic| first | refine ⟨_, _, _, _, _, rfl, (by walk_at "at" : _ = some _), (‹Tx _ _›).c_Cells, (‹Tx _ _›).n_Cells_disks, rfl, ?_⟩ | refine ⟨_, _, _, _, _, rfl, (by walk_at "at" : _ = some _), (‹Tx _ _›).c_Cells, (‹Tx _ _›).n_Cells_done, rfl, ?_⟩ | refine ⟨_, _, _, _, _, rfl, (by walk_at "at" : _ = some _), (‹Tx _ _›).c_Cells, (‹Tx _ _›).n_Cells_begun, rfl, ?_⟩ | refine ⟨_, _, _, _, _, rfl, (by walk_at "at" : _ = some _), (‹Tx _ _›).c_Cells, (‹Tx _ _›).n_Cells_is_loose, rfl, ?_⟩ | refine ⟨_, _, _, _, _, rfl, (by walk_at "at" : _ = some _), (‹Tx _ _›).c_State, (‹Tx _ _›).n_State_cells, rfl, ?_⟩ | refine ⟨_, _, _, _, _, rfl, (by walk_at "at" : _ = some _), (‹Tx _ _›).c_State, (‹Tx _ _›).n_State_own_superblock, rfl, ?_⟩ | refine ⟨_, _, _, _, _, rfl, (by walk_at "at" : _ = some _), (‹Tx _ _›).c_Array, (‹Tx _ _›).n_Array_state, rfl, ?_⟩)
local macro_rules | `(tactic| walk_at "w") => `(tactic| first | refine ⟨_, rfl, ⟨_, (by walk_at "sq" : SqT _ _ _ _)⟩, ?_⟩ | refine ⟨_, rfl, ⟨_, (by walk_at "sq" : SqL _ _ _ _)⟩, ?_⟩ | refine ⟨_, rfl, ?_⟩ | refine ⟨_, _, rfl, rfl, ?_⟩ | refine ⟨rfl, ?_⟩ | refine ⟨_, _, rfl, (by walk_at "sq" : SqT _ _ _ _), rfl, ?_⟩ | refine ⟨_, _, rfl, (by walk_at "sq" : SqT _ _ _ _), ?_⟩ | refine ⟨_, _, rfl, (by walk_at "sq" : SqL _ _ _ _), ?_⟩ | refine ⟨_, _, rfl, (by walk_at "tdg" : DGet _ _ _ _), ?_⟩ | refine ⟨_, _, rfl, ?_⟩ | refine ⟨_, _, _, _, rfl, rfl, (by walk_at "sq" : SqT _ _ _ _), rfl, ?_⟩ | refine ⟨_, _, rfl, .inl (by walk_at "sq" : SqL _ _ _ _), rfl, rfl, ?_⟩ | refine ⟨_, _, rfl, .inr (by walk_at "sq" : SqT _ _ _ _), rfl, rfl, ?_⟩ | refine ⟨_, _, rfl, .inl (by walk_at "sq" : SqL _ _ _ _), ?_⟩ | refine ⟨_, _, rfl, .inr (by walk_at "sq" : SqT _ _ _ _), ?_⟩ | refine ⟨_, _, rfl, (by walk_at "at" : _ = some (HO.dK _)), ?_⟩ | refine ⟨_, _, _, _, rfl, rfl, (by walk_at "sq" : SqL _ _ _ _), rfl, ?_⟩ | refine ⟨_, _, _, rfl, (by walk_at "at" : _ = some _), rfl, ?_⟩ | refine ⟨_, _, _, rfl, ?_⟩ | walk_at "fld" | refine ty_d (by walk_at "at") ?_ | refine ty_l (by walk_at "sq") ?_ | refine ty_t (‹Tx _ _›).z_FIELDS ?_ | refine And.intro (by first | omega | decide | exact Nat.le_of_ble_eq_true rfl | (unfold CDiv; omega) | (unfold CMul; omega)) ?_)
local macro_rules | `(tactic| walk_at "go") => `(tactic| repeat walk_at "w")
section
variable {P : Program} {w : World} {K : PySem.W.Frag} {mg : Str → Option Value} {base : Heap}

theorem mv_keep {H H' : Hp} {ps : Array Value} {a : Addr} (ha : H a = some (.tbl ps)) (h : ∀ b o, H b = some o → b ≠ a → H' b = some o) : Mv K [a] H H' :=
  ⟨fun b o hb hn => h b o hb (by simpa using hn), fun b xs hb => by
    rcases hb with (z | ⟨o, z⟩) | z
    · exact .inl (.inl (h _ _ z fun y => by rw [y, ha] at z; cases z))
    · exact .inl (.inr ⟨o, h _ _ z fun y => by rw [y, ha] at z; cases z⟩)
    · exact .inr z, fun b f hb => h _ _ hb fun y => by rw [y, ha] at hb; cases hb⟩

theorem ok_greatest (T : Tx K mg) (g_tab : LamX.TabB base mg (He.codeOf K ("greatest", none)) (tabP K)) (g_Cells_cell : MK P w K mg base "Cells" "cell" ["self", "disk", "place"] 2 (sp_Cells_cell K)) (g_Cells_numbers : MK P w K mg base "Cells" "numbers" ["self"] 2 (sp_Cells_numbers K)) : GK P w K mg base "greatest" ["cells"] 3 (sp_greatest K) [] := gk_mkC T.f_greatest T.m_greatest (by decide +kernel) sc_greatest (fun _ _ _ _ _ _ us hl => match us, hl with | [_], _ => rfl) (fun _ _ _ _ h => by obtain ⟨_, _, _, rfl, _⟩ := h; rfl) fun A outer s H vs Q E hr h => by
  have nd := sc_greatest.nd
  refine ⟨_, (pss_cons (ps_w (ps_setLc (i := 1) (own := [("disk", 2)]) (g := gName 2) (tt := tYes) rfl nd rfl rfl (sw_true rfl rfl rfl (by decide +kernel)) (pi_listK K (pe_mk0K g_Cells_numbers hr (by decide) (pv 0))) (blkOk_by (N := ["cells", "found", "disk", "superblock"]) (sc := defScope s_greatest) (by decide +kernel)) (fun _ _ _ _ _ => (pg_name (i := 2) nd rfl (Or.inl rfl))) (fun _ _ _ _ _ => pts_nil) (fun _ _ _ _ _ => (pe_mkK g_Cells_cell hr (by decide) (pv 0) (pa_cons (pv 2) (pa_cons pe_str pa_nil))))))
  (pss_cons (ps_w (ps_setLc (i := 1) (own := [("superblock", 3)]) (g := gName 3) (tt := _) rfl nd rfl rfl (sw_true rfl rfl rfl (by decide +kernel)) (pi_listK K (pv 1)) (blkOk_by (N := ["cells", "found", "disk", "superblock"]) (sc := defScope s_greatest) (by decide +kernel)) (fun _ _ _ _ _ => (pg_name (i := 3) nd rfl (Or.inl rfl))) (fun _ _ _ _ _ => (pts_one (pt_cmpR op_notN (pv 3) pe_non (nomark _)))) (fun _ _ _ _ _ => (pv 3))))
  (pss_cons (ps_if (pt_cmpR op_eq (pb_lenK K T.b_len (pa_cons (pv 1) pa_nil)) pe_int (nomark _)) pss_never pss_nil)
  (pss_one (ps_ret (pe_maxK (K := K) (q := lamQ) T.b_max g_tab hr (pa_cons (pv 1) pa_nil))))))), ?_⟩
  obtain ⟨A, c, s, rfl, hc, hd0, tab, q⟩ := h
  have hcs := hc.cs
  walk_at "go"
  refine ⟨A, c, rfl, hc, fun p H1 hp e1 hp1 => ?_⟩
  have hc1 := hc.same e1
  walk_at "go"
  refine lcA (n := 6) (fun i y H' => Rp K H' y s.d) (by decide) (fun i y H H' nl h => nl.rp h) (fun i H' hi e => itl_go (SqL.of (e _ _ hp1)) (by simpa [six] using hi)) (fun H' e => itl_stop (SqL.of (e _ _ hp1))) ?_ ?_
  · intro i H' x H2 hi e hy R2 hR2
    obtain ⟨rfl, hx⟩ := itl_yld (SqL.of (e _ _ hp1)) hy
    obtain ⟨_, rfl⟩ := six_at hx
    have hc2 := hc1.same e
    have hcs2 := hc2.cs
    obtain ⟨_, d, _, hd, _⟩ := hc2.ds.get hi
    refine ⟨rfl, ?_⟩
    walk_at "go"
    refine ⟨A, c, i, .mt .sb, d, s.d, rfl, hc2, hd, by show some d.m0 = _; rw [hd0 d (List.mem_of_getElem? hd)], fun w hw => ?_⟩
    exact hR2 _ _ (Same.refl _) hw
  intro p2 ys H2 hp2 hy2 e2 hq
  have hyl : ys.length = 6 := by have := plen hq; simpa using this
  walk_at "go"
  refine lcK (n := ys.length) (fun _ => true) (fun i y H' => Rp K H' y s.d) (by omega) (fun i y H H' nl h => nl.rp h) (fun i H' hi e => itl_go (SqL.of (e _ _ hy2)) hi) (fun H' e => itl_stop (SqL.of (e _ _ hy2))) ?_ ?_
  · intro i H' x H3 hi e hy R2 Z hR2 hZ
    obtain ⟨rfl, hx⟩ := itl_yld (SqL.of (e _ _ hy2)) hy
    have hrx := (pget hq (List.getElem?_range (by omega)) hx).same e
    obtain ⟨t, _, _, rfl, _⟩ := sb_open hrx
    refine ⟨rfl, ?_⟩
    walk_at "go"
    exact hR2 rfl _ _ (Same.refl _) hrx
  intro p3 zs H3 hp3 hz3 e3 hqz
  rw [keep_all] at hqz
  have hzl : zs.length = 6 := by have := plen hqz; simpa [hyl] using this
  walk_at "go"
  rw [show decide (V.int (zs.length : Nat) = V.int 0) = false from decide_eq_false (fun z => by rw [hzl] at z; cases z)]
  walk_at "go"
  have e03 := (e1.trans e2).trans e3
  have tab3 := TabK.same tab e03
  refine ⟨p3, zs, fun _ => s.num, rfl, SqL.of hz3, by omega, fun i y hy => ?_, tab3, fun H4 i y hk tab4 hy => ?_⟩
  · have hi := (List.getElem?_eq_some_iff.mp hy).1
    have hr := pget hqz (List.getElem?_range (by omega)) hy
    obtain ⟨t, a, b, rfl, h1, _⟩ := sb_open hr
    exact ⟨t, _, rfl, h1, rfl⟩
  · have hi := (List.getElem?_eq_some_iff.mp hy).1
    have hr := pget hqz (List.getElem?_range (by omega)) hy
    obtain ⟨ps, hps, _⟩ := id tab3
    have m4 : Mv K [tabP K] H3 H4 := mv_keep hps hk
    exact q y H4 ((Mv.of_same e03).trans m4) tab4 (hr.mv m4)


end
end WS
set_option Elab.async false
set_option linter.all false
set_option maxRecDepth 100000
set_option maxHeartbeats 4000000
namespace WS
open PySem PySem.Spec PyProof.Rows L2
local macro_rules | `(tactic| walk_at "tdg") => `(tactic| first | (apply tdg0; walk_at "at") | (apply tdg1; walk_at "at") | (apply tdg2; walk_at "at") | (apply tdg3; walk_at "at") | (apply tdg4; walk_at "at") | (apply tdg5; walk_at "at") | (apply tdg6; walk_at "at") | (apply tdg7; walk_at "at") | (apply tdg8; walk_at "at"))
local macro_rules | `(tactic| walk_at "no") => `(tactic| first | assumption | (apply no_by; assumption; walk_at "sm"))
local macro_rules | `(tactic| walk_at "sm") => `(tactic| first | exact Same.refl _ | assumption | (apply same_up; walk_at "no"; walk_at "sm") | (apply same_by; assumption; walk_at "sm"))
local macro_rules | `(tactic| walk_at "tk") => `(tactic| first | exact TK.refl | assumption | (apply tk_up; walk_at "no"; walk_at "tk") | (apply tk_by; assumption; walk_at "tk") | (apply tk_mv; assumption; walk_at "tk"))
local macro_rules | `(tactic| walk_at "mv") => `(tactic| first | exact Mv.refl | assumption | (apply mv_up; walk_at "no"; walk_at "mv") | (apply mv_mv; assumption; walk_at "mv") | (apply mv_by; assumption; walk_at "mv"))
local macro_rules | `(tactic| walk_at "ne") => `(tactic| first | assumption | (refine Ne.symm ?_; assumption))
local macro_rules | `(tactic| walk_at "at") => `(tactic| first | assumption | exact upd_same | (apply at_new; walk_at "no"; walk_at "at") | (apply at_ne; walk_at "ne"; walk_at "at") | (apply at_same; assumption; walk_at "at") | (apply at_mv; assumption; assumption; walk_at "at"))
local macro_rules | `(tactic| walk_at "rp") => `(tactic| first | assumption | exact Rp.non | exact Rp.int _ | exact Rp.str _ | (apply rp_tk; assumption; walk_at "tk"))
local macro_rules | `(tactic| walk_at "sq") => `(tactic| first | assumption | exact (‹Tx _ _›).t_METAS _ | exact (‹Tx _ _›).t_FIELDS _ | exact (‹Tx _ _›).t_LEFT _ | exact (‹Tx _ _›).t_SYMMETRIC _ | (apply SqT.of; walk_at "at") | (apply SqL.of; walk_at "at") | (apply sqt_tk; assumption; walk_at "tk") | (apply sql_sm; assumption; walk_at "sm"))
local macro_rules | `(tactic| walk_at "sd") => `(tactic| first | rfl | omega | assumption | decide)
local macro_rules | `(tactic| walk_at "fld") => `(tactic| first | refine ⟨_, _, _, _, _, rfl, (by walk_at "at" : _ = some _), (‹Tx _ _›).c_Cells, (‹Tx _ _›).n_Cells_disks, rfl, ?_⟩ | refine ⟨_, _, _, _, _, rfl, (by walk_at "at" : _ = some _), (‹Tx _ _›).c_Cells, (‹Tx _ _›).n_Cells_done, rfl, ?_⟩ | refine ⟨_, _, _, _, _, rfl, (by walk_at "at" : _ = some _), (‹Tx _ _›).c_Cells, (‹Tx _ _›).n_Cells_begun, rfl, ?_⟩ | refine ⟨_, _, _, _, _, rfl, (by walk_at "at" : _ = some _), (‹Tx _ _›).c_Cells, (‹Tx _ _›).n_Cells_is_loose, rfl, ?_⟩ | refine ⟨_, _, _, _, _, rfl, (by walk_at "at" : _ = some _), (‹Tx _ _›).c_State, (‹Tx _ _›).n_State_cells, rfl, ?_⟩ | refine ⟨_, _, _, _, _, rfl, (by walk_at "at" : _ = some _), (‹Tx _ _›).c_State, (‹Tx _ _›).n_State_own_superblock, rfl, ?_⟩ | refine ⟨_, _, _, _, _, rfl, (by walk_at "at" : _ = some _), (‹Tx _ _›).c_Array, (‹Tx _ _›).n_Array_state, rfl, ?_⟩)
local macro_rules | `(tactic| walk_at "w") => `(tactic| first | refine ⟨_, rfl, ⟨_, (by walk_at "sq" : SqT _ _ _ _)⟩, ?_⟩ | refine ⟨_, rfl, ⟨_, (by walk_at "sq" : SqL _ _ _ _)⟩, ?_⟩ | refine ⟨_, rfl, ?_⟩ | refine ⟨_, _, rfl, rfl, ?_⟩ | refine ⟨rfl, ?_⟩ | refine ⟨_, _, rfl, (by walk_at "sq" : SqT _ _ _ _), rfl, ?_⟩ | refine ⟨_, _, rfl, (by walk_at "sq" : SqT _ _ _ _), ?_⟩ | refine ⟨_, _, rfl, (by walk_at "sq" : SqL _ _ _ _), ?_⟩ | refine ⟨_, _, rfl, (by walk_at "tdg" : DGet _ _ _ _), ?_⟩ | refine ⟨_, _, rfl, ?_⟩ | refine ⟨_, _, _, _, rfl, rfl, (by walk_at "sq" : SqT _ _ _ _), rfl, ?_⟩ | refine ⟨_, _, rfl, .inl (by walk_at "sq" : SqL _ _ _ _), rfl, rfl, ?_⟩ | refine ⟨_, _, rfl, .inr (by walk_at "sq" : SqT _ _ _ _), rfl, rfl, ?_⟩ | refine ⟨_, _, rfl, .inl (by walk_at "sq" : SqL _ _ _ _), ?_⟩ | refine ⟨_, _, rfl, .inr (by walk_at "sq" : SqT _ _ _ _), ?_⟩ | refine ⟨_, _, rfl, (by walk_at "at" : _ = some (HO.dK _)), ?_⟩ | refine ⟨_, _, _, _, rfl, rfl, (by walk_at "sq" : SqL _ _ _ _), rfl, ?_⟩ | refine ⟨_, _, _, rfl, (by walk_at "at" : _ = some _), rfl, ?_⟩ | refine ⟨_, _, _, rfl, ?_⟩ | walk_at "fld" | refine ty_d (by walk_at "at") ?_ | refine ty_l (by walk_at "sq") ?_ | refine ty_t (‹Tx _ _›).z_FIELDS ?_ | refine And.intro (by first | omega | decide | exact Nat.le_of_ble_eq_true rfl | (unfold CDiv; omega) | (unfold CMul; omega)) ?_)
local macro_rules | `(tactic| walk_at "go") => `(tactic| repeat walk_at "w")
section
variable {P : Program} {w : World} {K : PySem.W.Frag} {mg : Str → Option Value} {base : Heap}

/-- the array, the values, the box -/
structure WAt (K : PySem.W.Frag) (H : Hp) (A : Ad) (S : ArrS) (R : Nat) (ws : List Int) (wl bx : Addr) (n : Nat) : Prop where
  arr : ArrAt K H A S
  wf : Wf S R ws
  bd : ∀ x ∈ ws, 0 ≤ x ∧ x < 2 ^ 32
  wla : H wl = some (.lst (ws.map V.int))
  box : BoxAt H bx n
  tab : TabK K H
  w1 : wl ≠ A.dl
  w2 : wl ≠ bx
  w3 : wl ∉ A.F
  w4 : wl ≠ A.arr
  b1 : bx ≠ A.dl
  b2 : bx ∉ A.F
  b3 : bx ≠ A.arr
  t1 : tabP K ∉ A.F
section
variable {H H' : Hp} {A : Ad} {S S' : ArrS} {R n n' : Nat} {ws ws' : List Int} {wl bx : Addr}
theorem WAt.tne (h : WAt K H A S R ws wl bx n) : tabP K ≠ bx ∧ tabP K ≠ wl := by
  obtain ⟨ps, h1, _⟩ := h.tab
  obtain ⟨_, _, _, h2, _⟩ := h.box
  exact ⟨fun z => (by rw [z, h2] at h1; cases h1), fun z => (by rw [z, h.wla] at h1; cases h1)⟩
theorem WAt.ane (h : WAt K H A S R ws wl bx n) : A.arr ≠ bx ∧ A.arr ≠ wl ∧ A.dl ≠ bx ∧ A.dl ≠ wl := ⟨h.b3.symm, h.w4.symm, h.b1.symm, h.w1.symm⟩
theorem WAt.op (h : WAt K H A S R ws wl bx n) (m : Mv K A.F H H') (a : ArrAt K H' A S') (w : Wf S' R ws) : WAt K H' A S' R ws wl bx n :=
  ⟨a, w, h.bd, m.at h.wla h.w3, h.box.mv m h.b2, h.tab.mv m h.t1, h.w1, h.w2, h.w3, h.w4, h.b1, h.b2, h.b3, h.t1⟩
theorem WAt.mvb (h : WAt K H A S R ws wl bx n) (m : Mv K [bx] H H') (b : BoxAt H' bx n') : WAt K H' A S R ws wl bx n' :=
  ⟨h.arr.to m (by simpa using h.b3.symm) (by simpa using h.b1.symm) (fun a ha => by simp only [List.mem_singleton]; exact fun z => h.b2 (z ▸ ha)), h.wf, h.bd, m.at h.wla (by simpa using h.w2), b, h.tab.mv m (by simpa using h.tne.1), h.w1, h.w2, h.w3, h.w4, h.b1, h.b2, h.b3, h.t1⟩
theorem WAt.same (h : WAt K H A S R ws wl bx n) (e : Same H H') : WAt K H' A S R ws wl bx n :=
  ⟨h.arr.same e, h.wf, h.bd, e _ _ h.wla, h.box.same e, h.tab.same e, h.w1, h.w2, h.w3, h.w4, h.b1, h.b2, h.b3, h.t1⟩
theorem WAt.le (h : WAt K H A S R ws wl bx n) (e : n ≤ n') : WAt K H A S R ws wl bx n' :=
  ⟨h.arr, h.wf, h.bd, h.wla, h.box.le e, h.tab, h.w1, h.w2, h.w3, h.w4, h.b1, h.b2, h.b3, h.t1⟩
/-- a block is written, its value noted -/
theorem WAt.put (h : WAt K H A S R ws wl bx n) (m : Mv K A.F H H') (a : ArrAt K H' A S') (w : Wf S' R ws') (hb : ∀ x ∈ ws', 0 ≤ x ∧ x < 2 ^ 32) :
    WAt K (upd H' wl (.lst (ws'.map V.int))) A S' R ws' wl bx n := by
  have hw := m.at h.wla h.w3
  have m2 : Mv K [wl] H' (upd H' wl (.lst (ws'.map V.int))) := Mv.lst hw (by simp)
  have hb' := h.box.mv m h.b2
  exact ⟨a.to m2 (by simpa using h.w4.symm) (by simpa using h.w1.symm) (fun a ha => by simp only [List.mem_singleton]; exact fun z => h.w3 (z ▸ ha)), w, hb, upd_same, hb'.mv m2 (by simpa using h.w2.symm),
    (h.tab.mv m h.t1).mv m2 (by simpa using h.tne.2), h.w1, h.w2, h.w3, h.w4, h.b1, h.b2, h.b3, h.t1⟩
def WF (A : Ad) (wl bx : Addr) : List Addr := bx :: wl :: A.F
theorem wf_F : ∀ a ∈ A.F, a ∈ WF A wl bx := fun a h => List.mem_cons_of_mem _ (List.mem_cons_of_mem _ h)
theorem wf_b : ∀ a ∈ [bx], a ∈ WF A wl bx := fun a h => by rw [List.mem_singleton.mp h]; exact List.mem_cons_self
theorem wf_w : ∀ a ∈ [wl], a ∈ WF A wl bx := fun a h => by rw [List.mem_singleton.mp h]; exact List.mem_cons_of_mem _ List.mem_cons_self
end
theorem len_ws {S : ArrS} {R : Nat} {ws : List Int} (h : Wf S R ws) : 3 ≤ ws.length ∧ ws.length ≤ 30 ∧ (ws.length : Int) = S.sb.blocks := by
  have h1 := h.wl
  have h2 := h.g.ok.b0
  have h3 := h.g.ok.b1
  omega
theorem bd_set {ws : List Int} (h : ∀ x ∈ ws, 0 ≤ x ∧ x < 2 ^ 32) {i : Nat} {y : Int} (h0 : 0 ≤ y) (h1 : y < 4294967296) : ∀ x ∈ ws.set i y, 0 ≤ x ∧ x < 2 ^ 32 := fun x hx => by
  rcases List.mem_or_eq_of_mem_set hx with z | z
  · exact h x z
  · rw [z]; omega
/-- wl[b] = x -/
theorem set_ws {ws : List Int} {b x : Int} : ((ws.map V.int).set b.toNat (.int x)) = (ws.set b.toNat x).map V.int := by rw [List.map_set]
theorem ps_len {t : Lay} (ht : t.ok) {r q : Int} {vals : List Int} {ps : List (Int × Int)} (hv : vals.length = (t.n - 1).toNat) (hp : ps.Perm (dataCells t r vals ++ [(par t r, q)])) : ps.length ≤ 6 := by
  have h1 := hp.length_eq
  have h2 := ht.2
  simp only [dataCells, List.length_append, List.length_map, List.length_range, List.length_singleton] at h1
  omega
def sp_L_moved (K : PySem.W.Frag) : Sp := fun vs H Q _ => ∃ (A : Ad) (S : ArrS) (R : Nat) (ws : List Int) (wl bx : Addr) (n : Nat) (many : Int), vs = [.ref bx, .ref A.arr, .ref wl, .int 6, .int many] ∧ WAt K H A S R ws wl bx n ∧ 0 ≤ many ∧ many ≤ 20 ∧ n ≤ 10000 ∧ S.ce.done.length ≤ 1000 ∧
  ∀ (H' : Hp) (S' : ArrS) (ws' : List Int), WAt K H' A S' R ws' wl bx (n + 10 * many.toNat) → Mv K (WF A wl bx) H H' → S'.ce.done.length ≤ S.ce.done.length + 28 * many.toNat → Q .non H'

theorem ok_L_moved (T : Tx K mg) (g_Array_superblock : MK P w K mg base "Array" "superblock" ["self"] 1 (sp_Array_superblock K)) (g_L_room : GK P w K mg base "_law_room" ["_law_host", "_law_disks"] 4 (sp_L_room K) []) (g_L_shape : GK P w K mg base "_law_shape" ["_law_box_here", "_law_least", "_law_most"] 3 (sp_L_shape K) []) (g_L_take : GK P w K mg base "_law_take" ["_law_box_here", "_law_many"] 1 (sp_L_take K) []) (g_L_worth : GK P w K mg base "_law_worth" ["_law_box_here"] 3 (sp_L_worth K) []) (g_change : GK P w K mg base "change" ["array", "target"] 11 (sp_change K) []) (g_step : GK P w K mg base "step" ["array"] 14 (sp_step K) []) (g_turn : GK P w K mg base "turn" ["array"] 11 (sp_turn K) []) (g_write : GK P w K mg base "write" ["array", "block", "value"] 7 (sp_write K) []) : GK P w K mg base "_law_moved" ["_law_box_here", "_law_host", "_law_worths", "_law_disks", "_law_many"] 15 (sp_L_moved K) [] := gk_mk T.f_L_moved T.m_L_moved (by decide +kernel) sc_L_moved (fun _ _ _ _ _ _ us hl => match us, hl with | [_, _, _, _, _], _ => rfl) (fun _ _ _ _ h => by obtain ⟨_, _, _, _, _, _, _, _, rfl, _⟩ := h; rfl) fun cdv A outer s H vs Q E hr h => by
  have nd := sc_L_moved.nd
  refine ⟨_, (pss_one (ps_wf (ps_for PassesOwn.never rfl (pi_range1 rfl T.b_range (pa_cons (pv 4) pa_nil)) (pg_name (i := 5) nd rfl (Or.inl rfl)) (pss_cons (ps_par (i := 6) (j := 7) (by rfl) nd rfl rfl (by decide) rfl rfl (pa_cons (pe_gkK g_L_take hr (by decide) (pa_cons (pv 0) (pa_cons pe_int pa_nil))) (pa_cons (pe_ix (ix_tupK K) (pe_mk0K g_Array_superblock hr (by decide) (pv 1)) pe_int (fun _ _ => rfl)) pa_nil)) (by rfl))
  (pss_one (ps_if (PW.pt (pw_and (pt_cmpR op_isN (pv 7) pe_non (nomark _)) (pw_and1 (pt_cmpR op_lt (pv 6) pe_int (nomark _))))) (pss_one (ps_expr (pe_gkK g_change hr (by decide) (pa_cons (pv 1) (pa_cons (pe_gkK g_L_shape hr (by decide) (pa_cons (pv 0) (pa_cons pe_int (pa_cons (pe_gkK g_L_room hr (by decide) (pa_cons (pv 1) (pa_cons (pv 3) pa_nil))) pa_nil)))) pa_nil))))) (pss_one (ps_if (PW.pt (pw_and (pt_cmpR op_notN (pv 7) pe_non (nomark _)) (pw_and1 (pt_cmpR op_lt (pv 6) pe_int (nomark _))))) (pss_one (ps_expr (pe_gkK g_step hr (by decide) (pa_cons (pv 1) pa_nil)))) (pss_one (ps_if (PW.pt (pw_and (pt_cmpR op_notN (pv 7) pe_non (nomark _)) (pw_and1 (pt_cmpR op_eq (pv 6) pe_int (nomark _))))) (pss_one (ps_expr (pe_gkK g_turn hr (by decide) (pa_cons (pv 1) pa_nil)))) (pss_cons (ps_par (i := 8) (j := 9) (by rfl) nd rfl rfl (by decide) rfl rfl (pa_cons (pe_gkK g_L_take hr (by decide) (pa_cons (pv 0) (pa_cons (pb_lenK K T.b_len (pa_cons (pv 2) pa_nil)) pa_nil))) (pa_cons (pe_gkK g_L_worth hr (by decide) (pa_cons (pv 0) pa_nil)) pa_nil)) (by rfl))
  (pss_cons (ps_expr (pe_gkK g_write hr (by decide) (pa_cons (pv 1) (pa_cons (pv 8) (pa_cons (pv 9) pa_nil)))))
  (pss_one (ps_asg (pv 9) (pg_sub (pv 2) (pv 8) set_list))))))))))))))), ?_⟩
  obtain ⟨A, S, R, ws, wl, bx, n, many, rfl, hw, hm0, hm1, hn, hdl, q⟩ := h
  walk_at "go"
  refine forG (n := many.toNat) (fun i σ H' => ∃ S' ws' s5 s6 s7 s8 s9, σ = [some (.ref bx), some (.ref A.arr), some (.ref wl), some (.int 6), some (.int many), s5, s6, s7, s8, s9] ∧ WAt K H' A S' R ws' wl bx (n + 10 * i) ∧ Mv K (WF A wl bx) H H' ∧ S'.ce.done.length ≤ S.ce.done.length + 28 * i) ⟨S, ws, none, none, none, none, none, rfl, hw, .refl, by omega⟩ (fun i σ H' hi _ => by show i < _; exact hi) (fun σ H' _ => by show _ ≤ _; exact Nat.le_refl _) ?_ ?_
  · rintro i σ H0 x H2 hi ⟨S', ws', s5, s6, s7, s8, s9, rfl, hw0, m0, hl0⟩ ⟨rfl, rfl⟩
    walk_at "go"
    refine ⟨bx, n + 10 * i, 12, rfl, hw0.box, by decide, by decide, by omega, fun way H1 hw0' hw1' mb1 hb1 => ?_⟩
    have hw1 := hw0.mvb mb1 hb1
    have m1 : Mv K (WF A wl bx) H H1 := m0.trans (mb1.sub wf_b)
    have hH1 := hw1.arr.arr
    walk_at "go"
    refine ⟨A, S', rfl, hw1.arr, fun hv hhv => ?_⟩
    obtain ⟨ha, xl, y, rfl, hha, hxl, hy⟩ := sb_open hhv
    refine ⟨_, _, _, _, rfl, rfl, hha, rfl, ?_⟩
    obtain ⟨wl3, wl30, wlb⟩ := len_ws hw1.wf
    have hwl1 := hw1.wla
    cases hmv : S'.sb.mv with
    | none =>
      rw [tgt_none hmv] at hy
      obtain rfl : y = .non := hy.non_eq
      walk_at "go"
      by_cases h6 : way < 6
      · rw [decide_eq_true h6]
        walk_at "go"
        refine ⟨A, S', R, rfl, hw1.arr, hw1.wf.ce, fun H3 e3 => ?_⟩
        have hw3 := hw1.same e3
        walk_at "go"
        refine ⟨bx, _, 3, 6, rfl, hw3.box, by decide, by decide, by omega, fun l v H4 hl3 hl6 mb4 hb4 hv => ?_⟩
        have hw4 := hw3.mvb mb4 hb4
        walk_at "go"
        refine ⟨A, S', R, v, l, rfl, hw4.arr, hw4.wf.ce, hmv, hv, ⟨hl3, hl6⟩, hw4.wf.br, by omega, fun H5 m5 ha5 => ?_⟩
        have hw5 := hw4.op m5 ha5 (change_wf hw4.wf hmv ⟨hl3, hl6⟩)
        have hln := goOn_len S' (.all (begunS S'.sb l))
        exact ⟨_, ws', _, _, _, _, _, rfl, hw5.le (by omega), (m1.trans ((Mv.of_same e3).trans (mb4.sub wf_b))).trans (m5.sub wf_F), by omega⟩
      · rw [decide_eq_false h6]
        walk_at "go"
        refine ⟨bx, _, _, rfl, hw1.box, by simp only [List.length_map]; omega, by simp only [List.length_map]; omega, by omega, fun b H3 b0 b1 mb3 hb3 => ?_⟩
        rw [List.length_map] at b1
        have hw3 := hw1.mvb mb3 hb3
        walk_at "go"
        refine ⟨bx, _, rfl, hw3.box, by omega, fun x H4 x0 x1 mb4 hb4 => ?_⟩
        have hw4 := hw3.mvb mb4 hb4
        walk_at "go"
        refine ⟨A, S', b, x, R, rfl, hw4.arr, hw4.wf.g.ok, hw4.wf.ce, b0, by omega, hw4.wf.br, by omega, fun y lc H5 nn hlc m5 ha5 => ?_⟩
        have hwl5 := m5.at hw4.wla hw4.w3
        walk_at "go"
        refine ⟨_, _, _, b.toNat, rfl, rfl, hwl5, (by unfold ixN; rw [if_pos b0, if_pos (by rw [List.length_map]; omega)]), ?_⟩
        rw [set_ws]
        have hw6 := hw4.put m5 ha5 (write_wf hw4.wf b0 (by omega) hlc) (bd_set hw4.bd x0 x1)
        have hln := write_len S'.ce S'.sb b x y lc
        exact ⟨⟨S'.sb, writeCe S'.ce S'.sb b x y lc⟩, _, _, _, _, _, _, rfl, hw6.le (by omega), ((m1.trans ((mb3.trans mb4).sub wf_b)).trans (m5.sub wf_F)).trans ((Mv.lst hwl5 (by simp)).sub wf_w), by show (writeCe S'.ce S'.sb b x y lc).done.length ≤ _; omega⟩
    | some m =>
      obtain ⟨t, up⟩ := m
      rw [tgt_some hmv] at hy
      obtain ⟨ay, rfl, _⟩ := lay_open hy
      walk_at "go"
      by_cases h7 : way < 7
      · rw [decide_eq_true h7]
        walk_at "go"
        obtain ⟨r, hr⟩ : ∃ r, nextRow S'.sb = some r := by unfold nextRow; rw [hmv]; exact ⟨_, rfl⟩
        obtain ⟨_, _, _, r0, hrR, _, _⟩ := step_geo hw1.wf.g hmv hr
        refine ⟨A, S', R, t, up, r, rfl, hw1.arr, hw1.wf.g.ok, hw1.wf.ce, hw1.wf.br, hmv, hr, r0, hrR R hw1.wf.br, by omega, fun v H3 ps qq hps m3 ha3 hv => ?_⟩
        have hw3 := hw1.op m3 ha3 (step_wf hw1.wf hmv hr hps)
        have h6 : ps.length ≤ 6 := ps_len (hw1.wf.g.ok.tgt t up hmv) (rowVals_len _ _ _ _) hps
        have hln := stepS_len S' r (rowVals S'.sb S'.ce.disks t r) (decide (r ∈ usedL S'.sb)) hw1.wf.loose (ps_ne hps) h6
        exact ⟨_, ws', _, _, _, _, _, rfl, hw3.le (by omega), m1.trans (m3.sub wf_F), by omega⟩
      · rw [decide_eq_false h7]
        walk_at "go"
        by_cases h77 : way = 7
        · subst h77
          walk_at "go"
          refine ⟨A, S', R, t, up, rfl, hw1.arr, hw1.wf.ce, hmv, by omega, fun H3 m3 ha3 => ?_⟩
          have hw3 := hw1.op m3 ha3 (turn_wf hw1.wf hmv)
          have hln := goOn_len S' (.all (turnedS S'.sb))
          exact ⟨_, ws', _, _, _, _, _, rfl, hw3.le (by omega), m1.trans (m3.sub wf_F), by omega⟩
        · rw [show decide (V.int way = V.int 7) = false from decide_eq_false (fun z => h77 (V.int.inj z))]
          walk_at "go"
          refine ⟨bx, _, _, rfl, hw1.box, by simp only [List.length_map]; omega, by simp only [List.length_map]; omega, by omega, fun b H3 b0 b1 mb3 hb3 => ?_⟩
          rw [List.length_map] at b1
          have hw3 := hw1.mvb mb3 hb3
          walk_at "go"
          refine ⟨bx, _, rfl, hw3.box, by omega, fun x H4 x0 x1 mb4 hb4 => ?_⟩
          have hw4 := hw3.mvb mb4 hb4
          walk_at "go"
          refine ⟨A, S', b, x, R, rfl, hw4.arr, hw4.wf.g.ok, hw4.wf.ce, b0, by omega, hw4.wf.br, by omega, fun y lc H5 nn hlc m5 ha5 => ?_⟩
          have hwl5 := m5.at hw4.wla hw4.w3
          walk_at "go"
          refine ⟨_, _, _, b.toNat, rfl, rfl, hwl5, (by unfold ixN; rw [if_pos b0, if_pos (by rw [List.length_map]; omega)]), ?_⟩
          rw [set_ws]
          have hw6 := hw4.put m5 ha5 (write_wf hw4.wf b0 (by omega) hlc) (bd_set hw4.bd x0 x1)
          have hln := write_len S'.ce S'.sb b x y lc
          exact ⟨⟨S'.sb, writeCe S'.ce S'.sb b x y lc⟩, _, _, _, _, _, _, rfl, hw6.le (by omega), ((m1.trans ((mb3.trans mb4).sub wf_b)).trans (m5.sub wf_F)).trans ((Mv.lst hwl5 (by simp)).sub wf_w), by show (writeCe S'.ce S'.sb b x y lc).done.length ≤ _; omega⟩
  · rintro σ H' ⟨S', ws', s5, s6, s7, s8, s9, rfl, hw', m, hl⟩
    walk_at "go"
    exact q _ S' ws' hw' m hl


end
end WS
set_option Elab.async false
set_option linter.all false
set_option maxRecDepth 100000
set_option maxHeartbeats 4000000
namespace WS
open PySem PySem.Spec PyProof.Rows L2
local macro_rules | `(tactic| walk_at "tdg") => `(tactic| first | (apply tdg0; walk_at "at") | (apply tdg1; walk_at "at") | (apply tdg2; walk_at "at") | (apply tdg3; walk_at "at") | (apply tdg4; walk_at "at") | (apply tdg5; walk_at "at") | (apply tdg6; walk_at "at") | (apply tdg7; walk_at "at") | (apply tdg8; walk_at "at"))
local macro_rules | `(tactic| walk_at "no") => `(tactic| first | assumption | (apply no_by; assumption; walk_at "sm"))
local macro_rules | `(tactic| walk_at "sm") => `(tactic| first | exact Same.refl _ | assumption | (apply same_up; walk_at "no"; walk_at "sm") | (apply same_by; assumption; walk_at "sm"))
local macro_rules | `(tactic| walk_at "tk") => `(tactic| first | exact TK.refl | assumption | (apply tk_up; walk_at "no"; walk_at "tk") | (apply tk_by; assumption; walk_at "tk") | (apply tk_mv; assumption; walk_at "tk"))
local macro_rules | `(tactic| walk_at "mv") => `(tactic| first | exact Mv.refl | assumption | (apply mv_up; walk_at "no"; walk_at "mv") | (apply mv_mv; assumption; walk_at "mv") | (apply mv_by; assumption; walk_at "mv"))
local macro_rules | `(tactic| walk_at "ne") => `(tactic| first | assumption | (refine Ne.symm ?_; assumption))
local macro_rules | `(tactic| walk_at "at") => `(tactic| first | assumption | exact upd_same | (apply at_new; walk_at "no"; walk_at "at") | (apply at_ne; walk_at "ne"; walk_at "at") | (apply at_same; assumption; walk_at "at") | (apply at_mv; assumption; assumption; walk_at "at"))
local macro_rules | `(tactic| walk_at "rp") => `(tactic| first | assumption | exact Rp.non | exact Rp.int _ | exact Rp.str _ | (apply rp_tk; assumption; walk_at "tk"))
local macro_rules | `(tactic| walk_at "sq") => `(tactic| first | assumption | exact (‹Tx _ _›).t_METAS _ | exact (‹Tx _ _›).t_FIELDS _ | exact (‹Tx _ _›).t_LEFT _ | exact (‹Tx _ _›).t_SYMMETRIC _ | (apply SqT.of; walk_at "at") | (apply SqL.of; walk_at "at") | (apply sqt_tk; assumption; walk_at "tk") | (apply sql_sm; assumption; walk_at "sm"))
local macro_rules | `(tactic| walk_at "sd") => `(tactic| first | rfl | omega | assumption | decide)
local macro_rules | `(tactic| walk_at "fld") => `(tactic| first | refine ⟨_, _, _, _, _, rfl, (by walk_at "at" : _ = some _), (‹Tx _ _›).c_Cells, (‹Tx _ _›).n_Cells_disks, rfl, ?_⟩ | refine ⟨_, _, _, _, _, rfl, (by walk_at "at" : _ = some _), (‹Tx _ _›).c_Cells, (‹Tx _ _›).n_Cells_done, rfl, ?_⟩ | refine ⟨_, _, _, _, _, rfl, (by walk_at "at" : _ = some _), (‹Tx _ _›).c_Cells, (‹Tx _ _›).n_Cells_begun, rfl, ?_⟩ | refine ⟨_, _, _, _, _, rfl, (by walk_at "at" : _ = some _), (‹Tx _ _›).c_Cells, (‹Tx _ _›).n_Cells_is_loose, rfl, ?_⟩ | refine ⟨_, _, _, _, _, rfl, (by walk_at "at" : _ = some _), (‹Tx _ _›).c_State, (‹Tx _ _›).n_State_cells, rfl, ?_⟩ | refine ⟨_, _, _, _, _, rfl, (by walk_at "at" : _ = some _), (‹Tx _ _›).c_State, (‹Tx _ _›).n_State_own_superblock, rfl, ?_⟩ | refine ⟨_, _, _, _, _, rfl, (by walk_at "at" : _ = some _), (‹Tx _ _›).c_Array, (‹Tx _ _›).n_Array_state, rfl, ?_⟩)
local macro_rules | `(tactic| walk_at "w") => `(tactic| first | refine ⟨_, rfl, ⟨_, (by walk_at "sq" : SqT _ _ _ _)⟩, ?_⟩ | refine ⟨_, rfl, ⟨_, (by walk_at "sq" : SqL _ _ _ _)⟩, ?_⟩ | refine ⟨_, rfl, ?_⟩ | refine ⟨_, _, rfl, rfl, ?_⟩ | refine ⟨rfl, ?_⟩ | refine ⟨_, _, rfl, (by walk_at "sq" : SqT _ _ _ _), rfl, ?_⟩ | refine ⟨_, _, rfl, (by walk_at "sq" : SqT _ _ _ _), ?_⟩ | refine ⟨_, _, rfl, (by walk_at "sq" : SqL _ _ _ _), ?_⟩ | refine ⟨_, _, rfl, (by walk_at "tdg" : DGet _ _ _ _), ?_⟩ | refine ⟨_, _, rfl, ?_⟩ | refine ⟨_, _, _, _, rfl, rfl, (by walk_at "sq" : SqT _ _ _ _), rfl, ?_⟩ | refine ⟨_, _, rfl, .inl (by walk_at "sq" : SqL _ _ _ _), rfl, rfl, ?_⟩ | refine ⟨_, _, rfl, .inr (by walk_at "sq" : SqT _ _ _ _), rfl, rfl, ?_⟩ | refine ⟨_, _, rfl, .inl (by walk_at "sq" : SqL _ _ _ _), ?_⟩ | refine ⟨_, _, rfl, .inr (by walk_at "sq" : SqT _ _ _ _), ?_⟩ | refine ⟨_, _, rfl, (by walk_at "at" : _ = some (HO.dK _)), ?_⟩ | refine ⟨_, _, _, _, rfl, rfl, (by walk_at "sq" : SqL _ _ _ _), rfl, ?_⟩ | refine ⟨_, _, _, rfl, (by walk_at "at" : _ = some _), rfl, ?_⟩ | refine ⟨_, _, _, rfl, ?_⟩ | walk_at "fld" | refine ty_d (by walk_at "at") ?_ | refine ty_l (by walk_at "sq") ?_ | refine ty_t (‹Tx _ _›).z_FIELDS ?_ | refine And.intro (by first | omega | decide | exact Nat.le_of_ble_eq_true rfl | (unfold CDiv; omega) | (unfold CMul; omega)) ?_)
local macro_rules | `(tactic| walk_at "go") => `(tactic| repeat walk_at "w")
section
variable {P : Program} {w : World} {K : PySem.W.Frag} {mg : Str → Option Value} {base : Heap}

theorem Mv.fresh {F G : List Addr} {H H1 H2 : Hp} (m1 : Mv K F H H1) (m2 : Mv K G H1 H2) (h : ∀ a ∈ G, a ∈ F ∨ H a = none) : Mv K F H H2 :=
  ⟨fun a o ha hn => m2.at (m1.at ha hn) fun z => (h a z).elim hn fun y => (by rw [y] at ha; cases ha), m1.t.trans m2.t, fun b f hb => m2.x b f (m1.x b f hb)⟩
theorem Mv.free {F : List Addr} {H H1 : Hp} {a : Addr} (m : Mv K F H H1) (h : H1 a = none) (hF : a ∉ F) : H a = none := by
  cases q : H a with
  | none => rfl
  | some o => rw [m.at q hF] at h; cases h
def sp_L_begun (K : PySem.W.Frag) : Sp := fun vs H Q _ => ∃ (bx : Addr) (n : Nat), vs = [.ref bx, .int 30, .int 6] ∧ BoxAt H bx n ∧ n ≤ 1000 ∧ TabK K H ∧
  ∀ (p : Addr) (H' : Hp) (A : Ad) (S : ArrS) (R : Nat) (ws : List Int) (wl : Addr), (∀ a, a = A.arr ∨ a = A.dl ∨ a ∈ A.F ∨ a = wl → H a = none) → Mv K [bx, tabP K] H H' → WAt K H' A S R ws wl bx (n + 100) → S.sb.mv = none → S.ce.done.length ≤ 100 →
    SqT K H' p [.ref A.arr, .ref wl] → Q (.ref p) H'

theorem ok_L_begun (T : Tx K mg) (g_Array_init : IK P w K mg base "Array" ["self", "image"] 12 (sp_Array_init K)) (g_L_shape : GK P w K mg base "_law_shape" ["_law_box_here", "_law_least", "_law_most"] 3 (sp_L_shape K) []) (g_L_take : GK P w K mg base "_law_take" ["_law_box_here", "_law_many"] 1 (sp_L_take K) []) (g_L_worth : GK P w K mg base "_law_worth" ["_law_box_here"] 3 (sp_L_worth K) []) (g_made : GK P w K mg base "made" ["layout", "blocks", "rows", "disks"] 9 (sp_made K) []) (g_write : GK P w K mg base "write" ["array", "block", "value"] 7 (sp_write K) []) : GK P w K mg base "_law_begun" ["_law_box_here", "_law_most", "_law_disks"] 14 (sp_L_begun K) [] := gk_mk T.f_L_begun T.m_L_begun (by decide +kernel) sc_L_begun (fun _ _ _ _ _ _ us hl => match us, hl with | [_, _, _], _ => rfl) (fun _ _ _ _ h => by obtain ⟨_, _, rfl, _⟩ := h; rfl) fun cdv A outer s H vs Q E hr h => by
  have nd := sc_L_begun.nd
  refine ⟨_, (pss_cons (ps_set (i := 3) nd rfl (Or.inl rfl) (pe_op op_add pe_int (pe_gkK g_L_take hr (by decide) (pa_cons (pv 0) (pa_cons (pe_op op_sub (pv 1) pe_int) pa_nil)))))
  (pss_cons (ps_set (i := 4) nd rfl (Or.inl rfl) (pe_op op_add (pe_op op_fdiv (pe_op op_add (pv 3) pe_int) pe_int) (pe_gkK g_L_take hr (by decide) (pa_cons (pv 0) (pa_cons pe_int pa_nil)))))
  (pss_cons (ps_set (i := 5) nd rfl (Or.inl rfl) (pe_ikK g_Array_init hr (by decide) (pa_cons (pe_gkK g_made hr (by decide) (pa_cons (pe_gkK g_L_shape hr (by decide) (pa_cons (pv 0) (pa_cons pe_int (pa_cons (pv 2) pa_nil)))) (pa_cons (pv 3) (pa_cons (pv 4) (pa_cons (pv 2) pa_nil))))) pa_nil)))
  (pss_cons (ps_set (i := 6) nd rfl (Or.inl rfl) (pe_op op_rep (pe_lst (pa_cons pe_int pa_nil)) (pv 3)))
  (pss_cons (ps_wf (ps_for PassesOwn.never rfl (pi_range1 rfl T.b_range (pa_cons (pe_gkK g_L_take hr (by decide) (pa_cons (pv 0) (pa_cons pe_int pa_nil))) pa_nil)) (pg_name (i := 7) nd rfl (Or.inl rfl)) (pss_cons (ps_par (i := 8) (j := 9) (by rfl) nd rfl rfl (by decide) rfl rfl (pa_cons (pe_gkK g_L_take hr (by decide) (pa_cons (pv 0) (pa_cons (pv 3) pa_nil))) (pa_cons (pe_gkK g_L_worth hr (by decide) (pa_cons (pv 0) pa_nil)) pa_nil)) (by rfl))
  (pss_cons (ps_expr (pe_gkK g_write hr (by decide) (pa_cons (pv 5) (pa_cons (pv 8) (pa_cons (pv 9) pa_nil)))))
  (pss_one (ps_asg (pv 9) (pg_sub (pv 6) (pv 8) set_list)))))))
  (pss_one (ps_ret (pe_tup (pa_cons (pv 5) (pa_cons (pv 6) pa_nil)))))))))), ?_⟩
  obtain ⟨bx, n, rfl, hb, hn, tab, q⟩ := h
  walk_at "go"
  refine ⟨bx, n, _, rfl, hb, by decide, by decide, by omega, fun c H1 c0 c1 m1 hb1 => ?_⟩
  walk_at "go"
  refine ⟨bx, n + 1, _, rfl, hb1, by decide, by decide, by omega, fun e H2 e0 e1 m2 hb2 => ?_⟩
  walk_at "go"
  refine ⟨bx, n + 2, _, _, rfl, hb2, by decide, by decide, by omega, fun l v H3 l0 l1 m3 hb3 hv => ?_⟩
  have hl : l.ok := ⟨l0, l1⟩
  obtain ⟨R, hR⟩ : ∃ R : Nat, (R : Int) = (3 + c + 1) / 2 + e := ⟨((3 + c + 1) / 2 + e).toNat, by omega⟩
  walk_at "go"
  refine ⟨v, l, 3 + c, R, by rw [hR]; rfl, hv, hl, by omega, by omega, by omega, fun iv H4 e4 hiv => ?_⟩
  walk_at "go"
  intro x dx hx hdx hne
  have m04 : Mv K [bx] H H4 := (m1.trans (m2.trans m3)).trans (.of_same e4)
  have e5 : Same H4 (upd (upd H4 dx (.own x)) x (.ins (He.ga K "Array") dx [])) := (same_new hdx).trans (same_new (by rw [upd_ne (Ne.symm hne)]; exact hx))
  have hx5 : (upd (upd H4 dx (.own x)) x (.ins (He.ga K "Array") dx [])) x = some (.ins (He.ga K "Array") dx []) := upd_same
  generalize (upd (upd H4 dx (.own x)) x (.ins (He.ga K "Array") dx [])) = H5 at e5 hx5 ⊢
  have hb4 := (hb3.same e4).same e5
  have hbx5 : ∃ o, H5 bx = some o := by obtain ⟨_, _, _, h1, _⟩ := hb4; exact ⟨_, h1⟩
  obtain ⟨pt, htp, _⟩ := id tab
  have htb : tabP K ≠ bx := fun z => by obtain ⟨_, _, _, h1, _⟩ := hb; rw [z, h1] at htp; cases htp
  have m05 : Mv K [bx] H H5 := m04.trans (.of_same e5)
  have tab5 := tab.mv m05 (by simpa using htb)
  have xb : x ≠ bx := fun z => by obtain ⟨o, ho⟩ := hbx5; obtain ⟨_, _, _, h1, _⟩ := hb3.same e4; rw [z, h1] at hx; cases hx
  have hxH : H x = none := m04.free hx (by simpa using xb)
  refine ⟨x, dx, iv, l, 3 + c, R, rfl, hx5, hiv.same e5, hl, by omega, by omega, tab5, fun H6 A hA hfr m6 tab6 ha6 => ⟨rfl, ?_⟩⟩
  have free5 : ∀ a, a = A.dl ∨ a ∈ A.F → a ≠ bx ∧ a ≠ x ∧ H a = none := fun a ha => by
    have h5 := hfr a ha
    have n1 : a ≠ bx := fun z => by obtain ⟨o, ho⟩ := hbx5; rw [z, ho] at h5; cases h5
    exact ⟨n1, (fun z => by rw [z, hx5] at h5; cases h5), m05.free h5 (by simpa using n1)⟩
  have m06 : Mv K [bx, tabP K] H H6 := (m05.sub (by simp)).fresh m6 (fun a ha => by
    simp only [List.mem_cons, List.not_mem_nil, or_false] at ha
    rcases ha with z | z
    · exact .inr (z ▸ hxH)
    · exact .inl (by simp [z]))
  have xtab : x ≠ tabP K := fun z => by obtain ⟨p5, h5, _⟩ := tab5; rw [← z, hx5] at h5; cases h5
  have hb6 : BoxAt H6 bx (n + 4) := hb4.mv m6 (by simp only [List.mem_cons, List.not_mem_nil, or_false, not_or]; exact ⟨xb.symm, htb.symm⟩)
  walk_at "go"
  intro p0 hp0
  walk_at "go"
  refine ⟨p0, 3 + c, [.int 0], rfl, rfl, upd_same, by omega, by omega, ?_, fun wl hwl => ?_⟩
  · have h3 : (1000 : Nat) < sizeLine := by decide
    simp only [List.length_singleton]
    omega
  rw [flatten_one]
  have e7 : Same H6 (upd H6 p0 (.lst [.int 0])) := same_new hp0
  generalize (upd H6 p0 (.lst [.int 0])) = H7 at e7 hwl ⊢
  have e8 : Same H7 (upd H7 wl (.lst (List.replicate (3 + c).toNat (.int 0)))) := same_new hwl
  have hwl8 : (upd H7 wl (.lst (List.replicate (3 + c).toNat (.int 0)))) wl = some (.lst ((List.replicate (3 + c).toNat (0 : Int)).map V.int)) := by rw [upd_same, List.map_replicate]
  generalize (upd H7 wl (.lst (List.replicate (3 + c).toNat (.int 0)))) = H8 at e8 hwl8 ⊢
  have e68 : Same H6 H8 := e7.trans e8
  have hwl6 : H6 wl = none := e7.free hwl
  have nG6 : ∀ a o, H6 a = some o → wl ≠ a := fun a o h z => by rw [← z, hwl6] at h; cases h
  have ha8 := ha6.same e68
  obtain ⟨v6, hst6, _⟩ := ha6.sa.st
  have nF : wl ∉ A.F := fun m => by
    simp only [Ad.F, List.mem_cons] at m
    rcases m with z | z
    · exact nG6 _ _ hst6 z
    · obtain ⟨o, ho⟩ := G_some ha6.sa.ce (a := wl) (by simp only [Ad.G, List.mem_cons]; exact z)
      exact nG6 _ _ ho rfl
  have hbw : wl ≠ bx := by obtain ⟨_, _, _, h1, _⟩ := hb6; exact nG6 _ _ h1
  have hw0 : WAt K H8 A (startS l (3 + c) R) R (List.replicate (3 + c).toNat 0) wl bx (n + 4) :=
    ⟨ha8, start_wf hl (by omega) (by omega) (by omega) (by omega) (by omega), fun x hx => by rw [List.eq_of_mem_replicate hx]; decide, hwl8, hb6.same e68, tab6.same e68, nG6 _ _ ha6.sa.ce.ds.dl, hbw, nF, nG6 _ _ ha6.arr,
      fun z => (free5 _ (.inl z)).1 rfl, fun z => (free5 _ (.inr z)).1 rfl, by rw [hA]; exact xb.symm, fun z => by have := (free5 _ (.inr z)).2.2; rw [htp] at this; cases this⟩
  have m08 : Mv K [bx, tabP K] H H8 := m06.trans (.of_same e68)
  have wlH : H wl = none := m06.free hwl6 (by
    simp only [List.mem_cons, List.not_mem_nil, or_false, not_or]
    obtain ⟨p6, h6, _⟩ := tab6
    exact ⟨hbw, nG6 _ _ h6⟩)
  have hsl := start_len l (3 + c) R
  rw [← hA]
  walk_at "go"
  refine ⟨bx, n + 4, 7, rfl, hw0.box, by decide, by decide, by omega, fun k H9 k0 k1 mb9 hb9 => ?_⟩
  have hw9 := hw0.mvb mb9 hb9
  walk_at "go"
  refine forG (n := k.toNat) (fun i σ H' => ∃ S' ws' s7 s8 s9, σ = [some (.ref bx), some (.int 30), some (.int 6), some (.int (3 + c)), some (.int ((3 + c + 1) / 2 + e)), some (.ref A.arr), some (.ref wl), s7, s8, s9] ∧ WAt K H' A S' R ws' wl bx (n + 5 + 6 * i) ∧ Mv K (WF A wl bx) H9 H' ∧ S'.sb.mv = none ∧ ws'.length = (3 + c).toNat ∧ S'.ce.done.length ≤ 7 + 7 * i)
    ⟨startS l (3 + c) R, _, none, none, none, rfl, hw9, .refl, rfl, by simp, by omega⟩ (fun i σ H' hi _ => by show i < _; exact hi) (fun σ H' _ => by show _ ≤ _; exact Nat.le_refl _) ?_ ?_
  · rintro i σ H1' x2 H2' hi ⟨S', ws', s7, s8, s9, rfl, hw1, m1', hmv, hwl', hdl⟩ ⟨rfl, rfl⟩
    have hwb := hw1.wf.wl
    walk_at "go"
    refine ⟨bx, _, _, rfl, hw1.box, by omega, by omega, by omega, fun b H3' b0 b1 mb3 hb3' => ?_⟩
    have hw3 := hw1.mvb mb3 hb3'
    walk_at "go"
    refine ⟨bx, _, rfl, hw3.box, by omega, fun y H4' y0 y1 mb4 hb4' => ?_⟩
    have hw4 := hw3.mvb mb4 hb4'
    walk_at "go"
    refine ⟨A, S', b, y, R, rfl, hw4.arr, hw4.wf.g.ok, hw4.wf.ce, b0, by omega, hw4.wf.br, by omega, fun z lc H5' nn hlc m5 ha5 => ?_⟩
    have hwl5 := m5.at hw4.wla hw4.w3
    walk_at "go"
    refine ⟨_, _, _, b.toNat, rfl, rfl, hwl5, (by unfold ixN; rw [if_pos b0, if_pos (by rw [List.length_map]; omega)]), ?_⟩
    rw [set_ws]
    have hw6 := hw4.put m5 ha5 (write_wf hw4.wf b0 (by omega) hlc) (bd_set hw4.bd y0 y1)
    have hln := write_len S'.ce S'.sb b y z lc
    exact ⟨⟨S'.sb, writeCe S'.ce S'.sb b y z lc⟩, _, _, _, _, rfl, hw6.le (by omega), ((m1'.trans ((mb3.trans mb4).sub wf_b)).trans (m5.sub wf_F)).trans ((Mv.lst hwl5 (by simp)).sub wf_w), hmv, by rw [List.length_set]; exact hwl', by show (writeCe S'.ce S'.sb b y z lc).done.length ≤ _; omega⟩
  · rintro σ H' ⟨S', ws', s7, s8, s9, rfl, hw', m', hmv, hwl', hdl⟩
    walk_at "go"
    intro pt' hpt'
    have hww := (hw'.same (same_new (o := .tup [.ref A.arr, .ref wl]) hpt')).le (show n + 5 + 6 * k.toNat ≤ n + 100 by omega)
    refine q pt' _ A S' R ws' wl ?_ ?_ hww hmv (by omega) (SqT.new hpt')
    · rintro a (z | z | z | z)
      · rw [z, hA]; exact hxH
      · exact (free5 a (.inl z)).2.2
      · exact (free5 a (.inr z)).2.2
      · rw [z]; exact wlH
    · refine ((m08.trans (mb9.sub (by simp))).fresh m' fun a ha => ?_).trans (.of_same (same_new hpt'))
      simp only [WF, List.mem_cons] at ha
      rcases ha with z | z | z
      · exact .inl (by simp [z])
      · exact .inr (z ▸ wlH)
      · exact .inr (free5 a (.inr (by simpa only [Ad.F, List.mem_cons] using z))).2.2


end
end WS
set_option Elab.async false
set_option linter.all false
set_option maxRecDepth 100000
set_option maxHeartbeats 4000000
namespace WS
open PySem PySem.Spec PyProof.Rows L2
local macro_rules | `(tactic| walk_at "tdg") => `(tactic| first | (apply tdg0; walk_at "at") | (apply tdg1; walk_at "at") | (apply tdg2; walk_at "at") | (apply tdg3; walk_at "at") | (apply tdg4; walk_at "at") | (apply tdg5; walk_at "at") | (apply tdg6; walk_at "at") | (apply tdg7; walk_at "at") | (apply tdg8; walk_at "at"))
local macro_rules | `(tactic| walk_at "no") => `(tactic| first | assumption | (apply no_by; assumption; walk_at "sm"))
local macro_rules | `(tactic| walk_at "sm") => `(tactic| first | exact Same.refl _ | assumption | (apply same_up; walk_at "no"; walk_at "sm") | (apply same_by; assumption; walk_at "sm"))
local macro_rules | `(tactic| walk_at "tk") => `(tactic| first | exact TK.refl | assumption | (apply tk_up; walk_at "no"; walk_at "tk") | (apply tk_by; assumption; walk_at "tk") | (apply tk_mv; assumption; walk_at "tk"))
local macro_rules | `(tactic| walk_at "mv") => `(tactic| first | exact Mv.refl | assumption | (apply mv_up; walk_at "no"; walk_at "mv") | (apply mv_mv; assumption; walk_at "mv") | (apply mv_by; assumption; walk_at "mv"))
local macro_rules | `(tactic| walk_at "ne") => `(tactic| first | assumption | (refine Ne.symm ?_; assumption))
local macro_rules | `(tactic| walk_at "at") => `(tactic| first | assumption | exact upd_same | (apply at_new; walk_at "no"; walk_at "at") | (apply at_ne; walk_at "ne"; walk_at "at") | (apply at_same; assumption; walk_at "at") | (apply at_mv; assumption; assumption; walk_at "at"))
local macro_rules | `(tactic| walk_at "rp") => `(tactic| first | assumption | exact Rp.non | exact Rp.int _ | exact Rp.str _ | (apply rp_tk; assumption; walk_at "tk"))
local macro_rules | `(tactic| walk_at "sq") => `(tactic| first | assumption | exact (‹Tx _ _›).t_METAS _ | exact (‹Tx _ _›).t_FIELDS _ | exact (‹Tx _ _›).t_LEFT _ | exact (‹Tx _ _›).t_SYMMETRIC _ | (apply SqT.of; walk_at "at") | (apply SqL.of; walk_at "at") | (apply sqt_tk; assumption; walk_at "tk") | (apply sql_sm; assumption; walk_at "sm"))
local macro_rules | `(tactic| walk_at "sd") => `(tactic| first | rfl | omega | assumption | decide)
local macro_rules | `(tactic| walk_at "fld") => `(tactic| first | refine ⟨_, _, _, _, _, rfl, (by walk_at "at" : _ = some _), (‹Tx _ _›).c_Cells, (‹Tx _ _›).n_Cells_disks, rfl, ?_⟩ | refine ⟨_, _, _, _, _, rfl, (by walk_at "at" : _ = some _), (‹Tx _ _›).c_Cells, (‹Tx _ _›).n_Cells_done, rfl, ?_⟩ | refine ⟨_, _, _, _, _, rfl, (by walk_at "at" : _ = some _), (‹Tx _ _›).c_Cells, (‹Tx _ _›).n_Cells_begun, rfl, ?_⟩ | refine ⟨_, _, _, _, _, rfl, (by walk_at "at" : _ = some _), (‹Tx _ _›).c_Cells, (‹Tx _ _›).n_Cells_is_loose, rfl, ?_⟩ | refine ⟨_, _, _, _, _, rfl, (by walk_at "at" : _ = some _), (‹Tx _ _›).c_State, (‹Tx _ _›).n_State_cells, rfl, ?_⟩ | refine ⟨_, _, _, _, _, rfl, (by walk_at "at" : _ = some _), (‹Tx _ _›).c_State, (‹Tx _ _›).n_State_own_superblock, rfl, ?_⟩ | refine ⟨_, _, _, _, _, rfl, (by walk_at "at" : _ = some _), (‹Tx _ _›).c_Array, (‹Tx _ _›).n_Array_state, rfl, ?_⟩)
local macro_rules | `(tactic| walk_at "w") => `(tactic| first | refine ⟨_, rfl, ⟨_, (by walk_at "sq" : SqT _ _ _ _)⟩, ?_⟩ | refine ⟨_, rfl, ⟨_, (by walk_at "sq" : SqL _ _ _ _)⟩, ?_⟩ | refine ⟨_, rfl, ?_⟩ | refine ⟨_, _, rfl, rfl, ?_⟩ | refine ⟨rfl, ?_⟩ | refine ⟨_, _, rfl, (by walk_at "sq" : SqT _ _ _ _), rfl, ?_⟩ | refine ⟨_, _, rfl, (by walk_at "sq" : SqT _ _ _ _), ?_⟩ | refine ⟨_, _, rfl, (by walk_at "sq" : SqL _ _ _ _), ?_⟩ | refine ⟨_, _, rfl, (by walk_at "tdg" : DGet _ _ _ _), ?_⟩ | refine ⟨_, _, rfl, ?_⟩ | refine ⟨_, _, _, _, rfl, rfl, (by walk_at "sq" : SqT _ _ _ _), rfl, ?_⟩ | refine ⟨_, _, rfl, .inl (by walk_at "sq" : SqL _ _ _ _), rfl, rfl, ?_⟩ | refine ⟨_, _, rfl, .inr (by walk_at "sq" : SqT _ _ _ _), rfl, rfl, ?_⟩ | refine ⟨_, _, rfl, .inl (by walk_at "sq" : SqL _ _ _ _), ?_⟩ | refine ⟨_, _, rfl, .inr (by walk_at "sq" : SqT _ _ _ _), ?_⟩ | refine ⟨_, _, rfl, (by walk_at "at" : _ = some (HO.dK _)), ?_⟩ | refine ⟨_, _, _, _, rfl, rfl, (by walk_at "sq" : SqL _ _ _ _), rfl, ?_⟩ | refine ⟨_, _, _, rfl, (by walk_at "at" : _ = some _), rfl, ?_⟩ | refine ⟨_, _, _, rfl, ?_⟩ | walk_at "fld" | refine ty_d (by walk_at "at") ?_ | refine ty_l (by walk_at "sq") ?_ | refine ty_t (‹Tx _ _›).z_FIELDS ?_ | refine And.intro (by first | omega | decide | exact Nat.le_of_ble_eq_true rfl | (unfold CDiv; omega) | (unfold CMul; omega)) ?_)
local macro_rules | `(tactic| walk_at "go") => `(tactic| repeat walk_at "w")
section
variable {P : Program} {w : World} {K : PySem.W.Frag} {mg : Str → Option Value} {base : Heap}

def sp_L_same (K : PySem.W.Frag) : Sp := fun vs H Q _ => ∃ (a b : Addr) (ls : List (List Int)), vs = [.ref a, .ref b] ∧ NumsAt K H a ls ∧ NumsAt K H b ls ∧ ls.length ≤ 10 ∧ (∀ l ∈ ls, l.length ≤ 1000 ∧ ∀ x ∈ l, 0 ≤ x ∧ x < 2 ^ 32) ∧ Q (.bl true) H

theorem ok_L_same (T : Tx K mg)  : GG P w K mg base "_law_same" ["_law_found", "_law_due"] 1 (sp_L_same K) := gg_mk T.f_L_same T.m_L_same (by decide +kernel) sc_L_same (fun _ _ _ _ _ _ us hl => match us, hl with | [_, _], _ => rfl) (fun _ _ _ _ h => by obtain ⟨_, _, _, rfl, _⟩ := h; rfl) fun cdv A outer s H vs Q E hg hr h => by
  have nd := sc_L_same.nd
  refine ⟨_, (pss_one (ps_ret (pe_cmpR op_eq (pb_repr (K := K) T.b_repr hg hr (pa_cons (pv 0) pa_nil)) (pb_repr (K := K) T.b_repr hg hr (pa_cons (pv 1) pa_nil)) (nomark _)))), ?_⟩
  obtain ⟨a, b, ls, rfl, ha, hb, hl, hbd, q⟩ := h
  obtain ⟨h1, h2, h3, h4⟩ := nums_ok hl hbd
  walk_at "go"
  refine ⟨a, numsD ls, rfl, nums_dp ha, h1, h2, h3, h4, ?_⟩
  walk_at "go"
  refine ⟨b, numsD ls, rfl, nums_dp hb, h1, h2, h3, h4, rfl, ?_⟩
  rw [decide_eq_true rfl]
  exact q

/-! ### the entries of a trace, by place and contents -/
def En.pl : En → PyData
  | .data _ r _ => .int r
  | .meta_ _ m _ => .str m.s
  | _ => .none
def En.ct : En → PyData
  | .data _ _ x => .int x
  | .meta_ _ _ c => c
  | _ => .none
def isData : En → Bool
  | .data _ _ _ => true
  | _ => false
def isSb : En → Bool
  | .meta_ _ .sb _ => true
  | _ => false
def isAs : En → Bool
  | .meta_ _ .as _ => true
  | _ => false
theorem lc_en {H1 : Hp} {a : Addr} {es : List V} {E : List En} {g : TG} {tt : TT} {te : TE} {vs : List Nat} {σ : L2.St} {Q : VK} (p : En → Bool) (f : En → PyData) (ha : H1 a = some (.lst es)) (hE : RpL K H1 es (E.map En.d)) (hl : E.length ≤ 10000)
    (hs : ∀ x e H, Same H1 H → e ∈ E → Rp K H x e.d → ∀ (R : VK) (Z : Hp → Prop), (p e = true → ∀ y H4, Same H H4 → Rp K H4 y (f e) → R y H4) → (p e = false → Z H) → g x (wipe σ vs) H fun σ2 H2 => wipe σ2 vs = wipe σ vs ∧ tt σ2 H2 fun b H3 => if b = true then te σ2 H3 R else Z H3)
    (hd : ∀ q ys H, H1 q = none → H q = some (.lst ys) → Same H1 H → RpL K H ys ((E.filter p).map f) → Q (.ref q) H) : LcG (Itl K a) g tt te vs σ Q H1 := by
  have hel : es.length = E.length := by have := hE.length; rwa [List.length_map] at this
  refine lcK (n := es.length) (fun i => p (E.getD i .flush)) (fun i y H => Rp K H y (f (E.getD i .flush))) (by omega) (fun i y H H' nl h => nl.rp h) (fun i H' hi e => itl_go (SqL.of (e _ _ ha)) hi) (fun H' e => itl_stop (SqL.of (e _ _ ha))) ?_ ?_
  · intro i H' x H2 hi e hy R Z hR hZ
    obtain ⟨rfl, hx⟩ := itl_yld (SqL.of (e _ _ ha)) hy
    have hi2 : i < E.length := by omega
    have hget : E.getD i .flush = E[i] := by simp [List.getD, hi2]
    have hrx : Rp K H2 x E[i].d := (rp_get hE hx (by rw [List.getElem?_map, List.getElem?_eq_getElem hi2]; rfl)).same e
    rw [hget] at hR hZ
    exact hs x E[i] H2 e (List.getElem_mem hi2) hrx R Z hR fun h => hZ h _ (Same.refl _)
  · intro q ys H h0 h1 h2 h3
    refine hd q ys H h0 h1 h2 ?_
    have h4 := prp h3
    rw [hel, show (fun i => f (E.getD i .flush)) = f ∘ (fun i => E.getD i .flush) from rfl, ← List.map_map, filt_get p .flush E] at h4
    exact h4
theorem ty_int {H : Hp} (i : Int) : TyX K H (.int i) (.type "int") := .base (by first | exact .int i | exact .int | constructor)
theorem ty_str {H : Hp} (z : Str) : TyX K H (.str z) (.type "str") := .base (by first | exact .str z | exact .str | constructor)

end
end WS
set_option Elab.async false
set_option linter.all false
set_option maxRecDepth 100000
set_option maxHeartbeats 4000000
namespace WS
open PySem PySem.Spec PyProof.Rows L2
local macro_rules | `(tactic| walk_at "tdg") => `(tactic| first | (apply tdg0; walk_at "at") | (apply tdg1; walk_at "at") | (apply tdg2; walk_at "at") | (apply tdg3; walk_at "at") | (apply tdg4; walk_at "at") | (apply tdg5; walk_at "at") | (apply tdg6; walk_at "at") | (apply tdg7; walk_at "at") | (apply tdg8; walk_at "at"))
local macro_rules | `(tactic| walk_at "no") => `(tactic| first | assumption | (apply no_by; assumption; walk_at "sm"))
local macro_rules | `(tactic| walk_at "sm") => `(tactic| first | exact Same.refl _ | assumption | (apply same_up; walk_at "no"; walk_at "sm") | (apply same_by; assumption; walk_at "sm"))
local macro_rules | `(tactic| walk_at "tk") => `(tactic| first | exact TK.refl | assumption | (apply tk_up; walk_at "no"; walk_at "tk") | (apply tk_by; assumption; walk_at "tk") | (apply tk_mv; assumption; walk_at "tk"))
local macro_rules | `(tactic| walk_at "mv") => `(tactic| first | exact Mv.refl | assumption | (apply mv_up; walk_at "no"; walk_at "mv") | (apply mv_mv; assumption; walk_at "mv") | (apply mv_by; assumption; walk_at "mv"))
local macro_rules | `(tactic| walk_at "ne") => `(tactic| first | assumption | (refine Ne.symm ?_; assumption))
local macro_rules | `(tactic| walk_at "at") => `(tactic| first | assumption | exact upd_same | (apply at_new; walk_at "no"; walk_at "at") | (apply at_ne; walk_at "ne"; walk_at "at") | (apply at_same; assumption; walk_at "at") | (apply at_mv; assumption; assumption; walk_at "at"))
local macro_rules | `(tactic| walk_at "rp") => `(tactic| first | assumption | exact Rp.non | exact Rp.int _ | exact Rp.str _ | (apply rp_tk; assumption; walk_at "tk"))
local macro_rules | `(tactic| walk_at "sq") => `(tactic| first | assumption | exact (‹Tx _ _›).t_METAS _ | exact (‹Tx _ _›).t_FIELDS _ | exact (‹Tx _ _›).t_LEFT _ | exact (‹Tx _ _›).t_SYMMETRIC _ | (apply SqT.of; walk_at "at") | (apply SqL.of; walk_at "at") | (apply sqt_tk; assumption; walk_at "tk") | (apply sql_sm; assumption; walk_at "sm"))
local macro_rules | `(tactic| walk_at "sd") => `(tactic| first | rfl | omega | assumption | decide)
local macro_rules | `(tactic| walk_at "fld") => `(tactic| first | refine ⟨_, _, _, _, _, rfl, (by walk_at "at" : _ = some _), (‹Tx _ _›).c_Cells, (‹Tx _ _›).n_Cells_disks, rfl, ?_⟩ | refine ⟨_, _, _, _, _, rfl, (by walk_at "at" : _ = some _), (‹Tx _ _›).c_Cells, (‹Tx _ _›).n_Cells_done, rfl, ?_⟩ | refine ⟨_, _, _, _, _, rfl, (by walk_at "at" : _ = some _), (‹Tx _ _›).c_Cells, (‹Tx _ _›).n_Cells_begun, rfl, ?_⟩ | refine ⟨_, _, _, _, _, rfl, (by walk_at "at" : _ = some _), (‹Tx _ _›).c_Cells, (‹Tx _ _›).n_Cells_is_loose, rfl, ?_⟩ | refine ⟨_, _, _, _, _, rfl, (by walk_at "at" : _ = some _), (‹Tx _ _›).c_State, (‹Tx _ _›).n_State_cells, rfl, ?_⟩ | refine ⟨_, _, _, _, _, rfl, (by walk_at "at" : _ = some _), (‹Tx _ _›).c_State, (‹Tx _ _›).n_State_own_superblock, rfl, ?_⟩ | refine ⟨_, _, _, _, _, rfl, (by walk_at "at" : _ = some _), (‹Tx _ _›).c_Array, (‹Tx _ _›).n_Array_state, rfl, ?_⟩)
local macro_rules | `(tactic| walk_at "w") => `(tactic| first | refine ⟨_, rfl, ⟨_, (by walk_at "sq" : SqT _ _ _ _)⟩, ?_⟩ | refine ⟨_, rfl, ⟨_, (by walk_at "sq" : SqL _ _ _ _)⟩, ?_⟩ | refine ⟨_, rfl, ?_⟩ | refine ⟨_, _, rfl, rfl, ?_⟩ | refine ⟨rfl, ?_⟩ | refine ⟨_, _, rfl, (by walk_at "sq" : SqT _ _ _ _), rfl, ?_⟩ | refine ⟨_, _, rfl, (by walk_at "sq" : SqT _ _ _ _), ?_⟩ | refine ⟨_, _, rfl, (by walk_at "sq" : SqL _ _ _ _), ?_⟩ | refine ⟨_, _, rfl, (by walk_at "tdg" : DGet _ _ _ _), ?_⟩ | refine ⟨_, _, rfl, ?_⟩ | refine ⟨_, _, _, _, rfl, rfl, (by walk_at "sq" : SqT _ _ _ _), rfl, ?_⟩ | refine ⟨_, _, rfl, .inl (by walk_at "sq" : SqL _ _ _ _), rfl, rfl, ?_⟩ | refine ⟨_, _, rfl, .inr (by walk_at "sq" : SqT _ _ _ _), rfl, rfl, ?_⟩ | refine ⟨_, _, rfl, .inl (by walk_at "sq" : SqL _ _ _ _), ?_⟩ | refine ⟨_, _, rfl, .inr (by walk_at "sq" : SqT _ _ _ _), ?_⟩ | refine ⟨_, _, rfl, (by walk_at "at" : _ = some (HO.dK _)), ?_⟩ | refine ⟨_, _, _, _, rfl, rfl, (by walk_at "sq" : SqL _ _ _ _), rfl, ?_⟩ | refine ⟨_, _, _, rfl, (by walk_at "at" : _ = some _), rfl, ?_⟩ | refine ⟨_, _, _, rfl, ?_⟩ | walk_at "fld" | refine ty_d (by walk_at "at") ?_ | refine ty_l (by walk_at "sq") ?_ | refine ty_t (‹Tx _ _›).z_FIELDS ?_ | refine And.intro (by first | omega | decide | exact Nat.le_of_ble_eq_true rfl | (unfold CDiv; omega) | (unfold CMul; omega)) ?_)
local macro_rules | `(tactic| walk_at "go") => `(tactic| repeat walk_at "w")
section
variable {P : Program} {w : World} {K : PySem.W.Frag} {mg : Str → Option Value} {base : Heap}

def sp_L_plain_right (K : PySem.W.Frag) : Sp := fun vs H Q _ => ∃ (A : Ad) (S : ArrS) (R : Nat) (ws : List Int) (wl bx : Addr) (n : Nat) (v : V) (s : SB) (n0 : Nat), vs = [.ref bx, .ref A.arr, .int n0, v, .ref wl] ∧ WAt K H A S R ws wl bx n ∧ Rp K H v s.d ∧ n0 ≤ S.ce.done.length ∧
  PlainR s S R ws n0 ((S.ce.done.drop n0).filter isData).length ∧ (∀ k r x, En.data k r x ∈ S.ce.done.drop n0 → (r : Int) ∉ usedB s s.blocks.toNat) ∧ n ≤ 100000 ∧ S.ce.done.length ≤ 900 ∧ ∀ H', Mv K [bx] H H' → BoxAt H' bx (n + 1100) → Q (.bl true) H'

theorem ok_L_plain_right (T : Tx K mg) (g_Array_cut : MK P w K mg base "Array" "cut" ["self", "after", "kept"] 10 (sp_Array_cut K)) (g_Array_image : MK P w K mg base "Array" "image" ["self"] 3 (sp_Array_image K)) (g_Array_superblock : MK P w K mg base "Array" "superblock" ["self"] 1 (sp_Array_superblock K)) (g_Array_trace : MK P w K mg base "Array" "trace" ["self"] 2 (sp_Array_trace K)) (g_L_kept : GK P w K mg base "_law_kept" ["_law_box_here", "_law_loose"] 3 (sp_L_kept K) []) (g_L_same : GG P w K mg base "_law_same" ["_law_found", "_law_due"] 1 (sp_L_same K)) (g_L_take : GK P w K mg base "_law_take" ["_law_box_here", "_law_many"] 1 (sp_L_take K) []) (g_L_told : GK P w K mg base "_law_told" ["_law_film", "_law_head"] 3 (sp_L_told K) []) (g_L_used : GK P w K mg base "_law_used" ["_law_head"] 2 (sp_L_used K) []) (g_loose_at : GK P w K mg base "loose_at" ["trace", "after"] 1 (sp_loose_at K) []) : GG P w K mg base "_law_plain_right" ["_law_box_here", "_law_host", "_law_begin", "_law_head", "_law_worths"] 11 (sp_L_plain_right K) := gg_mk T.f_L_plain_right T.m_L_plain_right (by decide +kernel) sc_L_plain_right (fun _ _ _ _ _ _ us hl => match us, hl with | [_, _, _, _, _], _ => rfl) (fun _ _ _ _ h => by obtain ⟨_, _, _, _, _, _, _, _, _, _, rfl, _⟩ := h; rfl) fun cdv A outer s H vs Q E hg hr h => by
  have nd := sc_L_plain_right.nd
  refine ⟨_, (pss_cons (ps_asg (pe_tup (pa_cons (pe_slice (sl_listK K) (pe_mk0K g_Array_trace hr (by decide) (pv 1)) (po_some (pv 2)) po_none) (pa_cons (pe_gkK g_L_used hr (by decide) (pa_cons (pv 3) pa_nil)) pa_nil))) (pg_tupK K 2 rfl (pgs_cons (pg_name (i := 5) nd rfl (Or.inl rfl)) (pgs_cons (pg_name (i := 6) nd rfl (Or.inr rfl)) pgs_nil))))
  (pss_cons (ps_w (ps_setLc (i := 7) (own := [("_law_entry", 11)]) (g := gName 11) (tt := _) rfl nd rfl rfl (sw_true rfl rfl rfl (by decide +kernel)) (pi_listK K (pv 5)) (blkOk_by (N := ["_law_box_here", "_law_host", "_law_begin", "_law_head", "_law_worths", "_law_entries", "_law_users", "_law_data", "_law_after", "_law_film", "_law_anew", "_law_entry"]) (sc := defScope s_L_plain_right) (by decide +kernel)) (fun _ _ _ _ _ => (pg_name (i := 11) nd rfl (Or.inl rfl))) (fun _ _ _ _ _ => (pts_one (PW.pt (pw_and (pt_cmpR op_eq (pe_ix (ix_tupK K) (pv 11) pe_int (fun _ _ => rfl)) pe_str (nomark _)) (pw_and1 (pt_val (pb_isiK K T.b_isinstance (pa_cons (pe_ix (ix_tupK K) (pv 11) pe_int (fun _ _ => rfl)) (pa_cons (pe_bt_int T.b_int) pa_nil))))))))) (fun _ _ _ _ _ => (pv 11))))
  (pss_cons (ps_if (pt_val (pb_any T.b_any (pa_cons (pe_w (pe_lc (own := [("_law_entry", 11)]) (g := gName 11) (tt := tYes) rfl nd (pi_listK K (pv 7)) (blkOk_by (N := ["_law_box_here", "_law_host", "_law_begin", "_law_head", "_law_worths", "_law_entries", "_law_users", "_law_data", "_law_after", "_law_film", "_law_anew", "_law_entry"]) (sc := defScope s_L_plain_right) (by decide +kernel)) (fun _ _ _ _ _ => (pg_name (i := 11) nd rfl (Or.inl rfl))) (fun _ _ _ _ _ => pts_nil) (fun _ _ _ _ _ => (pe_cmp (pc_din (hu_of hr) (pe_ix (ix_tupK K) (pv 11) pe_int (fun _ _ => rfl)) (pv 6)))))) pa_nil))) (pss_one (ps_ret pe_bl)) pss_nil)
  (pss_cons (ps_set (i := 8) nd rfl (Or.inl rfl) (pe_op op_add (pv 2) (pe_gkK g_L_take hr (by decide) (pa_cons (pv 0) (pa_cons (pe_op op_add (pb_lenK K T.b_len (pa_cons (pv 7) pa_nil)) pe_int) pa_nil)))))
  (pss_cons (ps_set (i := 9) nd rfl (Or.inl rfl) (pe_mkK g_Array_cut hr (by decide) (pv 1) (pa_cons (pv 8) (pa_cons (pe_gkK g_L_kept hr (by decide) (pa_cons (pv 0) (pa_cons (pe_gkK g_loose_at hr (by decide) (pa_cons (pe_mk0K g_Array_trace hr (by decide) (pv 1)) (pa_cons (pv 8) pa_nil))) pa_nil))) pa_nil))))
  (pss_cons (ps_set (i := 10) nd rfl (Or.inl rfl) (pe_lst (pa_cons (pe_gkK g_L_told hr (by decide) (pa_cons (pv 9) (pa_cons (pv 3) pa_nil))) (pa_cons (pe_gkK g_L_told hr (by decide) (pa_cons (pe_mk0K g_Array_image hr (by decide) (pv 1)) (pa_cons (pe_mk0K g_Array_superblock hr (by decide) (pv 1)) pa_nil))) (pa_cons (pe_gkK g_L_told hr (by decide) (pa_cons (pe_mk0K g_Array_image hr (by decide) (pv 1)) (pa_cons (pv 3) pa_nil))) pa_nil)))))
  (pss_one (ps_ret (pe_ggK g_L_same hg hr (by decide) (pa_cons (pv 10) (pa_cons (pe_op op_rep (pe_lst (pa_cons (pv 4) pa_nil)) pe_int) pa_nil))))))))))), ?_⟩
  obtain ⟨A, S, R, ws, wl, bx, n, v, s, n0, rfl, hw, hv, hn0, hP, hU, hn, hdl, q⟩ := h
  have hH := hw.arr.arr
  walk_at "go"
  refine ⟨A, S, rfl, hw.arr, fun p H1 es hp e1 hp1 hes => ?_⟩
  walk_at "go"
  intro q1 hq1
  have hesl : es.length = S.ce.done.length := by have := hes.length; rwa [List.length_map] at this
  have hE1 : RpL K (upd H1 q1 (.lst (cutV es (some (n0 : Int)) none))) (es.drop n0) ((S.ce.done.drop n0).map En.d) := by
    rw [List.map_drop]
    exact (hes.drop n0).same (same_new hq1)
  have hq2 : (upd H1 q1 (.lst (cutV es (some (n0 : Int)) none))) q1 = some (.lst (es.drop n0)) := by rw [upd_same, cut_from]
  have e2 : Same H (upd H1 q1 (.lst (cutV es (some (n0 : Int)) none))) := e1.trans (same_new hq1)
  generalize (upd H1 q1 (.lst (cutV es (some (n0 : Int)) none))) = H2 at hE1 hq2 e2 ⊢
  walk_at "go"
  refine ⟨v, s, rfl, hv.same e2, hP.ok, fun u H3 kvs hu e3 hu3 hkv => ?_⟩
  walk_at "go"
  intro t ht
  refine ⟨_, _, rfl, SqT.new ht, rfl, ?_⟩
  walk_at "go"
  have e4 : Same H2 (upd H3 t (.tup [.ref q1, .ref u])) := e3.trans (same_new ht)
  have hu4 : (upd H3 t (.tup [.ref q1, .ref u])) u = some (.dK kvs) := same_new ht _ _ hu3
  generalize (upd H3 t (.tup [.ref q1, .ref u])) = H4 at e4 hu4 ⊢
  have hq4 := e4 _ _ hq2
  have hE4 := hE1.same e4
  walk_at "go"
  refine lc_en isData En.d hq4 hE4 (by rw [List.length_drop]; omega) ?_ ?_
  · intro x e H5 e5 he hrx R2 Z hR hZ
    refine ⟨rfl, ?_⟩
    cases e with
    | flush =>
      obtain ⟨b, x0, rfl, hs, r0⟩ := rp1 hrx
      cases r0
      walk_at "go"
      exact hZ rfl
    | bg b y =>
      obtain ⟨b, x0, x1, x2, rfl, hs, r0, _⟩ := rp3 hrx
      cases r0
      walk_at "go"
      exact hZ rfl
    | dn b =>
      obtain ⟨b, x0, x1, rfl, hs, r0, _⟩ := rp2 hrx
      cases r0
      walk_at "go"
      exact hZ rfl
    | data k r y =>
      obtain ⟨b, x0, x1, x2, x3, rfl, hs, r0, r1, r2, r3⟩ := rp4 hrx
      cases r0
      cases r2
      walk_at "go"
      refine ⟨_, _, .type "int", .type "int", true, rfl, .ty _, ty_int _, kit_ty (by decide +kernel), ?_⟩
      walk_at "go"
      exact hR rfl _ _ (Same.refl _) hrx
    | meta_ k m c =>
      obtain ⟨b, x0, x1, x2, x3, rfl, hs, r0, r1, r2, r3⟩ := rp4 hrx
      cases r0
      cases r2
      walk_at "go"
      refine ⟨_, _, .type "str", .type "int", false, rfl, .ty _, ty_str _, kit_ty (by decide +kernel), ?_⟩
      walk_at "go"
      exact hZ rfl
  intro d0 ys H5 hd0 hd5 e5 hys
  walk_at "go"
  have hysl : ys.length = ((S.ce.done.drop n0).filter isData).length := by have := hys.length; rwa [List.length_map] at this
  have hmD : ((S.ce.done.drop n0).filter isData).length ≤ S.ce.done.length - n0 := by rw [← List.length_drop]; exact List.length_filter_le _ _
  refine lcA (n := ys.length) (fun i y _ => y = .bl false) (by omega) (fun _ _ _ _ _ h => h) (fun i H' hi e => itl_go (SqL.of (e _ _ hd5)) hi) (fun H' e => itl_stop (SqL.of (e _ _ hd5))) ?_ ?_
  · intro i H' x H6 hi e hy R2 hR2
    obtain ⟨rfl, hx⟩ := itl_yld (SqL.of (e _ _ hd5)) hy
    have hi2 : i < ((S.ce.done.drop n0).filter isData).length := by omega
    have hmem := List.getElem_mem hi2
    have hrx : Rp K H6 x (((S.ce.done.drop n0).filter isData)[i]).d := (rp_get hys hx (by rw [List.getElem?_map, List.getElem?_eq_getElem hi2]; rfl)).same e
    generalize ((S.ce.done.drop n0).filter isData)[i] = en at hmem hrx
    obtain ⟨hm1, hm2⟩ := List.mem_filter.mp hmem
    cases en with
    | data k r y =>
      obtain ⟨b, x0, x1, x2, x3, rfl, hs, r0, r1, r2, r3⟩ := rp4 hrx
      cases r0
      cases r2
      have hno : valV kvs (.inl (r : Int)) = none := by
        cases hq : valV kvs (.inl (r : Int)) with
        | none => rfl
        | some z => exact absurd ((hkv r).mp (by rw [hq]; rfl)) (hU _ _ _ hm1)
      have hu6 := e _ _ (e5 _ _ hu4)
      refine ⟨rfl, ?_⟩
      walk_at "go"
      refine ⟨_, _, rfl, .inl ⟨kvs, .inl (r : Int), .inl hu6, rfl, rfl⟩, ?_⟩
      rw [hno]
      exact hR2 _ _ (Same.refl _) rfl
    | _ => cases hm2
  intro g0 zs H6 hg0 hg6 e6 hzs
  have hzs2 : zs = (List.replicate ys.length false).map V.bl := by
    rw [peq (f := fun _ => V.bl false) hzs, List.map_replicate]
    exact List.ext_getElem (by simp) fun i h1 h2 => by simp
  rw [hzs2] at hg6
  walk_at "go"
  rw [show (List.replicate ys.length false).any id = false from by simp]
  walk_at "go"
  have e06 : Same H H6 := (e2.trans (e4.trans e5)).trans e6
  have hw6 := hw.same e06
  have hH6 := e06 _ _ hH
  have hd6 := e6 _ _ hd5
  have hv6 := hv.same e06
  refine ⟨bx, n, _, rfl, hw6.box, by omega, by omega, by omega, fun r H7 hr0 hr1 m7 hb7 => ?_⟩
  have hw7 := hw6.mvb m7 hb7
  have hH7 := hw7.arr.arr
  have hv7 := hv6.mv m7
  obtain ⟨j, rfl⟩ : ∃ j : Nat, r = (j : Int) := ⟨r.toNat, by omega⟩
  walk_at "go"
  refine ⟨A, S, rfl, hw7.arr, fun p8 H8 es8 hp8 e8 hp88 hes8 => ?_⟩
  have hw8 := hw7.same e8
  walk_at "go"
  refine ⟨p8, es8, S.ce.done, n0 + j, rfl, hp88, hes8, by omega, by omega, fun lp H9 hlp e9 hlp9 => ?_⟩
  have hw9 := hw8.same e9
  have hlb : lp ≠ bx := fun z => by obtain ⟨_, _, _, h1, _⟩ := hw8.box; rw [z, h1] at hlp; cases hlp
  walk_at "go"
  refine ⟨bx, lp, n + 1, looseAt (S.ce.done.take (n0 + j)), rfl, hw9.box, hlp9, hlb, ?_, by omega, fun ks kp H10 hkp m10 hb10 hks => ?_⟩
  · have := looseAt_len (S.ce.done.take (n0 + j))
    rw [List.length_take] at this
    omega
  have hw10 := hw9.mvb m10 hb10
  walk_at "go"
  refine ⟨A, S, R, n0 + j, kp, ks, rfl, hw10.arr, hw10.wf.ce, by omega, by omega, hks, fun fv H11 e11 hfv => ?_⟩
  have hw11 := hw10.same e11
  have hv11 := (((hv7.same e8).same e9).mv m10).same e11
  obtain ⟨c1, c2, c3⟩ := hP.cut j (by omega) ks
  walk_at "go"
  refine ⟨fv, v, film S.ce.begun S.ce.done (n0 + j) ks, s, R, rfl, hfv, hv11, hP.ok, c2, c3, hP.sr, fun t1 H12 ht1 e12 ht12 => ?_⟩
  rw [c1] at ht12
  have hw12 := hw11.same e12
  have hH12 := hw12.arr.arr
  walk_at "go"
  refine ⟨A, S, R, rfl, hw12.arr, hw12.wf.ce, fun iv H13 e13 hiv => ?_⟩
  have hw13 := hw12.same e13
  have hH13 := hw13.arr.arr
  walk_at "go"
  refine ⟨A, S, rfl, hw13.arr, fun sv hsv => ?_⟩
  walk_at "go"
  refine ⟨iv, sv, S.ce.disks, S.sb, R, rfl, hiv, hsv, hw.wf.g.ok, hw.wf.ce.nd, hw.wf.ce.od, hw.wf.br, fun t2 H14 ht2 e14 ht24 => ?_⟩
  rw [hP.now] at ht24
  have hw14 := hw13.same e14
  have hH14 := hw14.arr.arr
  walk_at "go"
  refine ⟨A, S, R, rfl, hw14.arr, hw14.wf.ce, fun iw H15 e15 hiw => ?_⟩
  have hw15 := hw14.same e15
  have hv15 := hv11.same (e12.trans (e13.trans (e14.trans e15)))
  walk_at "go"
  refine ⟨iw, v, S.ce.disks, s, R, rfl, hiw, hv15, hP.ok, hw.wf.ce.nd, hw.wf.ce.od, hP.sr, fun t3 H16 ht3 e16 ht36 => ?_⟩
  rw [hP.old] at ht36
  have hw16 := hw15.same e16
  have hb1 : H16 t1 = some (.lst (ws.map V.int)) := (e13.trans (e14.trans (e15.trans e16))) _ _ ht12
  have hb2 : H16 t2 = some (.lst (ws.map V.int)) := (e15.trans e16) _ _ ht24
  walk_at "go"
  intro an han
  have e17 : Same H16 (upd H16 an (.lst [.ref t1, .ref t2, .ref t3])) := same_new han
  have han17 : (upd H16 an (.lst [.ref t1, .ref t2, .ref t3])) an = some (.lst ([t1, t2, t3].map V.ref)) := upd_same
  generalize (upd H16 an (.lst [.ref t1, .ref t2, .ref t3])) = H17 at e17 han17 ⊢
  walk_at "go"
  intro wp hwp
  have e18 : Same H17 (upd H17 wp (.lst [.ref wl])) := same_new hwp
  have hwp18 : (upd H17 wp (.lst [.ref wl])) wp = some (.lst [.ref wl]) := upd_same
  generalize (upd H17 wp (.lst [.ref wl])) = H18 at e18 hwp18 ⊢
  walk_at "go"
  refine ⟨wp, 3, [.ref wl], rfl, rfl, hwp18, by decide, by decide, Nat.le_of_ble_eq_true rfl, fun dp hdp => ?_⟩
  have e19 : Same H18 (upd H18 dp (.lst (List.replicate (3 : Int).toNat [V.ref wl]).flatten)) := same_new hdp
  have hdp19 : (upd H18 dp (.lst (List.replicate (3 : Int).toNat [V.ref wl]).flatten)) dp = some (.lst ([wl, wl, wl].map V.ref)) := upd_same
  generalize (upd H18 dp (.lst (List.replicate (3 : Int).toNat [V.ref wl]).flatten)) = H19 at e19 hdp19 ⊢
  have e1619 : Same H16 H19 := e17.trans (e18.trans e19)
  have hw19 := hw16.same e1619
  obtain ⟨wl3, wl30, wlb⟩ := len_ws hw.wf
  walk_at "go"
  refine ⟨an, dp, [ws, ws, ws], rfl, ⟨[t1, t2, t3], (e18.trans e19) _ _ han17, .cons (e1619 _ _ hb1) (.cons (e1619 _ _ hb2) (.cons (e1619 _ _ ht36) .nil))⟩, ⟨[wl, wl, wl], hdp19, .cons hw19.wla (.cons hw19.wla (.cons hw19.wla .nil))⟩, Nat.le_of_ble_eq_true rfl, fun l hl => ?_, ?_⟩
  · simp only [List.mem_cons, List.not_mem_nil, or_false, or_self] at hl
    subst hl
    exact ⟨by omega, hw.bd⟩
  · exact q _ ((Mv.of_same e06).trans (m7.trans ((Mv.of_same (e8.trans e9)).trans (m10.trans (.of_same (e11.trans (e12.trans (e13.trans (e14.trans (e15.trans (e16.trans e1619))))))))))) (hw19.box.le (by omega))


end
end WS
set_option Elab.async false
set_option linter.all false
set_option maxRecDepth 100000
set_option maxHeartbeats 4000000
namespace WS
open PySem PySem.Spec PyProof.Rows L2
local macro_rules | `(tactic| walk_at "tdg") => `(tactic| first | (apply tdg0; walk_at "at") | (apply tdg1; walk_at "at") | (apply tdg2; walk_at "at") | (apply tdg3; walk_at "at") | (apply tdg4; walk_at "at") | (apply tdg5; walk_at "at") | (apply tdg6; walk_at "at") | (apply tdg7; walk_at "at") | (apply tdg8; walk_at "at"))
local macro_rules | `(tactic| walk_at "no") => `(tactic| first | assumption | (apply no_by; assumption; walk_at "sm"))
local macro_rules | `(tactic| walk_at "sm") => `(tactic| first | exact Same.refl _ | assumption | (apply same_up; walk_at "no"; walk_at "sm") | (apply same_by; assumption; walk_at "sm"))
local macro_rules | `(tactic| walk_at "tk") => `(tactic| first | exact TK.refl | assumption | (apply tk_up; walk_at "no"; walk_at "tk") | (apply tk_by; assumption; walk_at "tk") | (apply tk_mv; assumption; walk_at "tk"))
local macro_rules | `(tactic| walk_at "mv") => `(tactic| first | exact Mv.refl | assumption | (apply mv_up; walk_at "no"; walk_at "mv") | (apply mv_mv; assumption; walk_at "mv") | (apply mv_by; assumption; walk_at "mv"))
local macro_rules | `(tactic| walk_at "ne") => `(tactic| first | assumption | (refine Ne.symm ?_; assumption))
local macro_rules | `(tactic| walk_at "at") => `(tactic| first | assumption | exact upd_same | (apply at_new; walk_at "no"; walk_at "at") | (apply at_ne; walk_at "ne"; walk_at "at") | (apply at_same; assumption; walk_at "at") | (apply at_mv; assumption; assumption; walk_at "at"))
local macro_rules | `(tactic| walk_at "rp") => `(tactic| first | assumption | exact Rp.non | exact Rp.int _ | exact Rp.str _ | (apply rp_tk; assumption; walk_at "tk"))
local macro_rules | `(tactic| walk_at "sq") => `(tactic| first | assumption | exact (‹Tx _ _›).t_METAS _ | exact (‹Tx _ _›).t_FIELDS _ | exact (‹Tx _ _›).t_LEFT _ | exact (‹Tx _ _›).t_SYMMETRIC _ | (apply SqT.of; walk_at "at") | (apply SqL.of; walk_at "at") | (apply sqt_tk; assumption; walk_at "tk") | (apply sql_sm; assumption; walk_at "sm"))
local macro_rules | `(tactic| walk_at "sd") => `(tactic| first | rfl | omega | assumption | decide)
local macro_rules | `(tactic| walk_at "fld") => `(tactic| first | refine ⟨_, _, _, _, _, rfl, (by walk_at "at" : _ = some _), (‹Tx _ _›).c_Cells, (‹Tx _ _›).n_Cells_disks, rfl, ?_⟩ | refine ⟨_, _, _, _, _, rfl, (by walk_at "at" : _ = some _), (‹Tx _ _›).c_Cells, (‹Tx _ _›).n_Cells_done, rfl, ?_⟩ | refine ⟨_, _, _, _, _, rfl, (by walk_at "at" : _ = some _), (‹Tx _ _›).c_Cells, (‹Tx _ _›).n_Cells_begun, rfl, ?_⟩ | refine ⟨_, _, _, _, _, rfl, (by walk_at "at" : _ = some _), (‹Tx _ _›).c_Cells, (‹Tx _ _›).n_Cells_is_loose, rfl, ?_⟩ | refine ⟨_, _, _, _, _, rfl, (by walk_at "at" : _ = some _), (‹Tx _ _›).c_State, (‹Tx _ _›).n_State_cells, rfl, ?_⟩ | refine ⟨_, _, _, _, _, rfl, (by walk_at "at" : _ = some _), (‹Tx _ _›).c_State, (‹Tx _ _›).n_State_own_superblock, rfl, ?_⟩ | refine ⟨_, _, _, _, _, rfl, (by walk_at "at" : _ = some _), (‹Tx _ _›).c_Array, (‹Tx _ _›).n_Array_state, rfl, ?_⟩)
local macro_rules | `(tactic| walk_at "w") => `(tactic| first | refine ⟨_, rfl, ⟨_, (by walk_at "sq" : SqT _ _ _ _)⟩, ?_⟩ | refine ⟨_, rfl, ⟨_, (by walk_at "sq" : SqL _ _ _ _)⟩, ?_⟩ | refine ⟨_, rfl, ?_⟩ | refine ⟨_, _, rfl, rfl, ?_⟩ | refine ⟨rfl, ?_⟩ | refine ⟨_, _, rfl, (by walk_at "sq" : SqT _ _ _ _), rfl, ?_⟩ | refine ⟨_, _, rfl, (by walk_at "sq" : SqT _ _ _ _), ?_⟩ | refine ⟨_, _, rfl, (by walk_at "sq" : SqL _ _ _ _), ?_⟩ | refine ⟨_, _, rfl, (by walk_at "tdg" : DGet _ _ _ _), ?_⟩ | refine ⟨_, _, rfl, ?_⟩ | refine ⟨_, _, _, _, rfl, rfl, (by walk_at "sq" : SqT _ _ _ _), rfl, ?_⟩ | refine ⟨_, _, rfl, .inl (by walk_at "sq" : SqL _ _ _ _), rfl, rfl, ?_⟩ | refine ⟨_, _, rfl, .inr (by walk_at "sq" : SqT _ _ _ _), rfl, rfl, ?_⟩ | refine ⟨_, _, rfl, .inl (by walk_at "sq" : SqL _ _ _ _), ?_⟩ | refine ⟨_, _, rfl, .inr (by walk_at "sq" : SqT _ _ _ _), ?_⟩ | refine ⟨_, _, rfl, (by walk_at "at" : _ = some (HO.dK _)), ?_⟩ | refine ⟨_, _, _, _, rfl, rfl, (by walk_at "sq" : SqL _ _ _ _), rfl, ?_⟩ | refine ⟨_, _, _, rfl, (by walk_at "at" : _ = some _), rfl, ?_⟩ | refine ⟨_, _, _, rfl, ?_⟩ | walk_at "fld" | refine ty_d (by walk_at "at") ?_ | refine ty_l (by walk_at "sq") ?_ | refine ty_t (‹Tx _ _›).z_FIELDS ?_ | refine And.intro (by first | omega | decide | exact Nat.le_of_ble_eq_true rfl | (unfold CDiv; omega) | (unfold CMul; omega)) ?_)
local macro_rules | `(tactic| walk_at "go") => `(tactic| repeat walk_at "w")
section
variable {P : Program} {w : World} {K : PySem.W.Frag} {mg : Str → Option Value} {base : Heap}

def rowW (s : SB) (r : Int) (t : Lay) (ws : List Int) : List Int := (List.range (t.n - 1).toNat).map fun j => if r * (t.n - 1) + (j : Nat) < s.blocks then ws.getD (r * (t.n - 1) + (j : Nat)).toNat 0 else 0
def f6 (e : En) : PyData := match e.ct with
  | .tuple l => l.getD 6 .none
  | _ => .none
structure AsideR (s : SB) (r : Int) (t : Lay) (ws : List Int) (E : List En) : Prop where
  as_ : (E.filter isAs).map En.ct = List.replicate 6 (asideC s r (rowW s r t ws))
  sb : ∀ e ∈ E, isSb e = true → ∃ k s', e = .meta_ k .sb (SB.d s')
  ti : (E.filter isSb).map f6 = List.replicate 6 (.int r) ++ List.replicate 6 .none
  pl : ((E.filter isCell).map En.pl).take 12 = List.replicate 6 (.str "aside") ++ List.replicate 6 (.str "superblock")
theorem cl_all : ∀ {ds : List PyData}, (∀ d ∈ ds, PyData.canLay0 d = true) → PyData.canLayAll0 ds = true
  | [], _ => by simp [PyData.canLayAll0]
  | d :: ds, h => by simp only [PyData.canLayAll0, Bool.and_eq_true]; exact ⟨h d List.mem_cons_self, cl_all fun x hx => h x (List.mem_cons_of_mem _ hx)⟩
theorem dp_all {k : Nat} : ∀ {ds : List PyData}, (∀ d ∈ ds, PyData.depth d ≤ k) → PyData.depthAll ds ≤ k
  | [], _ => by simp [PyData.depthAll]
  | d :: ds, h => by
    have h1 := h d List.mem_cons_self
    have h2 := dp_all (k := k) (ds := ds) fun x hx => h x (List.mem_cons_of_mem _ hx)
    simp only [PyData.depthAll]
    omega
theorem shaped_list {ds : List PyData} (h1 : ∀ d ∈ ds, PyData.canLay0 d = true) (h2 : ∀ d ∈ ds, PyData.depth d ≤ 10) : SeqAt.shaped (.list ds) = true :=
  shaped_of (by simp only [PyData.canLay0]; exact cl_all h1) (by have := dp_all h2; simp only [PyData.depth]; omega)
theorem cl_aside (s : SB) (r : Int) (vals : List Int) : PyData.canLay0 (asideC s r vals) = true := by
  simp only [asideC, PyData.canLay0, PyData.canLayAll0, cl_ints, Bool.and_self]
theorem dp_aside (s : SB) (r : Int) (vals : List Int) : PyData.depth (asideC s r vals) ≤ 10 := by
  have := dp_ints vals
  simp only [asideC, PyData.depth, PyData.depthAll]
  omega
theorem cl_strs : PyData.canLay0 (.str "aside") = true ∧ PyData.canLay0 (.str "superblock") = true := by
  constructor <;> simp only [PyData.canLay0] <;> decide +kernel
theorem dpl {H : Hp} {a : Addr} {xs : List V} {ds : List PyData} (h : H a = some (.lst xs)) (r : RpL K H xs ds) : Dp K H (.ref a) (.list ds) := .lst (SqL.of h) r.dp
theorem rep6 {σ : L2.St} {H : Hp} {Q : VK} {x : V} (q : ∀ d H', Same H H' → H' d = some (.lst (List.replicate 6 x)) → Q (.ref d) H') : ∀ p, H p = none → tC (.int 6) σ (upd H p (.lst [x])) fun y H2 => rRep (.ref p) y H2 Q := fun p hp =>
  ⟨p, 6, [x], rfl, rfl, upd_same, by decide, by decide, Nat.le_of_ble_eq_true rfl, fun d hd => by
    rw [flatten_one]
    exact q d _ ((same_new hp).trans (same_new hd)) upd_same⟩
theorem rep6v {σ : L2.St} {i : Nat} {H : Hp} {Q : VK} {x : V} (h : σ[i]? = some (some (.int 6))) (q : ∀ d H', Same H H' → H' d = some (.lst (List.replicate 6 x)) → Q (.ref d) H') : ∀ p, H p = none → tVar i σ (upd H p (.lst [x])) fun y H2 => rRep (.ref p) y H2 Q := fun p hp =>
  ⟨.int 6, h, rep6 (σ := σ) q p hp⟩
theorem cat6 {H : Hp} {Q : VK} {a b : Addr} {x y : V} (ha : H a = some (.lst (List.replicate 6 x))) (hb : H b = some (.lst (List.replicate 6 y))) (q : ∀ d H', Same H H' → H' d = some (.lst (List.replicate 6 x ++ List.replicate 6 y)) → Q (.ref d) H') : rCat (.ref a) (.ref b) H Q :=
  ⟨a, b, _, _, rfl, rfl, ha, hb, by rw [List.length_replicate, List.length_replicate]; decide, fun p hp => q p _ (same_new hp) upd_same⟩
def sp_L_aside_right (K : PySem.W.Frag) : Sp := fun vs H Q _ => ∃ (A : Ad) (S : ArrS) (ws : List Int) (wl : Addr) (v : V) (s : SB) (n0 : Nat) (t : Lay) (up : Bool) (r : Int), vs = [.ref A.arr, .int n0, .int r, v, .ref wl] ∧ ArrAt K H A S ∧ H wl = some (.lst (ws.map V.int)) ∧ Rp K H v s.d ∧
  s.mv = some (t, up) ∧ t.ok ∧ 0 ≤ r ∧ r ≤ 1000 ∧ (ws.length : Int) = s.blocks ∧ ws.length ≤ 1000 ∧ S.ce.done.length ≤ 900 ∧ AsideR s r t ws (S.ce.done.drop n0) ∧ ∀ H', Same H H' → Q (.bl true) H'

theorem ok_L_aside_right (T : Tx K mg) (g_Array_trace : MK P w K mg base "Array" "trace" ["self"] 2 (sp_Array_trace K)) : GK P w K mg base "_law_aside_right" ["_law_host", "_law_begin", "_law_line", "_law_head", "_law_worths"] 3 (sp_L_aside_right K) [] := gk_mk T.f_L_aside_right T.m_L_aside_right (by decide +kernel) sc_L_aside_right (fun _ _ _ _ _ _ us hl => match us, hl with | [_, _, _, _, _], _ => rfl) (fun _ _ _ _ h => by obtain ⟨_, _, _, _, _, _, _, _, _, _, rfl, _⟩ := h; rfl) fun cdv A outer s H vs Q E hr h => by
  have nd := sc_L_aside_right.nd
  refine ⟨_, (pss_cons (ps_par (i := 5) (j := 6) (by rfl) nd rfl rfl (by decide) rfl rfl (pa_cons (pe_slice (sl_listK K) (pe_mk0K g_Array_trace hr (by decide) (pv 0)) (po_some (pv 1)) po_none) (pa_cons (pe_op op_sub (pe_ix (ix_tupK K) (pe_ix (ix_tupK K) (pv 3) pe_int (fun _ _ => rfl)) pe_int (fun _ _ => rfl)) pe_int) pa_nil)) (by rfl))
  (pss_cons (ps_set (i := 7) nd rfl (Or.inl rfl) (pb_tupleK K T.b_tuple (pa_cons (pe_w (pe_lc (own := [("_law_its", 13)]) (g := gName 13) (tt := tYes) rfl nd (pi_range2 rfl T.b_range (pa_cons (pe_op op_mul (pv 2) (pv 6)) (pa_cons (pe_op op_add (pe_op op_mul (pv 2) (pv 6)) (pv 6)) pa_nil))) (blkOk_by (N := ["_law_host", "_law_begin", "_law_line", "_law_head", "_law_worths", "_law_entries", "_law_wide", "_law_row", "_law_places", "_law_titled", "_law_asides", "_law_many", "_law_entry", "_law_its"]) (sc := defScope s_L_aside_right) (by decide +kernel)) (fun _ _ _ _ _ => (pg_name (i := 13) nd rfl (Or.inl rfl))) (fun _ _ _ _ _ => pts_nil) (fun _ _ _ _ _ => (pe_ifExp (pt_cmpR op_lt (pv 13) (pe_ix (ix_tupK K) (pv 3) pe_int (fun _ _ => rfl)) (nomark _)) (pe_ix (ix_listK K) (pv 4) (pv 13) (fun _ _ => rfl)) pe_int)))) pa_nil)))
  (pss_cons (ps_w (ps_setLc (i := 8) (own := [("_law_entry", 12)]) (g := gName 12) (tt := _) rfl nd rfl rfl (sw_true rfl rfl rfl (by decide +kernel)) (pi_listK K (pv 5)) (blkOk_by (N := ["_law_host", "_law_begin", "_law_line", "_law_head", "_law_worths", "_law_entries", "_law_wide", "_law_row", "_law_places", "_law_titled", "_law_asides", "_law_many", "_law_entry", "_law_its"]) (sc := defScope s_L_aside_right) (by decide +kernel)) (fun _ _ _ _ _ => (pg_name (i := 12) nd rfl (Or.inl rfl))) (fun _ _ _ _ _ => (pts_one (pt_cmpR op_eq (pe_ix (ix_tupK K) (pv 12) pe_int (fun _ _ => rfl)) pe_str (nomark _)))) (fun _ _ _ _ _ => (pe_ix (ix_tupK K) (pv 12) pe_int (fun _ _ => rfl)))))
  (pss_cons (ps_w (ps_setLc (i := 9) (own := [("_law_entry", 12)]) (g := gName 12) (tt := _) rfl nd rfl rfl (sw_true rfl rfl rfl (by decide +kernel)) (pi_listK K (pv 5)) (blkOk_by (N := ["_law_host", "_law_begin", "_law_line", "_law_head", "_law_worths", "_law_entries", "_law_wide", "_law_row", "_law_places", "_law_titled", "_law_asides", "_law_many", "_law_entry", "_law_its"]) (sc := defScope s_L_aside_right) (by decide +kernel)) (fun _ _ _ _ _ => (pg_name (i := 12) nd rfl (Or.inl rfl))) (fun _ _ _ _ _ => (pts_one (PW.pt (pw_and (pt_cmpR op_eq (pe_ix (ix_tupK K) (pv 12) pe_int (fun _ _ => rfl)) pe_str (nomark _)) (pw_and1 (pt_cmpR op_eq (pe_ix (ix_tupK K) (pv 12) pe_int (fun _ _ => rfl)) pe_str (nomark _))))))) (fun _ _ _ _ _ => (pe_ix (ix_tupK K) (pe_ix (ix_tupK K) (pv 12) pe_int (fun _ _ => rfl)) pe_int (fun _ _ => rfl)))))
  (pss_cons (ps_w (ps_setLc (i := 10) (own := [("_law_entry", 12)]) (g := gName 12) (tt := _) rfl nd rfl rfl (sw_true rfl rfl rfl (by decide +kernel)) (pi_listK K (pv 5)) (blkOk_by (N := ["_law_host", "_law_begin", "_law_line", "_law_head", "_law_worths", "_law_entries", "_law_wide", "_law_row", "_law_places", "_law_titled", "_law_asides", "_law_many", "_law_entry", "_law_its"]) (sc := defScope s_L_aside_right) (by decide +kernel)) (fun _ _ _ _ _ => (pg_name (i := 12) nd rfl (Or.inl rfl))) (fun _ _ _ _ _ => (pts_one (PW.pt (pw_and (pt_cmpR op_eq (pe_ix (ix_tupK K) (pv 12) pe_int (fun _ _ => rfl)) pe_str (nomark _)) (pw_and1 (pt_cmpR op_eq (pe_ix (ix_tupK K) (pv 12) pe_int (fun _ _ => rfl)) pe_str (nomark _))))))) (fun _ _ _ _ _ => (pe_ix (ix_tupK K) (pv 12) pe_int (fun _ _ => rfl)))))
  (pss_cons (ps_set (i := 11) nd rfl (Or.inl rfl) (pb_lenK K T.b_len (pa_cons (pv 10) pa_nil)))
  (pss_cons (ps_if (PW.pt (pw_or (pt_cmpR (op_neDK K hr.units) (pv 10) (pe_op op_rep (pe_lst (pa_cons (pe_tup (pa_cons (pe_op op_add (pe_ix (ix_tupK K) (pv 3) pe_int (fun _ _ => rfl)) pe_int) (pa_cons (pv 2) (pa_cons (pv 7) pa_nil)))) pa_nil)) pe_int) (nomark _)) (pw_or1 (pt_cmpR (op_neDK K hr.units) (pv 9) (pe_op op_cat (pe_op op_rep (pe_lst (pa_cons (pv 2) pa_nil)) pe_int) (pe_op op_rep (pe_lst (pa_cons pe_non pa_nil)) pe_int)) (nomark _))))) (pss_one (ps_ret pe_bl)) pss_nil)
  (pss_one (ps_ret (pe_cmpR (op_eqDK K hr.units) (pe_slice (sl_listK K) (pv 8) po_none (po_some (pe_op op_mul pe_int (pv 11)))) (pe_op op_cat (pe_op op_rep (pe_lst (pa_cons pe_str pa_nil)) (pv 11)) (pe_op op_rep (pe_lst (pa_cons pe_str pa_nil)) (pv 11))) (nomark _))))))))))), ?_⟩
  obtain ⟨A, S, ws, wl, v, s, n0, t, up, r, rfl, har, hwl, hv, hm, ht, hr0, hr1, hwb, hw10, hdl, hA, q⟩ := h
  have hH := har.arr
  have ht1 := ht.1
  have ht2 := ht.2
  walk_at "go"
  refine ⟨A, S, rfl, har, fun p H1 es hp e1 hp1 hes => ?_⟩
  walk_at "go"
  intro q1 hq1
  have hE2 : RpL K (upd H1 q1 (.lst (cutV es (some (n0 : Int)) none))) (es.drop n0) ((S.ce.done.drop n0).map En.d) := by
    rw [List.map_drop]
    exact (hes.drop n0).same (same_new hq1)
  have hq2 : (upd H1 q1 (.lst (cutV es (some (n0 : Int)) none))) q1 = some (.lst (es.drop n0)) := by rw [upd_same, cut_from]
  have e2 : Same H (upd H1 q1 (.lst (cutV es (some (n0 : Int)) none))) := e1.trans (same_new hq1)
  generalize (upd H1 q1 (.lst (cutV es (some (n0 : Int)) none))) = H2 at hE2 hq2 e2 ⊢
  have hEl : (S.ce.done.drop n0).length ≤ 900 := by rw [List.length_drop]; omega
  generalize (S.ce.done.drop n0) = E at hE2 hA hEl
  obtain ⟨ha, xl, y, rfl, hha, hxl, hy⟩ := sb_open (hv.same e2)
  rw [tgt_some hm] at hy
  obtain ⟨ay, rfl, hay⟩ := lay_open hy
  unfold sbV at hha
  walk_at "go"
  have hrn := Int.mul_nonneg hr0 (show 0 ≤ t.n - 1 by omega)
  have hrm : r * (t.n - 1) ≤ 1000 * 5 := by
    have h1 := Int.mul_le_mul_of_nonneg_left (show t.n - 1 ≤ 5 by omega) hr0
    omega
  refine ⟨⟨by omega, by omega, by omega, by omega⟩, ?_⟩
  have hwl2 := e2 _ _ hwl
  refine lcA (n := (t.n - 1).toNat) (fun j y _ => y = .int (if r * (t.n - 1) + (j : Nat) < s.blocks then ws.getD (r * (t.n - 1) + (j : Nat)).toNat 0 else 0)) (by omega) (fun _ _ _ _ _ h => h) (fun j H' hj e => by show j < _; omega) (fun H' e => by show _ ≤ _; omega) ?_ ?_
  · rintro j H' x H3 hj e ⟨rfl, rfl⟩ R2 hR2
    have hha3 := SqT.tk hha (tk_same e)
    have hwl3 := e _ _ hwl2
    refine ⟨rfl, ?_⟩
    walk_at "go"
    by_cases hlt : r * (t.n - 1) + (j : Nat) < s.blocks
    · rw [decide_eq_true hlt]
      walk_at "go"
      have hk : (r * (t.n - 1) + (j : Nat)).toNat < ws.length := by omega
      have hat : atI (ws.map V.int) (r * (t.n - 1) + (j : Nat)) = some (.int (ws.getD (r * (t.n - 1) + (j : Nat)).toNat 0)) := by
        unfold atI ixN
        rw [if_pos (by omega), if_pos (by rw [List.length_map]; omega)]
        show (ws.map V.int)[_]? = _
        rw [List.getElem?_map, List.getElem?_eq_getElem hk]
        simp [List.getD, hk]
      refine ⟨_, _, _, _, rfl, rfl, SqL.of hwl3, hat, ?_⟩
      exact hR2 _ _ (Same.refl _) (by rw [if_pos hlt])
    · rw [decide_eq_false hlt]
      walk_at "go"
      exact hR2 _ _ (Same.refl _) (by rw [if_neg hlt])
  intro rl ys H3 hrl hrl3 e3 hys
  have hys2 : ys = (rowW s r t ws).map V.int := by rw [peq hys]; unfold rowW; rw [List.map_map]; rfl
  rw [hys2] at hrl3
  walk_at "go"
  refine ⟨_, _, rfl, .inl ⟨SqL.of hrl3, fun rt hrt => ?_⟩⟩
  have hrt4 : SqT K (upd H3 rt (.tup ((rowW s r t ws).map V.int))) rt ((rowW s r t ws).map V.int) := SqT.new hrt
  have e4 : Same H2 (upd H3 rt (.tup ((rowW s r t ws).map V.int))) := e3.trans (same_new hrt)
  generalize (upd H3 rt (.tup ((rowW s r t ws).map V.int))) = H4 at hrt4 e4 ⊢
  have hq4 := e4 _ _ hq2
  have hE4 := hE2.same e4
  walk_at "go"
  refine lc_en isCell En.pl hq4 hE4 (by omega) ?_ ?_
  · intro x e H5 e5 he hrx R2 Z hR hZ
    refine ⟨rfl, ?_⟩
    cases e with
    | flush =>
      obtain ⟨b, x0, rfl, hs, r0⟩ := rp1 hrx
      cases r0
      walk_at "go"
      exact hZ rfl
    | bg b y =>
      obtain ⟨b, x0, x1, x2, rfl, hs, r0, _⟩ := rp3 hrx
      cases r0
      walk_at "go"
      exact hZ rfl
    | dn b =>
      obtain ⟨b, x0, x1, rfl, hs, r0, _⟩ := rp2 hrx
      cases r0
      walk_at "go"
      exact hZ rfl
    | data k r y =>
      obtain ⟨b, x0, x1, x2, x3, rfl, hs, r0, r1, r2, r3⟩ := rp4 hrx
      cases r0
      walk_at "go"
      exact hR rfl _ _ (Same.refl _) r2
    | meta_ k m c =>
      obtain ⟨b, x0, x1, x2, x3, rfl, hs, r0, r1, r2, r3⟩ := rp4 hrx
      cases r0
      walk_at "go"
      exact hR rfl _ _ (Same.refl _) r2
  intro pa pys H5 hpa hpa5 e5 hpys
  have hq5 := e5 _ _ hq4
  have hE5 := hE4.same e5
  walk_at "go"
  refine lc_en isSb f6 hq5 hE5 (by omega) ?_ ?_
  · intro x e H6 e6 he hrx R2 Z hR hZ
    refine ⟨rfl, ?_⟩
    have hsbe := hA.sb e he
    cases e with
    | flush =>
      obtain ⟨b, x0, rfl, hs, r0⟩ := rp1 hrx
      cases r0
      walk_at "go"
      exact hZ rfl
    | bg b y =>
      obtain ⟨b, x0, x1, x2, rfl, hs, r0, _⟩ := rp3 hrx
      cases r0
      walk_at "go"
      exact hZ rfl
    | dn b =>
      obtain ⟨b, x0, x1, rfl, hs, r0, _⟩ := rp2 hrx
      cases r0
      walk_at "go"
      exact hZ rfl
    | data k r y =>
      obtain ⟨b, x0, x1, x2, x3, rfl, hs, r0, r1, r2, r3⟩ := rp4 hrx
      cases r0
      cases r2
      walk_at "go"
      exact hZ rfl
    | meta_ k m c =>
      obtain ⟨b, x0, x1, x2, x3, rfl, hs, r0, r1, r2, r3⟩ := rp4 hrx
      cases r0
      cases r2
      cases m with
      | sb =>
        obtain ⟨k', s', hks⟩ := hsbe rfl
        injection hks with _ _ hc
        subst hc
        obtain ⟨c3, xa, ya, rfl, h9, _, _⟩ := sb_open r3
        unfold sbV at h9
        walk_at "go"
        exact hR rfl _ _ (Same.refl _) (opt_rp s'.aside)
      | lg =>
        walk_at "go"
        exact hZ rfl
      | as =>
        walk_at "go"
        exact hZ rfl
  intro ti tys H6 hti hti6 e6 htys
  rw [hA.ti] at htys
  have hq6 := e6 _ _ hq5
  have hE6 := hE5.same e6
  walk_at "go"
  refine lc_en isAs En.ct hq6 hE6 (by omega) ?_ ?_
  · intro x e H7 e7 he hrx R2 Z hR hZ
    refine ⟨rfl, ?_⟩
    cases e with
    | flush =>
      obtain ⟨b, x0, rfl, hs, r0⟩ := rp1 hrx
      cases r0
      walk_at "go"
      exact hZ rfl
    | bg b y =>
      obtain ⟨b, x0, x1, x2, rfl, hs, r0, _⟩ := rp3 hrx
      cases r0
      walk_at "go"
      exact hZ rfl
    | dn b =>
      obtain ⟨b, x0, x1, rfl, hs, r0, _⟩ := rp2 hrx
      cases r0
      walk_at "go"
      exact hZ rfl
    | data k r y =>
      obtain ⟨b, x0, x1, x2, x3, rfl, hs, r0, r1, r2, r3⟩ := rp4 hrx
      cases r0
      cases r2
      walk_at "go"
      exact hZ rfl
    | meta_ k m c =>
      obtain ⟨b, x0, x1, x2, x3, rfl, hs, r0, r1, r2, r3⟩ := rp4 hrx
      cases r0
      cases r2
      cases m with
      | sb =>
        walk_at "go"
        exact hZ rfl
      | lg =>
        walk_at "go"
        exact hZ rfl
      | as =>
        walk_at "go"
        exact hR rfl _ _ (Same.refl _) r3
  intro sa sys H7 hsa hsa7 e7 hsys
  rw [hA.as_] at hsys
  have hsl : sys.length = 6 := by have := hsys.length; rwa [List.length_replicate] at this
  have e27 := e4.trans (e5.trans (e6.trans e7))
  have hha7 := SqT.tk hha (tk_same e27)
  obtain ⟨z0, z1, z2, z3, z4, z5, rfl⟩ : ∃ a b c d e f, sys = [a, b, c, d, e, f] := by
    match sys, hsl with
    | [a, b, c, d, e, f], _ => exact ⟨a, b, c, d, e, f, rfl⟩
  have hsa7 : H7 sa = some (.lst [z0, z1, z2, z3, z4, z5]) := hsa7
  walk_at "go"
  intro tp htp
  have htp8 : SqT K (upd H7 tp (.tup [.int (s.num + 1), .int r, .ref rt])) tp [.int (s.num + 1), .int r, .ref rt] := SqT.new htp
  have e8 : Same H7 (upd H7 tp (.tup [.int (s.num + 1), .int r, .ref rt])) := same_new htp
  walk_at "go"
  generalize (upd H7 tp (.tup [.int (s.num + 1), .int r, .ref rt])) = H8 at htp8 e8 ⊢
  refine rep6 (x := .ref tp) fun dp H10 e810 hdp10 => ?_
  have e710 := e8.trans e810
  have hrow : Rp K H10 (.ref tp) (asideC s r (rowW s r t ws)) := .tup (SqT.tk htp8 (tk_same e810)) (.cons (.int _) (.cons (.int _) (.cons (.tup (SqT.tk hrt4 (tk_same (e5.trans (e6.trans (e7.trans e710))))) (RpL.ints _)) .nil)))
  have hsh : SeqAt.shaped (.list (List.replicate 6 (asideC s r (rowW s r t ws)))) = true := shaped_list (fun d hd => by rw [List.eq_of_mem_replicate hd]; exact cl_aside _ _ _) (fun d hd => by rw [List.eq_of_mem_replicate hd]; exact dp_aside _ _ _)
  refine ⟨_, _, dpl (e710 _ _ hsa7) (hsys.same e710), dpl hdp10 (rpl_rep hrow 6), hsh, hsh, ?_⟩
  rw [eqv_rfl hsh]
  clear hsh
  walk_at "go"
  refine rep6 (x := .int r) fun da H12 ea hxa => ?_
  walk_at "go"
  refine rep6 (x := .non) fun db H14 eb hxb => ?_
  refine cat6 (eb _ _ hxa) hxb fun c1 H15 e15 hc15 => ?_
  have e1015 := ea.trans (eb.trans e15)
  have e615 := e7.trans (e710.trans e1015)
  have hsh2 : SeqAt.shaped (.list (List.replicate 6 (PyData.int r) ++ List.replicate 6 PyData.none)) = true := shaped_list (fun d hd => by
    rcases List.mem_append.mp hd with z | z <;> rw [List.eq_of_mem_replicate z] <;> simp only [PyData.canLay0]) (fun d hd => by
    rcases List.mem_append.mp hd with z | z <;> rw [List.eq_of_mem_replicate z] <;> simp [PyData.depth])
  refine ⟨_, _, dpl (e615 _ _ hti6) (htys.same e615), dpl hc15 (RpL.append (rpl_rep (.int r) 6) (rpl_rep .non 6)), hsh2, hsh2, ?_⟩
  rw [eqv_rfl hsh2]
  clear hsh2
  have hpa15 := (e6.trans e615) _ _ hpa5
  have hpys15 := hpys.same (e6.trans e615)
  walk_at "go"
  intro sp hsp
  have hsp16 : (upd H15 sp (.lst (cutV pys none (some (2 * ([z0, z1, z2, z3, z4, z5].length : Int)))))) sp = some (.lst (pys.take 12)) := by rw [upd_same]; exact congrArg (fun l => some (HO.lst l)) (cut_to (n := 12))
  have e16 : Same H15 (upd H15 sp (.lst (cutV pys none (some (2 * ([z0, z1, z2, z3, z4, z5].length : Int)))))) := same_new hsp
  generalize (upd H15 sp (.lst (cutV pys none (some (2 * ([z0, z1, z2, z3, z4, z5].length : Int)))))) = H16 at hsp16 e16 ⊢
  have htk := RpL.take 12 (hpys15.same e16)
  rw [hA.pl] at htk
  walk_at "go"
  refine rep6v (x := .str "aside") rfl fun dc H18 ec hxc => ?_
  walk_at "go"
  refine rep6v (x := .str "superblock") rfl fun dd H20 ed hxd => ?_
  refine cat6 (ed _ _ hxc) hxd fun c2 H21 e21 hc21 => ?_
  have e1621 := ec.trans (ed.trans e21)
  have hsh3 : SeqAt.shaped (.list (List.replicate 6 (PyData.str "aside") ++ List.replicate 6 (PyData.str "superblock"))) = true := shaped_list (fun d hd => by
    rcases List.mem_append.mp hd with z | z <;> rw [List.eq_of_mem_replicate z]
    · exact cl_strs.1
    · exact cl_strs.2) (fun d hd => by
    rcases List.mem_append.mp hd with z | z <;> rw [List.eq_of_mem_replicate z] <;> simp [PyData.depth])
  refine ⟨_, _, dpl (e1621 _ _ hsp16) (htk.same e1621), dpl hc21 (RpL.append (rpl_rep (.str _) 6) (rpl_rep (.str _) 6)), hsh3, hsh3, ?_⟩
  rw [eqv_rfl hsh3]
  exact q _ (e2.trans (e27.trans (e710.trans (e1015.trans (e16.trans e1621)))))


end
end WS
set_option Elab.async false
set_option linter.all false
set_option maxRecDepth 100000
set_option maxHeartbeats 4000000
/-! the plain law: what the trace of a step holds -/
namespace WS
open PySem PySem.Spec PyProof.Rows L2
theorem data_no {row : Int} {p : En → Bool} (hp : ∀ k r x, p (.data k r x) = false) : ∀ ps : List (Int × Int), (dataEs row ps).filter p = []
  | [] => rfl
  | q :: ps => by
    show ((En.data q.1.toNat row.toNat q.2) :: dataEs row ps).filter p = []
    rw [List.filter_cons, hp]
    exact data_no hp ps
theorem data_all {row : Int} {p : En → Bool} (hp : ∀ k r x, p (.data k r x) = true) : ∀ ps : List (Int × Int), (dataEs row ps).filter p = dataEs row ps
  | [] => rfl
  | q :: ps => by
    show ((En.data q.1.toNat row.toNat q.2) :: dataEs row ps).filter p = _
    rw [List.filter_cons, hp, if_pos rfl, data_all hp ps]
    rfl
theorem esS_drop {S : ArrS} {r : Int} {vals : List Int} {c : Bool} {ps : List (Int × Int)} (hl : S.ce.loose = false) (hp : ps ≠ []) : (stepS S r vals c ps).ce.done.drop S.ce.done.length = esS S.sb r vals c ps := by
  rw [(stepS_eq S r vals c ps hl hp).2]
  exact List.drop_left
theorem any_aside {s : SB} {r : Int} {vals : List Int} {c : Bool} {ps : List (Int × Int)} : (esS s r vals c ps).any isAs = c := by
  have hd : (dataEs r ps).any isAs = false := by
    rw [List.any_eq_false]
    intro e he
    obtain ⟨p, _, rfl⟩ := List.mem_map.mp he
    exact fun z => by cases z
  have hs : ∀ z, (superEs z).any isAs = false := fun z => rfl
  have ha : (asideEs s r vals).any isAs = true := rfl
  unfold esS esA
  cases c with
  | false =>
    simp only [List.any_append, hd, hs]
    rfl
  | true =>
    simp only [if_true, List.any_append, hd, hs, ha]
    rfl
theorem aside_r {s : SB} {r : Int} {t : Lay} {ws : List Int} {ps : List (Int × Int)} (ha : (steppedS s).aside = none) : AsideR s r t ws (esS s r (rowW s r t ws) true ps) := by
  have hE : esS s r (rowW s r t ws) true ps = (asideEs s r (rowW s r t ws) ++ [.flush] ++ (superEs (sbA s r) ++ [.flush])) ++ (dataEs r ps ++ [.flush]) ++ (superEs (sbF s true) ++ [.flush]) := rfl
  have hn : optI (sbF s true).aside = .none := by show optI (steppedS s).aside = _; rw [ha]; rfl
  have fl : ∀ p : En → Bool, p .flush = false → [En.flush].filter p = [] := fun p h => by simp [h]
  rw [hE]
  refine ⟨?_, ?_, ?_, ?_⟩
  · simp only [List.filter_append, data_no (p := isAs) (fun _ _ _ => rfl), fl isAs rfl, List.append_nil, List.nil_append]
    rw [show (asideEs s r (rowW s r t ws)).filter isAs = asideEs s r (rowW s r t ws) from rfl, show (superEs (sbA s r)).filter isAs = [] from rfl, show (superEs (sbF s true)).filter isAs = [] from rfl]
    rfl
  · intro e he hsb
    simp only [List.mem_append, List.mem_singleton] at he
    rcases he with ((((z | z) | z | z) | z | z) | z | z)
    · obtain ⟨k, _, rfl⟩ := List.mem_map.mp z; cases hsb
    · subst z; cases hsb
    · obtain ⟨k, _, rfl⟩ := List.mem_map.mp z; exact ⟨k, _, rfl⟩
    · subst z; cases hsb
    · obtain ⟨k, _, rfl⟩ := List.mem_map.mp z; cases hsb
    · subst z; cases hsb
    · obtain ⟨k, _, rfl⟩ := List.mem_map.mp z; exact ⟨k, _, rfl⟩
    · subst z; cases hsb
  · simp only [List.filter_append, data_no (p := isSb) (fun _ _ _ => rfl), fl isSb rfl, List.append_nil, List.nil_append]
    rw [show (asideEs s r (rowW s r t ws)).filter isSb = [] from rfl, show (superEs (sbA s r)).filter isSb = superEs (sbA s r) from rfl, show (superEs (sbF s true)).filter isSb = superEs (sbF s true) from rfl, List.nil_append, List.map_append]
    rw [show (superEs (sbF s true)).map f6 = List.replicate 6 (optI (sbF s true).aside) from rfl, hn]
    rfl
  · simp only [List.filter_append, fl isCell rfl, List.append_nil, List.map_append, List.append_assoc]
    rw [show (asideEs s r (rowW s r t ws)).filter isCell = asideEs s r (rowW s r t ws) from rfl, show (superEs (sbA s r)).filter isCell = superEs (sbA s r) from rfl, ← List.append_assoc]
    exact List.take_left (l₁ := List.replicate 6 (PyData.str "aside") ++ List.replicate 6 (PyData.str "superblock"))
theorem plain_m {s : SB} {r : Int} {vals : List Int} {ps : List (Int × Int)} : ((esS s r vals false ps).filter isData).length = ps.length := by
  have fl : [En.flush].filter isData = [] := rfl
  unfold esS esA
  simp only [Bool.false_eq_true, if_false, List.filter_append, fl, data_all (p := isData) (fun _ _ _ => rfl), List.append_nil, List.nil_append]
  rw [show (superEs (sbF s false)).filter isData = [] from rfl]
  simp [dataEs]
theorem plain_u {s : SB} {r : Int} {vals : List Int} {ps : List (Int × Int)} {k q : Nat} {x : Int} (h : En.data k q x ∈ esS s r vals false ps) : q = r.toNat := by
  unfold esS esA at h
  simp only [Bool.false_eq_true, if_false, List.nil_append, List.mem_append, List.mem_singleton] at h
  rcases h with (z | z) | z | z
  · obtain ⟨p, _, e⟩ := List.mem_map.mp z
    injection e with _ e2 _
    exact e2.symm
  · cases z
  · obtain ⟨p, _, e⟩ := List.mem_map.mp z
    cases e
  · cases z
/-! ### the words of a trace -/
theorem words_flat {K : PySem.W.Frag} {H : Hp} : ∀ {E : List En} {ys : List V}, RpL K H ys ((E.filter isCell).map En.pl) → ys.all flatV = true ∧ inV (.str "aside") ys = E.any isAs
  | [], _, h => by cases h; exact ⟨rfl, rfl⟩
  | e :: E, ys, h => by
    cases e with
    | data k r x =>
      have h' : RpL K H ys (.int r :: (E.filter isCell).map En.pl) := h
      cases h' with
      | cons h1 h2 =>
        obtain rfl := h1.int_eq
        obtain ⟨a, b⟩ := words_flat h2
        exact ⟨by simpa [List.all_cons, flatV] using a, by
          show (false || inV (.str "aside") _) = (false || E.any isAs)
          exact congrArg (fun z => (false || z)) b⟩
    | meta_ k m c =>
      have h' : RpL K H ys (.str m.s :: (E.filter isCell).map En.pl) := h
      cases h' with
      | cons h1 h2 =>
        obtain rfl := h1.str_eq
        obtain ⟨a, b⟩ := words_flat h2
        refine ⟨by simpa [List.all_cons, flatV] using a, ?_⟩
        have hm : eqV (.str m.s) (.str "aside") = isAs (.meta_ k m c) := by
          cases m with
          | sb => exact (by decide +kernel : eqV (.str "superblock") (.str "aside") = false)
          | lg => exact (by decide +kernel : eqV (.str "log") (.str "aside") = false)
          | as => exact (by decide +kernel : eqV (.str "aside") (.str "aside") = true)
        exact (congr (congrArg or hm) b : or (eqV (.str m.s) (.str "aside")) (inV (.str "aside") _) = or (isAs (.meta_ k m c)) (E.any isAs))
    | flush => exact words_flat (E := E) h
    | bg b v => exact words_flat (E := E) h
    | dn b => exact words_flat (E := E) h
end WS
set_option Elab.async false
set_option linter.all false
set_option maxRecDepth 100000
set_option maxHeartbeats 4000000
namespace WS
open PySem PySem.Spec PyProof.Rows L2
local macro_rules | `(tactic| walk_at "tdg") => `(tactic| first | (apply tdg0; walk_at "at") | (apply tdg1; walk_at "at") | (apply tdg2; walk_at "at") | (apply tdg3; walk_at "at") | (apply tdg4; walk_at "at") | (apply tdg5; walk_at "at") | (apply tdg6; walk_at "at") | (apply tdg7; walk_at "at") | (apply tdg8; walk_at "at"))
local macro_rules | `(tactic| walk_at "no") => `(tactic| first | assumption | (apply no_by; assumption; walk_at "sm"))
local macro_rules | `(tactic| walk_at "sm") => `(tactic| first | exact Same.refl _ | assumption | (apply same_up; walk_at "no"; walk_at "sm") | (apply same_by; assumption; walk_at "sm"))
local macro_rules | `(tactic| walk_at "tk") => `(tactic| first | exact TK.refl | assumption | (apply tk_up; walk_at "no"; walk_at "tk") | (apply tk_by; assumption; walk_at "tk") | (apply tk_mv; assumption; walk_at "tk"))
local macro_rules | `(tactic| walk_at "mv") => `(tactic| first | exact Mv.refl | assumption | (apply mv_up; walk_at "no"; walk_at "mv") | (apply mv_mv; assumption; walk_at "mv") | (apply mv_by; assumption; walk_at "mv"))
local macro_rules | `(tactic| walk_at "ne") => `(tactic| first | assumption | (refine Ne.symm ?_; assumption))
local macro_rules | `(tactic| walk_at "at") => `(tactic| first | assumption | exact upd_same | (apply at_new; walk_at "no"; walk_at "at") | (apply at_ne; walk_at "ne"; walk_at "at") | (apply at_same; assumption; walk_at "at") | (apply at_mv; assumption; assumption; walk_at "at"))
local macro_rules | `(tactic| walk_at "rp") => `(tactic| first | assumption | exact Rp.non | exact Rp.int _ | exact Rp.str _ | (apply rp_tk; assumption; walk_at "tk"))
local macro_rules | `(tactic| walk_at "sq") => `(tactic| first | assumption | exact (‹Tx _ _›).t_METAS _ | exact (‹Tx _ _›).t_FIELDS _ | exact (‹Tx _ _›).t_LEFT _ | exact (‹Tx _ _›).t_SYMMETRIC _ | (apply SqT.of; walk_at "at") | (apply SqL.of; walk_at "at") | (apply sqt_tk; assumption; walk_at "tk") | (apply sql_sm; assumption; walk_at "sm"))
local macro_rules | `(tactic| walk_at "sd") => `(tactic| first | rfl | omega | assumption | decide)
local macro_rules | `(tactic| walk_at "fld") => `(tactic| first | refine ⟨_, _, _, _, _, rfl, (by walk_at "at" : _ = some _), (‹Tx _ _›).c_Cells, (‹Tx _ _›).n_Cells_disks, rfl, ?_⟩ | refine ⟨_, _, _, _, _, rfl, (by walk_at "at" : _ = some _), (‹Tx _ _›).c_Cells, (‹Tx _ _›).n_Cells_done, rfl, ?_⟩ | refine ⟨_, _, _, _, _, rfl, (by walk_at "at" : _ = some _), (‹Tx _ _›).c_Cells, (‹Tx _ _›).n_Cells_begun, rfl, ?_⟩ | refine ⟨_, _, _, _, _, rfl, (by walk_at "at" : _ = some _), (‹Tx _ _›).c_Cells, (‹Tx _ _›).n_Cells_is_loose, rfl, ?_⟩ | refine ⟨_, _, _, _, _, rfl, (by walk_at "at" : _ = some _), (‹Tx _ _›).c_State, (‹Tx _ _›).n_State_cells, rfl, ?_⟩ | refine ⟨_, _, _, _, _, rfl, (by walk_at "at" : _ = some _), (‹Tx _ _›).c_State, (‹Tx _ _›).n_State_own_superblock, rfl, ?_⟩ | refine ⟨_, _, _, _, _, rfl, (by walk_at "at" : _ = some _), (‹Tx _ _›).c_Array, (‹Tx _ _›).n_Array_state, rfl, ?_⟩)
local macro_rules | `(tactic| walk_at "w") => `(tactic| first | refine ⟨_, rfl, ⟨_, (by walk_at "sq" : SqT _ _ _ _)⟩, ?_⟩ | refine ⟨_, rfl, ⟨_, (by walk_at "sq" : SqL _ _ _ _)⟩, ?_⟩ | refine ⟨_, rfl, ?_⟩ | refine ⟨_, _, rfl, rfl, ?_⟩ | refine ⟨rfl, ?_⟩ | refine ⟨_, _, rfl, (by walk_at "sq" : SqT _ _ _ _), rfl, ?_⟩ | refine ⟨_, _, rfl, (by walk_at "sq" : SqT _ _ _ _), ?_⟩ | refine ⟨_, _, rfl, (by walk_at "sq" : SqL _ _ _ _), ?_⟩ | refine ⟨_, _, rfl, (by walk_at "tdg" : DGet _ _ _ _), ?_⟩ | refine ⟨_, _, rfl, ?_⟩ | refine ⟨_, _, _, _, rfl, rfl, (by walk_at "sq" : SqT _ _ _ _), rfl, ?_⟩ | refine ⟨_, _, rfl, .inl (by walk_at "sq" : SqL _ _ _ _), rfl, rfl, ?_⟩ | refine ⟨_, _, rfl, .inr (by walk_at "sq" : SqT _ _ _ _), rfl, rfl, ?_⟩ | refine ⟨_, _, rfl, .inl (by walk_at "sq" : SqL _ _ _ _), ?_⟩ | refine ⟨_, _, rfl, .inr (by walk_at "sq" : SqT _ _ _ _), ?_⟩ | refine ⟨_, _, rfl, (by walk_at "at" : _ = some (HO.dK _)), ?_⟩ | refine ⟨_, _, _, _, rfl, rfl, (by walk_at "sq" : SqL _ _ _ _), rfl, ?_⟩ | refine ⟨_, _, _, rfl, (by walk_at "at" : _ = some _), rfl, ?_⟩ | refine ⟨_, _, _, rfl, ?_⟩ | walk_at "fld" | refine ty_d (by walk_at "at") ?_ | refine ty_l (by walk_at "sq") ?_ | refine ty_t (‹Tx _ _›).z_FIELDS ?_ | refine And.intro (by first | omega | decide | exact Nat.le_of_ble_eq_true rfl | (unfold CDiv; omega) | (unfold CMul; omega)) ?_)
local macro_rules | `(tactic| walk_at "go") => `(tactic| repeat walk_at "w")
section
variable {P : Program} {w : World} {K : PySem.W.Frag} {mg : Str → Option Value} {base : Heap}

theorem row_eq {S : ArrS} {R : Nat} {ws : List Int} (h : Wf S R ws) {t : Lay} {r : Int} (r0 : 0 ≤ r) (ht : t.ok) : rowVals S.sb S.ce.disks t r = rowW S.sb r t ws := row_ws h r0 ht
def sp_L_right (K : PySem.W.Frag) : Sp := fun vs H Q _ => ∃ (bx : Addr) (n : Nat), vs = [.ref bx] ∧ BoxAt H bx n ∧ n ≤ 100 ∧ TabK K H ∧ ∀ H', Mv K [bx, tabP K] H H' → TabK K H' → Q (.bl true) H'

theorem ok_L_right (T : Tx K mg) (g_Array_superblock : MK P w K mg base "Array" "superblock" ["self"] 1 (sp_Array_superblock K)) (g_Array_trace : MK P w K mg base "Array" "trace" ["self"] 2 (sp_Array_trace K)) (g_L_aside_right : GK P w K mg base "_law_aside_right" ["_law_host", "_law_begin", "_law_line", "_law_head", "_law_worths"] 3 (sp_L_aside_right K) []) (g_L_begun : GK P w K mg base "_law_begun" ["_law_box_here", "_law_most", "_law_disks"] 14 (sp_L_begun K) []) (g_L_moved : GK P w K mg base "_law_moved" ["_law_box_here", "_law_host", "_law_worths", "_law_disks", "_law_many"] 15 (sp_L_moved K) []) (g_L_plain_right : GG P w K mg base "_law_plain_right" ["_law_box_here", "_law_host", "_law_begin", "_law_head", "_law_worths"] 11 (sp_L_plain_right K)) (g_L_shape : GK P w K mg base "_law_shape" ["_law_box_here", "_law_least", "_law_most"] 3 (sp_L_shape K) []) (g_L_take : GK P w K mg base "_law_take" ["_law_box_here", "_law_many"] 1 (sp_L_take K) []) (g_L_used : GK P w K mg base "_law_used" ["_law_head"] 2 (sp_L_used K) []) (g_change : GK P w K mg base "change" ["array", "target"] 11 (sp_change K) []) (g_step : GK P w K mg base "step" ["array"] 14 (sp_step K) []) : GG P w K mg base "_law_right" ["_law_box_here"] 16 (sp_L_right K) := gg_mk T.f_L_right T.m_L_right (by decide +kernel) sc_L_right (fun _ _ _ _ _ _ us hl => match us, hl with | [_], _ => rfl) (fun _ _ _ _ h => by obtain ⟨_, _, rfl, _⟩ := h; rfl) fun cdv A outer s H vs Q E hg hr h => by
  have nd := sc_L_right.nd
  refine ⟨_, (pss_cons (ps_asg (pe_gkK g_L_begun hr (by decide) (pa_cons (pv 0) (pa_cons pe_int (pa_cons pe_int pa_nil)))) (pg_tupK K 2 rfl (pgs_cons (pg_name (i := 1) nd rfl (Or.inl rfl)) (pgs_cons (pg_name (i := 2) nd rfl (Or.inl rfl)) pgs_nil))))
  (pss_cons (ps_expr (pe_gkK g_change hr (by decide) (pa_cons (pv 1) (pa_cons (pe_gkK g_L_shape hr (by decide) (pa_cons (pv 0) (pa_cons pe_int (pa_cons pe_int pa_nil)))) pa_nil))))
  (pss_cons (ps_expr (pe_gkK g_L_moved hr (by decide) (pa_cons (pv 0) (pa_cons (pv 1) (pa_cons (pv 2) (pa_cons pe_int (pa_cons (pe_gkK g_L_take hr (by decide) (pa_cons (pv 0) (pa_cons pe_int pa_nil))) pa_nil)))))))
  (pss_cons (ps_wf (ps_for PassesOwn.never rfl (pi_range1 rfl T.b_range (pa_cons pe_int pa_nil)) (pg_name (i := 3) nd rfl (Or.inl rfl)) (pss_cons (ps_par (i := 4) (j := 5) (by rfl) nd rfl rfl (by decide) rfl rfl (pa_cons (pe_mk0K g_Array_superblock hr (by decide) (pv 1)) (pa_cons (pb_lenK K T.b_len (pa_cons (pe_mk0K g_Array_trace hr (by decide) (pv 1)) pa_nil)) pa_nil)) (by rfl))
  (pss_cons (ps_if (pt_cmpR op_isN (pe_ix (ix_tupK K) (pv 4) pe_int (fun _ _ => rfl)) pe_non (nomark _)) (pss_one (ps_ret pe_bl)) pss_nil)
  (pss_cons (ps_asg (pe_gkK g_step hr (by decide) (pa_cons (pv 1) pa_nil)) (pg_tupK K 2 rfl (pgs_cons (pg_name (i := 6) nd rfl (Or.inl rfl)) (pgs_cons (pg_name (i := 7) nd rfl (Or.inl rfl)) pgs_nil))))
  (pss_cons (ps_w (ps_setLc (i := 8) (own := [("_law_entry", 9)]) (g := gName 9) (tt := _) rfl nd rfl rfl (sw_true rfl rfl rfl (by decide +kernel)) (pi_listK K (pe_slice (sl_listK K) (pe_mk0K g_Array_trace hr (by decide) (pv 1)) (po_some (pv 5)) po_none)) (blkOk_by (N := ["_law_box_here", "_law_host", "_law_worths", "_law_time", "_law_head", "_law_begin", "_law_line", "_law_critical", "_law_words", "_law_entry"]) (sc := defScope s_L_right) (by decide +kernel)) (fun _ _ _ _ _ => (pg_name (i := 9) nd rfl (Or.inl rfl))) (fun _ _ _ _ _ => (pts_one (pt_cmpR op_eq (pe_ix (ix_tupK K) (pv 9) pe_int (fun _ _ => rfl)) pe_str (nomark _)))) (fun _ _ _ _ _ => (pe_ix (ix_tupK K) (pv 9) pe_int (fun _ _ => rfl)))))
  (pss_cons (ps_if (PW.pt (pw_or (pt_cmpR op_ne (pv 7) (pe_cmp (pc_din (hu_of hr) (pv 6) (pe_gkK g_L_used hr (by decide) (pa_cons (pv 4) pa_nil)))) (nomark _)) (pw_or1 (pt_cmpR op_ne (pv 7) (pe_cmpR (op_inK K) pe_str (pv 8) (by rfl)) (nomark _))))) (pss_one (ps_ret pe_bl)) pss_nil)
  (pss_cons (ps_if (PW.pt (pw_and (pt_val (pv 7)) (pw_and1 (pt_not (pt_val (pe_gkK g_L_aside_right hr (by decide) (pa_cons (pv 1) (pa_cons (pv 5) (pa_cons (pv 6) (pa_cons (pv 4) (pa_cons (pv 2) pa_nil))))))))))) (pss_one (ps_ret pe_bl)) pss_nil)
  (pss_one (ps_if (PW.pt (pw_and (pt_not (pt_val (pv 7))) (pw_and1 (pt_not (pt_val (pe_ggK g_L_plain_right hg hr (by decide) (pa_cons (pv 0) (pa_cons (pv 1) (pa_cons (pv 5) (pa_cons (pv 4) (pa_cons (pv 2) pa_nil))))))))))) (pss_one (ps_ret pe_bl)) pss_nil))))))))))
  (pss_one (ps_ret pe_bl)))))), ?_⟩
  obtain ⟨bx, n, rfl, hb, hn, tab, q⟩ := h
  walk_at "go"
  refine ⟨bx, n, rfl, hb, by omega, tab, fun p H1 A S R ws wl hfr m1 hw1 hmv hdl hp => ?_⟩
  refine ⟨_, _, rfl, hp, rfl, ?_⟩
  walk_at "go"
  refine ⟨bx, _, 3, 6, rfl, hw1.box, by decide, by decide, by omega, fun l v H2 l3 l6 m2 hb2 hv => ?_⟩
  have hw2 := hw1.mvb m2 hb2
  walk_at "go"
  refine ⟨A, S, R, v, l, rfl, hw2.arr, hw2.wf.ce, hmv, hv, ⟨l3, l6⟩, hw2.wf.br, by omega, fun H3 m3 ha3 => ?_⟩
  have hw3 := hw2.op m3 ha3 (change_wf hw2.wf hmv ⟨l3, l6⟩)
  have hln3 := goOn_len S (.all (begunS S.sb l))
  generalize goOn S (.all (begunS S.sb l)) = S3 at hw3 hln3
  walk_at "go"
  refine ⟨bx, _, 10, rfl, hw3.box, by decide, by decide, by omega, fun many H4 k0 k1 m4 hb4 => ?_⟩
  have hw4 := hw3.mvb m4 hb4
  walk_at "go"
  refine ⟨A, S3, R, ws, wl, bx, _, many, rfl, hw4, k0, by omega, by omega, by omega, fun H5 S5 ws5 hw5 m5 hln5 => ?_⟩
  have m15 : Mv K (WF A wl bx) H1 H5 := (m2.sub wf_b).trans ((m3.sub wf_F).trans ((m4.sub wf_b).trans m5))
  have hfin : ∀ H', Mv K (WF A wl bx) H5 H' → TabK K H' → Q (.bl true) H' := fun H' m' t' => by
    refine q H' (m1.fresh (m15.trans m') fun a ha => ?_) t'
    simp only [WF, List.mem_cons] at ha
    rcases ha with z | z | z
    · exact .inl (by simp [z])
    · exact .inr (hfr a (.inr (.inr (.inr z))))
    · exact .inr (hfr a (.inr (.inr (.inl (by simpa only [Ad.F, List.mem_cons] using z)))))
  have hw5 := hw5.le (show n + 100 + 2 + 1 + 10 * many.toNat ≤ 500 by omega)
  walk_at "go"
  refine forG (n := 12) (fun i σ H' => ∃ S' ws' s3 s4 s5 s6 s7 s8 s9, σ = [some (.ref bx), some (.ref A.arr), some (.ref wl), s3, s4, s5, s6, s7, s8, s9] ∧ WAt K H' A S' R ws' wl bx (500 + 1200 * i) ∧ Mv K (WF A wl bx) H5 H' ∧ S'.ce.done.length ≤ 500 + 28 * i)
    ⟨S5, ws5, _, _, _, _, _, _, _, rfl, hw5, .refl, by omega⟩ (fun i σ H' hi _ => by show i < _; exact hi) (fun σ H' _ => by show _ ≤ _; exact Nat.le_refl _) ?_ ?_
  · rintro i σ H6 x H6' hi ⟨S', ws', s3, s4, s5, s6, s7, s8, s9, rfl, hw, m, hlen⟩ ⟨rfl, rfl⟩
    have hH := hw.arr.arr
    walk_at "go"
    refine ⟨A, S', rfl, hw.arr, fun hv hhv => ?_⟩
    walk_at "go"
    refine ⟨A, S', rfl, hw.arr, fun p7 H7 es hp7 e7 hp77 hes => ?_⟩
    have hw7 := hw.same e7
    have hesl : es.length = S'.ce.done.length := by have := hes.length; rwa [List.length_map] at this
    have hhv7 := hhv.same e7
    obtain ⟨ha, xl, y, rfl, hha, hxl, hy⟩ := sb_open hhv7
    cases hmv' : S'.sb.mv with
    | none =>
      rw [tgt_none hmv'] at hy
      obtain rfl : y = .non := hy.non_eq
      walk_at "go"
      exact hfin H7 (m.trans (.of_same e7)) hw7.tab
    | some mm =>
      obtain ⟨t, up⟩ := mm
      rw [tgt_some hmv'] at hy
      obtain ⟨ay, rfl, _⟩ := lay_open hy
      have ht := hw.wf.g.ok.tgt t up hmv'
      obtain ⟨r, hr⟩ : ∃ r, nextRow S'.sb = some r := by unfold nextRow; rw [hmv']; exact ⟨_, rfl⟩
      obtain ⟨_, _, hasd, r0, hrR, _, _⟩ := step_geo hw.wf.g hmv' hr
      have hrr := hrR R hw.wf.br
      have hR20 := hw.wf.ce.r1
      walk_at "go"
      refine ⟨A, S', R, t, up, r, rfl, hw7.arr, hw7.wf.g.ok, hw7.wf.ce, hw7.wf.br, hmv', hr, r0, hrr, by omega, fun sv H8 ps qq hps m8 ha8 hsv => ?_⟩
      have hw8 := hw7.op m8 ha8 (step_wf hw7.wf hmv' hr hps)
      have hlen8 := stepS_len S' r (rowVals S'.sb S'.ce.disks t r) (decide (r ∈ usedL S'.sb)) hw.wf.loose (ps_ne hps) (ps_len ht (rowVals_len _ _ _ _) hps)
      have hE := esS_drop (S := S') (r := r) (vals := rowVals S'.sb S'.ce.disks t r) (c := decide (r ∈ usedL S'.sb)) hw.wf.loose (ps_ne hps)
      obtain ⟨sa, rfl, hsv⟩ := hsv
      have hhv8 := hhv7.mv m8
      have m58 : Mv K (WF A wl bx) H5 H8 := (m.trans (.of_same e7)).trans (m8.sub wf_F)
      have hAs : decide (r ∈ usedL S'.sb) = true → AsideR S'.sb r t ws' (esS S'.sb r (rowVals S'.sb S'.ce.disks t r) true ps) := fun _ => by
        rw [row_eq hw.wf r0 ht]
        exact aside_r hasd
      have hPl : decide (r ∈ usedL S'.sb) = false → PlainR S'.sb (stepS S' r (rowVals S'.sb S'.ce.disks t r) false ps) R ws' S'.ce.done.length ps.length := fun h => plain_r hw.wf hmv' hr hps (of_decide_eq_false h)
      have hany := any_aside (s := S'.sb) (r := r) (vals := rowVals S'.sb S'.ce.disks t r) (c := decide (r ∈ usedL S'.sb)) (ps := ps)
      have hcu := critical_eq hw.wf.g.ok r
      generalize rowVals S'.sb S'.ce.disks t r = vals at hw8 hlen8 hE hAs hPl hany ha8
      generalize hcr : decide (r ∈ usedL S'.sb) = c at hw8 hlen8 hE hAs hPl hany hsv hcu ha8
      generalize hSS : stepS S' r vals c ps = S8 at hw8 hlen8 hE ha8
      have hH8 := hw8.arr.arr
      refine ⟨_, _, rfl, hsv, rfl, ?_⟩
      walk_at "go"
      refine ⟨A, S8, rfl, hw8.arr, fun p9 H9 es9 hp9 e9 hp99 hes9 => ?_⟩
      walk_at "go"
      intro q1 hq1
      have hEl : (esS S'.sb r vals c ps).length ≤ 900 := by rw [← hE, List.length_drop]; omega
      have hE1 : RpL K (upd H9 q1 (.lst (cutV es9 (some (es.length : Int)) none))) (es9.drop S'.ce.done.length) ((esS S'.sb r vals c ps).map En.d) := by
        rw [← hE, List.map_drop]
        exact (hes9.drop _).same (same_new hq1)
      have hq2 : (upd H9 q1 (.lst (cutV es9 (some (es.length : Int)) none))) q1 = some (.lst (es9.drop S'.ce.done.length)) := by rw [upd_same, cut_from, hesl]
      have e10 : Same H8 (upd H9 q1 (.lst (cutV es9 (some (es.length : Int)) none))) := e9.trans (same_new hq1)
      generalize (upd H9 q1 (.lst (cutV es9 (some (es.length : Int)) none))) = H10 at hE1 hq2 e10 ⊢
      walk_at "go"
      refine lc_en isCell En.pl hq2 hE1 (by omega) ?_ ?_
      · intro x e H11 e11 he hrx R2 Z hR hZ
        refine ⟨rfl, ?_⟩
        cases e with
        | flush =>
          obtain ⟨b, x0, rfl, hs, r0⟩ := rp1 hrx
          cases r0
          walk_at "go"
          exact hZ rfl
        | bg b y =>
          obtain ⟨b, x0, x1, x2, rfl, hs, r0, _⟩ := rp3 hrx
          cases r0
          walk_at "go"
          exact hZ rfl
        | dn b =>
          obtain ⟨b, x0, x1, rfl, hs, r0, _⟩ := rp2 hrx
          cases r0
          walk_at "go"
          exact hZ rfl
        | data k r y =>
          obtain ⟨b, x0, x1, x2, x3, rfl, hs, r0, r1, r2, r3⟩ := rp4 hrx
          cases r0
          walk_at "go"
          exact hR rfl _ _ (Same.refl _) r2
        | meta_ k m c =>
          obtain ⟨b, x0, x1, x2, x3, rfl, hs, r0, r1, r2, r3⟩ := rp4 hrx
          cases r0
          walk_at "go"
          exact hR rfl _ _ (Same.refl _) r2
      intro pw pys H11 hpw hpw11 e11 hpys
      obtain ⟨hfl, hin⟩ := words_flat hpys
      rw [hany] at hin
      have e811 := e10.trans e11
      walk_at "go"
      refine ⟨.ref ha, S'.sb, rfl, hhv8.same e811, hw.wf.g.ok, fun u H12 kvs hu e12 hu12 hkv => ?_⟩
      have hsome : (valV kvs (.inl r)).isSome = c := by
        rw [← hcu, Bool.eq_iff_iff, hkv r, decide_eq_true_iff]
      have e812 := e811.trans e12
      have hw12 := hw8.same e812
      have hH12 := hw12.arr.arr
      have hpw12 := e12 _ _ hpw11
      have hhv12 := hhv8.same e812
      have m512 := m58.trans (.of_same e812)
      refine ⟨_, _, rfl, .inl ⟨kvs, .inl r, .inl hu12, rfl, rfl⟩, rfl, ?_⟩
      rw [hsome, show (!decide (V.bl c = V.bl c)) = false from by simp]
      walk_at "go"
      rw [show (if false = true then !inV (.str "aside") pys else inV (.str "aside") pys) = c from hin, show (!decide (V.bl c = V.bl c)) = false from by simp]
      cases c with
      | true =>
        walk_at "go"
        refine ⟨A, S8, ws', wl, .ref ha, S'.sb, S'.ce.done.length, t, up, r, by rw [hesl]; rfl, hw12.arr, hw12.wla, hhv12, hmv', ht, r0, by omega, hw.wf.wl, by have := (len_ws hw.wf).2.1; omega, by omega, by rw [hE]; exact hAs rfl, fun H13 e13 => ?_⟩
        walk_at "go"
        exact ⟨S8, ws', _, _, _, _, _, _, _, rfl, (hw12.same e13).le (by omega), m512.trans (.of_same e13), by omega⟩
      | false =>
        walk_at "go"
        refine ⟨A, S8, R, ws', wl, bx, _, .ref ha, S'.sb, S'.ce.done.length, by rw [hesl]; rfl, hw12, hhv12, ?_, by rw [hE, plain_m, ← hSS]; exact hPl rfl, fun k q x hx hu => ?_, by omega, by omega, fun H13 m13 hb13 => ?_⟩
        · rw [← hSS, (stepS_eq S' r vals false ps hw.wf.loose (ps_ne hps)).2]
          show _ ≤ (S'.ce.done ++ _).length
          rw [List.length_append]
          omega
        · rw [hE] at hx
          rw [plain_u hx, Int.toNat_of_nonneg r0] at hu
          exact absurd hu (of_decide_eq_false hcu)
        · walk_at "go"
          exact ⟨S8, ws', _, _, _, _, _, _, _, rfl, (hw12.mvb m13 hb13).le (by omega), m512.trans (m13.sub wf_b), by omega⟩
  · rintro σ H' ⟨S', ws', s3, s4, s5, s6, s7, s8, s9, rfl, hw, m, hlen⟩
    walk_at "go"
    exact hfin H' m hw.tab


end
end WS
set_option Elab.async false
set_option linter.all false
set_option maxRecDepth 100000
set_option maxHeartbeats 4000000
namespace WS
open PySem PySem.Spec PyProof.Rows L2
local macro_rules | `(tactic| walk_at "tdg") => `(tactic| first | (apply tdg0; walk_at "at") | (apply tdg1; walk_at "at") | (apply tdg2; walk_at "at") | (apply tdg3; walk_at "at") | (apply tdg4; walk_at "at") | (apply tdg5; walk_at "at") | (apply tdg6; walk_at "at") | (apply tdg7; walk_at "at") | (apply tdg8; walk_at "at"))
local macro_rules | `(tactic| walk_at "no") => `(tactic| first | assumption | (apply no_by; assumption; walk_at "sm"))
local macro_rules | `(tactic| walk_at "sm") => `(tactic| first | exact Same.refl _ | assumption | (apply same_up; walk_at "no"; walk_at "sm") | (apply same_by; assumption; walk_at "sm"))
local macro_rules | `(tactic| walk_at "tk") => `(tactic| first | exact TK.refl | assumption | (apply tk_up; walk_at "no"; walk_at "tk") | (apply tk_by; assumption; walk_at "tk") | (apply tk_mv; assumption; walk_at "tk"))
local macro_rules | `(tactic| walk_at "mv") => `(tactic| first | exact Mv.refl | assumption | (apply mv_up; walk_at "no"; walk_at "mv") | (apply mv_mv; assumption; walk_at "mv") | (apply mv_by; assumption; walk_at "mv"))
local macro_rules | `(tactic| walk_at "ne") => `(tactic| first | assumption | (refine Ne.symm ?_; assumption))
local macro_rules | `(tactic| walk_at "at") => `(tactic| first | assumption | exact upd_same | (apply at_new; walk_at "no"; walk_at "at") | (apply at_ne; walk_at "ne"; walk_at "at") | (apply at_same; assumption; walk_at "at") | (apply at_mv; assumption; assumption; walk_at "at"))
local macro_rules | `(tactic| walk_at "rp") => `(tactic| first | assumption | exact Rp.non | exact Rp.int _ | exact Rp.str _ | (apply rp_tk; assumption; walk_at "tk"))
local macro_rules | `(tactic| walk_at "sq") => `(tactic| first | assumption | exact (‹Tx _ _›).t_METAS _ | exact (‹Tx _ _›).t_FIELDS _ | exact (‹Tx _ _›).t_LEFT _ | exact (‹Tx _ _›).t_SYMMETRIC _ | (apply SqT.of; walk_at "at") | (apply SqL.of; walk_at "at") | (apply sqt_tk; assumption; walk_at "tk") | (apply sql_sm; assumption; walk_at "sm"))
local macro_rules | `(tactic| walk_at "sd") => `(tactic| first | rfl | omega | assumption | decide)
local macro_rules | `(tactic| walk_at "fld") => `(tactic| first | refine ⟨_, _, _, _, _, rfl, (by walk_at "at" : _ = some _), (‹Tx _ _›).c_Cells, (‹Tx _ _›).n_Cells_disks, rfl, ?_⟩ | refine ⟨_, _, _, _, _, rfl, (by walk_at "at" : _ = some _), (‹Tx _ _›).c_Cells, (‹Tx _ _›).n_Cells_done, rfl, ?_⟩ | refine ⟨_, _, _, _, _, rfl, (by walk_at "at" : _ = some _), (‹Tx _ _›).c_Cells, (‹Tx _ _›).n_Cells_begun, rfl, ?_⟩ | refine ⟨_, _, _, _, _, rfl, (by walk_at "at" : _ = some _), (‹Tx _ _›).c_Cells, (‹Tx _ _›).n_Cells_is_loose, rfl, ?_⟩ | refine ⟨_, _, _, _, _, rfl, (by walk_at "at" : _ = some _), (‹Tx _ _›).c_State, (‹Tx _ _›).n_State_cells, rfl, ?_⟩ | refine ⟨_, _, _, _, _, rfl, (by walk_at "at" : _ = some _), (‹Tx _ _›).c_State, (‹Tx _ _›).n_State_own_superblock, rfl, ?_⟩ | refine ⟨_, _, _, _, _, rfl, (by walk_at "at" : _ = some _), (‹Tx _ _›).c_Array, (‹Tx _ _›).n_Array_state, rfl, ?_⟩)
local macro_rules | `(tactic| walk_at "w") => `(tactic| first | refine ⟨_, rfl, ⟨_, (by walk_at "sq" : SqT _ _ _ _)⟩, ?_⟩ | refine ⟨_, rfl, ⟨_, (by walk_at "sq" : SqL _ _ _ _)⟩, ?_⟩ | refine ⟨_, rfl, ?_⟩ | refine ⟨_, _, rfl, rfl, ?_⟩ | refine ⟨rfl, ?_⟩ | refine ⟨_, _, rfl, (by walk_at "sq" : SqT _ _ _ _), rfl, ?_⟩ | refine ⟨_, _, rfl, (by walk_at "sq" : SqT _ _ _ _), ?_⟩ | refine ⟨_, _, rfl, (by walk_at "sq" : SqL _ _ _ _), ?_⟩ | refine ⟨_, _, rfl, (by walk_at "tdg" : DGet _ _ _ _), ?_⟩ | refine ⟨_, _, rfl, ?_⟩ | refine ⟨_, _, _, _, rfl, rfl, (by walk_at "sq" : SqT _ _ _ _), rfl, ?_⟩ | refine ⟨_, _, rfl, .inl (by walk_at "sq" : SqL _ _ _ _), rfl, rfl, ?_⟩ | refine ⟨_, _, rfl, .inr (by walk_at "sq" : SqT _ _ _ _), rfl, rfl, ?_⟩ | refine ⟨_, _, rfl, .inl (by walk_at "sq" : SqL _ _ _ _), ?_⟩ | refine ⟨_, _, rfl, .inr (by walk_at "sq" : SqT _ _ _ _), ?_⟩ | refine ⟨_, _, rfl, (by walk_at "at" : _ = some (HO.dK _)), ?_⟩ | refine ⟨_, _, _, _, rfl, rfl, (by walk_at "sq" : SqL _ _ _ _), rfl, ?_⟩ | refine ⟨_, _, _, rfl, (by walk_at "at" : _ = some _), rfl, ?_⟩ | refine ⟨_, _, _, rfl, ?_⟩ | walk_at "fld" | refine ty_d (by walk_at "at") ?_ | refine ty_l (by walk_at "sq") ?_ | refine ty_t (‹Tx _ _›).z_FIELDS ?_ | refine And.intro (by first | omega | decide | exact Nat.le_of_ble_eq_true rfl | (unfold CDiv; omega) | (unfold CMul; omega)) ?_)
local macro_rules | `(tactic| walk_at "go") => `(tactic| repeat walk_at "w")
section
variable {P : Program} {w : World} {K : PySem.W.Frag} {mg : Str → Option Value} {base : Heap}

def sp_law (K : PySem.W.Frag) : Sp := fun vs H Q _ => ∃ (a : Addr) (ns : List Int), vs = [.ref a] ∧ SqL K H a (ns.map V.int) ∧ ns.length ≤ 63 ∧ TabK K H ∧ ∀ H', Q (.bl true) H'

theorem ok_law (T : Tx K mg) (g_L_box : GK P w K mg base "_law_box" ["_law_script", "_law_k"] 2 (sp_L_box K) []) (g_L_right : GG P w K mg base "_law_right" ["_law_box_here"] 16 (sp_L_right K)) : GG P w K mg base "law" ["_law_script"] 17 (sp_law K) := gg_mk T.f_law T.m_law (by decide +kernel) sc_law (fun _ _ _ _ _ _ us hl => match us, hl with | [_], _ => rfl) (fun _ _ _ _ h => by obtain ⟨_, _, rfl, _⟩ := h; rfl) fun cdv A outer s H vs Q E hg hr h => by
  have nd := sc_law.nd
  refine ⟨_, (pss_cons (ps_wf (ps_for PassesOwn.never rfl (pi_range1 rfl T.b_range (pa_cons (pe_op op_add pe_int (pb_min2 T.b_min (pa_cons pe_int (pa_cons (pb_lenK K T.b_len (pa_cons (pv 0) pa_nil)) pa_nil)))) pa_nil)) (pg_name (i := 1) nd rfl (Or.inl rfl)) (pss_cons (ps_set (i := 2) nd rfl (Or.inr rfl) (pe_gkK g_L_box hr (by decide) (pa_cons (pv 0) (pa_cons (pv 1) pa_nil))))
  (pss_one (ps_if (pt_not (pt_val (pb_all T.b_all (pa_cons (pe_w (pe_lc (own := [("_law_time", 3)]) (g := gName 3) (tt := tYes) rfl nd (pi_range1 rfl T.b_range (pa_cons pe_int pa_nil)) (blkOk_by (N := ["_law_script", "_law_k", "_law_box_here", "_law_time"]) (sc := defScope s_law) (by decide +kernel)) (fun _ _ _ _ _ => (pg_name (i := 3) nd rfl (Or.inl rfl))) (fun _ _ _ _ _ => pts_nil) (fun _ _ _ _ _ => (pe_ggK g_L_right hg hr (by decide) (pa_cons (pv 2) pa_nil))))) pa_nil)))) (pss_one (ps_ret pe_bl)) pss_nil)))))
  (pss_one (ps_ret pe_bl))), ?_⟩
  obtain ⟨a, ns, rfl, hs, hl, tab, q⟩ := h
  obtain ⟨o, hso, ho⟩ : ∃ o : Option HO, (∀ H', (∀ u, o = some u → H' a = some u) → SqL K H' a (ns.map V.int)) ∧ ∀ u, o = some u → H a = some u ∧ a ≠ tabP K := by
    obtain ⟨pt, ht, _⟩ := tab
    rcases hs with (z | ⟨o, z⟩) | z
    · exact ⟨some (.lst (ns.map V.int)), fun H' h => .inl (.inl (h _ rfl)), fun u hu => by cases hu; exact ⟨z, fun y => by rw [y, ht] at z; cases z⟩⟩
    · exact ⟨some _, fun H' h => .inl (.inr ⟨o, h _ rfl⟩), fun u hu => by cases hu; exact ⟨z, fun y => by rw [y, ht] at z; cases z⟩⟩
    · exact ⟨none, fun H' h => .inr z, fun u hu => by cases hu⟩
  walk_at "go"
  generalize hmm : (if ((ns.map V.int).length : Int) < 2 then ((ns.map V.int).length : Int) else 2) = mm
  have hmm2 : mm ≤ 2 := by rw [← hmm]; split <;> omega
  refine forG (n := (1 + mm).toNat) (fun i σ H' => ∃ s1 s2 s3, σ = [some (.ref a), s1, s2, s3] ∧ TabK K H' ∧ ∀ u, o = some u → H' a = some u) ⟨none, none, none, rfl, tab, fun u hu => (ho u hu).1⟩ (fun i σ H' hi _ => by show i < _; exact hi) (fun σ H' _ => by show _ ≤ _; exact Nat.le_refl _) ?_ ?_
  · rintro i σ H1 x H1' hi ⟨s1, s2, s3, rfl, tab1, ho1⟩ ⟨rfl, rfl⟩
    rw [Int.zero_add]
    walk_at "go"
    refine ⟨a, ns, i, rfl, hso _ ho1, by omega, fun p H2 hp e2 hb => ?_⟩
    have tab2 := tab1.same e2
    have ho2 : ∀ u, o = some u → H2 a = some u := fun u hu => e2 _ _ (ho1 u hu)
    have hpa : ∀ u, o = some u → a ≠ p := fun u hu z => by have := ho1 u hu; rw [z, hp] at this; cases this
    walk_at "go"
    intro D hD
    have hDp : D ≠ p := fun z => by obtain ⟨_, _, _, h1, _⟩ := hb; rw [z, h1] at hD; cases hD
    have hDt : D ≠ tabP K := fun z => by obtain ⟨pt, h1, _⟩ := tab2; rw [z, h1] at hD; cases hD
    have hDa : ∀ u, o = some u → a ≠ D := fun u hu z => by have := ho2 u hu; rw [z, hD] at this; cases this
    have tabD : TabK K (upd H2 D (.lst [])) := tab2.same (same_new hD)
    refine lc_gen (n := 1) (fun j H' => H' D = some (.lst ((List.replicate j true).map V.bl)) ∧ TabK K H' ∧ (∀ u, o = some u → H' a = some u) ∧ (j = 0 → BoxAt H' p 0)) ⟨upd_same, tabD, fun u hu => (same_new hD) _ _ (ho2 u hu), fun _ => hb.same (same_new hD)⟩
      (fun j H' hj _ => by show j < _; exact hj) (fun H' _ => by show _ ≤ _; exact Nat.le_refl _) ?_ ?_
    · rintro j H3 x H3' hj ⟨hD3, tab3, ho3, hb3⟩ ⟨rfl, rfl⟩
      obtain rfl : j = 0 := by omega
      refine ⟨rfl, ?_⟩
      walk_at "go"
      refine ⟨p, 0, rfl, hb3 rfl, by omega, tab3, fun H4 m4 tab4 => ?_⟩
      have hD4 := m4.at hD3 (by simp only [List.mem_cons, List.not_mem_nil, or_false, not_or]; exact ⟨hDp, hDt⟩)
      have m5 : Mv K [D] H4 (upd H4 D (.lst (((List.replicate 0 true).map V.bl) ++ [.bl true]))) := Mv.lst hD4 (by simp)
      refine ⟨_, hD4, Nat.le_of_ble_eq_true rfl, ?_⟩
      exact ⟨upd_same, tab4.mv m5 (by simpa using hDt.symm), fun u hu => m5.at (m4.at (ho3 u hu) (by simp only [List.mem_cons, List.not_mem_nil, or_false, not_or]; exact ⟨hpa u hu, (ho u hu).2⟩)) (by simpa using hDa u hu), fun z => by cases z⟩
    · rintro H3 ⟨hD3, tab3, ho3, _⟩
      walk_at "go"
      first | exact ho3 | exact ⟨tab3, ho3⟩ | exact ⟨_, _, _, rfl, tab3, ho3⟩
  · rintro σ H' ⟨s1, s2, s3, rfl, tab1, ho1⟩
    walk_at "go"
    exact q H'


end
end WS
set_option Elab.async false
set_option linter.all false
set_option maxRecDepth 100000
set_option maxHeartbeats 4000000
namespace WS
open PySem PySem.Spec PyProof.Rows L2
theorem all_law {P : Program} {w : World} {K : PySem.W.Frag} {mg : Str → Option Value} {base : Heap} (T : Tx K mg) (g_tab : LamX.TabB base mg (He.codeOf K ("greatest", none)) (tabP K)) : GG P w K mg base "law" ["_law_script"] 17 (sp_law K) := by
  have g_L_cell_at : GK P w K mg base "_law_cell_at" ["_law_script", "_law_k"] 1 (sp_L_cell_at K) [] := ok_L_cell_at T 
  have g_L_box : GK P w K mg base "_law_box" ["_law_script", "_law_k"] 2 (sp_L_box K) [] := ok_L_box T g_L_cell_at
  have g_Array_superblock : MK P w K mg base "Array" "superblock" ["self"] 1 (sp_Array_superblock K) := ok_Array_superblock T 
  have g_Cells_trace : MK P w K mg base "Cells" "trace" ["self"] 1 (sp_Cells_trace K) := ok_Cells_trace T 
  have g_Array_trace : MK P w K mg base "Array" "trace" ["self"] 2 (sp_Array_trace K) := ok_Array_trace T g_Cells_trace
  have g_L_aside_right : GK P w K mg base "_law_aside_right" ["_law_host", "_law_begin", "_law_line", "_law_head", "_law_worths"] 3 (sp_L_aside_right K) [] := ok_L_aside_right T g_Array_trace
  have g_as_tuples : GK P w K mg base "as_tuples" ["thing"] 8 (sp_as_tuples K) [] := ok_as_tuples T 
  have g_opened : GK P w K mg base "opened" ["disk"] 1 (sp_opened K) [] := ok_opened T 
  have g_Cells_init : IK P w K mg base "Cells" ["self", "image"] 9 (sp_Cells_init K) := ok_Cells_init T g_as_tuples g_opened
  have g_State_init : IK P w K mg base "State" ["self", "cells", "superblock"] 1 (sp_State_init K) := ok_State_init T 
  have g_State_field : MK P w K mg base "State" "field" ["self", "name"] 1 (sp_State_field K) := ok_State_field T 
  have g_State_next_superblock : MK P w K mg base "State" "next_superblock" ["self", "step", "fields"] 2 (sp_State_next_superblock K) := ok_State_next_superblock T g_State_field
  have g_Cells_flush : MK P w K mg base "Cells" "flush" ["self"] 1 (sp_Cells_flush K) := ok_Cells_flush T 
  have g_Cells_there : MK P w K mg base "Cells" "there" ["self", "disk"] 1 (sp_Cells_there K) := ok_Cells_there T 
  have g_Cells_numbers : MK P w K mg base "Cells" "numbers" ["self"] 2 (sp_Cells_numbers K) := ok_Cells_numbers T g_Cells_there
  have g_done_to : GK P w K mg base "done_to" ["disks", "entry"] 1 (sp_done_to K) [] := ok_done_to T 
  have g_Cells_note : MK P w K mg base "Cells" "note" ["self", "entry"] 2 (sp_Cells_note K) := ok_Cells_note T g_done_to
  have g_Cells_put : MK P w K mg base "Cells" "put" ["self", "disk", "place", "contents"] 3 (sp_Cells_put K) := ok_Cells_put T g_Cells_note g_Cells_there
  have g_State_put_super : MK P w K mg base "State" "put_super" ["self", "superblock"] 4 (sp_State_put_super K) := ok_State_put_super T g_Cells_flush g_Cells_numbers g_Cells_put
  have g_aside_values : GK P w K mg base "aside_values" ["state"] 2 (sp_aside_values K) [] := ok_aside_values T g_State_field
  have g_away : GK P w K mg base "away" ["state"] 2 (sp_away K) [] := ok_away T g_Cells_there g_State_field
  have g_finish_row : GK P w K mg base "finish_row" ["state", "values"] 1 (sp_finish_row K) [] := ok_finish_row T 
  have g_Cells_cell : MK P w K mg base "Cells" "cell" ["self", "disk", "place"] 2 (sp_Cells_cell K) := ok_Cells_cell T g_Cells_there
  have g_greatest : GK P w K mg base "greatest" ["cells"] 3 (sp_greatest K) [] := ok_greatest T g_tab g_Cells_cell g_Cells_numbers
  have g_later : GK P w K mg base "later" ["plain", "other"] 1 (sp_later K) [] := ok_later T 
  have g_named : GK P w K mg base "named" ["state", "fields", "gone"] 2 (sp_named K) [] := ok_named T g_State_field
  have g_log_parity : GK P w K mg base "log_parity" ["state", "disk"] 3 (sp_log_parity K) [] := ok_log_parity T g_Cells_cell
  have g_log_parities : GK P w K mg base "log_parities" ["state"] 4 (sp_log_parities K) [] := ok_log_parities T g_Cells_numbers g_log_parity
  have g_play_logs : GK P w K mg base "play_logs" ["state"] 5 (sp_play_logs K) [] := ok_play_logs T g_Cells_flush g_log_parities
  have g_same_everywhere : GK P w K mg base "same_everywhere" ["state"] 4 (sp_same_everywhere K) [] := ok_same_everywhere T g_Cells_cell g_Cells_flush g_Cells_numbers g_Cells_put
  have g_restart : GK P w K mg base "restart" ["image"] 11 (sp_restart K) [] := ok_restart T g_Cells_init g_State_init g_State_next_superblock g_State_put_super g_aside_values g_away g_finish_row g_greatest g_later g_named g_play_logs g_same_everywhere
  have g_Array_init : IK P w K mg base "Array" ["self", "image"] 12 (sp_Array_init K) := ok_Array_init T g_restart
  have g_L_take : GK P w K mg base "_law_take" ["_law_box_here", "_law_many"] 1 (sp_L_take K) [] := ok_L_take T 
  have g_L_pick : GK P w K mg base "_law_pick" ["_law_box_here", "_law_some"] 2 (sp_L_pick K) [] := ok_L_pick T g_L_take
  have g_L_shape : GK P w K mg base "_law_shape" ["_law_box_here", "_law_least", "_law_most"] 3 (sp_L_shape K) [] := ok_L_shape T g_L_pick g_L_take
  have g_L_worth : GK P w K mg base "_law_worth" ["_law_box_here"] 3 (sp_L_worth K) [] := ok_L_worth T g_L_pick g_L_take
  have g_made : GK P w K mg base "made" ["layout", "blocks", "rows", "disks"] 9 (sp_made K) [] := ok_made T g_as_tuples
  have g_State_is_open : MK P w K mg base "State" "is_open" ["self", "disk", "row"] 2 (sp_State_is_open K) := ok_State_is_open T g_Cells_there g_State_field
  have g_State_layout_of : MK P w K mg base "State" "layout_of" ["self", "block"] 2 (sp_State_layout_of K) := ok_State_layout_of T g_State_field
  have g_look_for : GK P w K mg base "look_for" ["array", "block"] 2 (sp_look_for K) [] := ok_look_for T g_State_field
  have g_parity_disk : GK P w K mg base "parity_disk" ["layout", "row"] 1 (sp_parity_disk K) [] := ok_parity_disk T 
  have g_State_good : MK P w K mg base "State" "good" ["self", "disk", "row"] 3 (sp_State_good K) := ok_State_good T g_Cells_cell g_State_is_open
  have g_State_known : MK P w K mg base "State" "known" ["self", "layout", "row", "disk"] 4 (sp_State_known K) := ok_State_known T g_Cells_cell g_State_good
  have g_bad_disks : GK P w K mg base "bad_disks" ["state", "layout", "row"] 4 (sp_bad_disks K) [] := ok_bad_disks T g_State_good
  have g_look_known : GK P w K mg base "look_known" ["state", "layout", "row", "disk"] 5 (sp_look_known K) [.non] := ok_look_known T g_bad_disks
  have g_data_disk : GK P w K mg base "data_disk" ["layout", "row", "place"] 2 (sp_data_disk K) [] := ok_data_disk T g_parity_disk
  have g_place_of : GK P w K mg base "place_of" ["layout", "block"] 3 (sp_place_of K) [] := ok_place_of T g_data_disk
  have g_partial_at : GK P w K mg base "partial_at" ["state", "block"] 6 (sp_partial_at K) [] := ok_partial_at T g_State_known g_State_layout_of g_look_known g_parity_disk g_place_of
  have g_put_data : GK P w K mg base "put_data" ["state", "block", "value"] 4 (sp_put_data K) [] := ok_put_data T g_Cells_put g_State_is_open g_State_layout_of g_place_of
  have g_put_with_parity : GK P w K mg base "put_with_parity" ["state", "block", "value", "rest"] 5 (sp_put_with_parity K) [] := ok_put_with_parity T g_Cells_flush g_Cells_put g_State_field g_State_layout_of g_parity_disk g_place_of g_put_data
  have g_write : GK P w K mg base "write" ["array", "block", "value"] 7 (sp_write K) [] := ok_write T g_Cells_note g_State_is_open g_State_layout_of g_look_for g_parity_disk g_partial_at g_place_of g_put_with_parity
  have g_L_begun : GK P w K mg base "_law_begun" ["_law_box_here", "_law_most", "_law_disks"] 14 (sp_L_begun K) [] := ok_L_begun T g_Array_init g_L_shape g_L_take g_L_worth g_made g_write
  have g_closed : GK P w K mg base "closed" ["cells"] 1 (sp_closed K) [] := ok_closed T 
  have g_Cells_image : MK P w K mg base "Cells" "image" ["self"] 2 (sp_Cells_image K) := ok_Cells_image T g_closed
  have g_Array_image : MK P w K mg base "Array" "image" ["self"] 3 (sp_Array_image K) := ok_Array_image T g_Cells_image
  have g_L_room : GK P w K mg base "_law_room" ["_law_host", "_law_disks"] 4 (sp_L_room K) [] := ok_L_room T g_Array_image g_Array_superblock
  have g_Cells_rows : MK P w K mg base "Cells" "rows" ["self"] 3 (sp_Cells_rows K) := ok_Cells_rows T g_Cells_numbers
  have g_State_go_on : MK P w K mg base "State" "go_on" ["self", "fields"] 5 (sp_State_go_on K) := ok_State_go_on T g_State_next_superblock g_State_put_super
  have g_made_of : GK P w K mg base "made_of" ["found"] 1 (sp_made_of K) [] := ok_made_of T 
  have g_told : GK P w K mg base "told" ["superblock"] 9 (sp_told K) [] := ok_told T g_as_tuples
  have g_begun : GK P w K mg base "begun" ["superblock", "target"] 10 (sp_begun K) [] := ok_begun T g_as_tuples g_made_of g_told
  have g_changes : GK P w K mg base "changes" ["superblock"] 1 (sp_changes K) [] := ok_changes T 
  have g_change : GK P w K mg base "change" ["array", "target"] 11 (sp_change K) [] := ok_change T g_Cells_rows g_Cells_there g_State_field g_State_go_on g_as_tuples g_begun g_changes
  have g_is_over : GK P w K mg base "is_over" ["found"] 1 (sp_is_over K) [] := ok_is_over T 
  have g_ended : GK P w K mg base "ended" ["found"] 2 (sp_ended K) [] := ok_ended T g_is_over
  have g_next_row : GK P w K mg base "next_row" ["superblock"] 10 (sp_next_row K) [] := ok_next_row T g_told
  have g_front_behind : GK P w K mg base "front_behind" ["superblock"] 11 (sp_front_behind K) [] := ok_front_behind T g_next_row g_told
  have g_stepped : GK P w K mg base "stepped" ["superblock"] 12 (sp_stepped K) [] := ok_stepped T g_ended g_front_behind g_made_of g_told
  have g_fields_behind : GK P w K mg base "fields_behind" ["state"] 13 (sp_fields_behind K) [] := ok_fields_behind T g_changes g_stepped
  have g_rows_from : GK P w K mg base "rows_from" ["first", "behind", "wide"] 1 (sp_rows_from K) [] := ok_rows_from T 
  have g_rows_in_use : GK P w K mg base "rows_in_use" ["superblock"] 10 (sp_rows_in_use K) [] := ok_rows_in_use T g_rows_from g_told
  have g_is_critical : GK P w K mg base "is_critical" ["superblock"] 11 (sp_is_critical K) [] := ok_is_critical T g_next_row g_rows_in_use
  have g_put_aside : GK P w K mg base "put_aside" ["state", "row", "values"] 6 (sp_put_aside K) [] := ok_put_aside T g_Cells_flush g_Cells_numbers g_Cells_put g_State_field g_State_go_on
  have g_row_cells : GK P w K mg base "row_cells" ["layout", "row", "values"] 3 (sp_row_cells K) [] := ok_row_cells T g_data_disk g_parity_disk
  have g_State_value : MK P w K mg base "State" "value" ["self", "block"] 5 (sp_State_value K) := ok_State_value T g_State_known g_State_layout_of g_place_of
  have g_row_values : GK P w K mg base "row_values" ["state", "row"] 6 (sp_row_values K) [] := ok_row_values T g_State_field g_State_value
  have g_step : GK P w K mg base "step" ["array"] 14 (sp_step K) [] := ok_step T g_Cells_flush g_Cells_put g_State_field g_State_go_on g_State_is_open g_fields_behind g_is_critical g_next_row g_put_aside g_row_cells g_row_values
  have g_turned : GK P w K mg base "turned" ["superblock"] 10 (sp_turned K) [] := ok_turned T g_ended g_made_of g_told
  have g_turn : GK P w K mg base "turn" ["array"] 11 (sp_turn K) [] := ok_turn T g_State_field g_State_go_on g_changes g_turned
  have g_L_moved : GK P w K mg base "_law_moved" ["_law_box_here", "_law_host", "_law_worths", "_law_disks", "_law_many"] 15 (sp_L_moved K) [] := ok_L_moved T g_Array_superblock g_L_room g_L_shape g_L_take g_L_worth g_change g_step g_turn g_write
  have g_loose_at : GK P w K mg base "loose_at" ["trace", "after"] 1 (sp_loose_at K) [] := ok_loose_at T 
  have g_image_after : GK P w K mg base "image_after" ["image", "trace", "after", "kept"] 9 (sp_image_after K) [] := ok_image_after T g_as_tuples g_closed g_done_to g_loose_at g_opened
  have g_Array_cut : MK P w K mg base "Array" "cut" ["self", "after", "kept"] 10 (sp_Array_cut K) := ok_Array_cut T g_image_after
  have g_L_kept : GK P w K mg base "_law_kept" ["_law_box_here", "_law_loose"] 3 (sp_L_kept K) [] := ok_L_kept T g_L_pick g_L_take
  have g_L_same : GG P w K mg base "_law_same" ["_law_found", "_law_due"] 1 (sp_L_same K) := ok_L_same T 
  have g_L_cell : GK P w K mg base "_law_cell" ["_law_film", "_law_head", "_law_disk", "_law_line"] 1 (sp_L_cell K) [] := ok_L_cell T 
  have g_L_known : GK P w K mg base "_law_known" ["_law_film", "_law_head", "_law_shape_here", "_law_spot_here"] 2 (sp_L_known K) [] := ok_L_known T g_L_cell
  have g_L_of : GK P w K mg base "_law_of" ["_law_head", "_law_its"] 1 (sp_L_of K) [] := ok_L_of T 
  have g_L_parity : GK P w K mg base "_law_parity" ["_law_shape_here", "_law_line"] 1 (sp_L_parity K) [] := ok_L_parity T 
  have g_L_spot : GK P w K mg base "_law_spot" ["_law_shape_here", "_law_its"] 2 (sp_L_spot K) [] := ok_L_spot T g_L_parity
  have g_L_told : GK P w K mg base "_law_told" ["_law_film", "_law_head"] 3 (sp_L_told K) [] := ok_L_told T g_L_known g_L_of g_L_spot
  have g_L_used : GK P w K mg base "_law_used" ["_law_head"] 2 (sp_L_used K) [] := ok_L_used T g_L_of
  have g_L_plain_right : GG P w K mg base "_law_plain_right" ["_law_box_here", "_law_host", "_law_begin", "_law_head", "_law_worths"] 11 (sp_L_plain_right K) := ok_L_plain_right T g_Array_cut g_Array_image g_Array_superblock g_Array_trace g_L_kept g_L_same g_L_take g_L_told g_L_used g_loose_at
  have g_L_right : GG P w K mg base "_law_right" ["_law_box_here"] 16 (sp_L_right K) := ok_L_right T g_Array_superblock g_Array_trace g_L_aside_right g_L_begun g_L_moved g_L_plain_right g_L_shape g_L_take g_L_used g_change g_step
  have g_law : GG P w K mg base "law" ["_law_script"] 17 (sp_law K) := ok_law T g_L_box g_L_right
  exact g_law
end WS
set_option Elab.async false
set_option linter.all false
set_option maxRecDepth 100000
set_option maxHeartbeats 4000000
/-! the end: the law's def is called where nothing is being shown -/
namespace WS
open PySem PySem.Spec PyProof.Rows L2
/-- what is followed at the call: the table, and the script unless it is written -/
def atCall (K : PySem.W.Frag) (T a : Addr) (o : Obj) (xs : List V) : Hp := fun b => if b = T then some (.tbl #[]) else if b = a ∧ K.lookup a = none then some (.frz o (.lst xs)) else none
theorem law_go {P : Program} {w : World} {K : PySem.W.Frag} {mg mb : Str → Option Value} {k : Nat} {a c T : Addr} {z x : Str} {sp : Sp} {s : Shared} {vs : List Value} {ns : List Int}
    (kin : K.In s.heap) (gns : s.heap.Ns mainGlobals mg) (bns : s.heap.Ns builtinsNs mb) (bboot : ∀ y : Str, y ≠ "__name__" → mb y = bootBuiltins y) (nolim : s.heap.NoLimit) (nogen : s.gens = #[])
    (tab : s.heap.get? T = some { cls := .none, data := .fields #[] }) (tabK : K.lookup T = none) (chd : PySem.W.codeHdIn K c T = true)
    (main : ∃ (m : Addr) (o : Obj), mg "__builtins__" = some (.ref m) ∧ m ≠ builtinsNs ∧ s.heap.get? m = some o ∧ o.cls = .type "module" ∧ o.dict = some builtinsNs ∧ o.data = .plain)
    (scr : s.heap.get? a = some { cls := .type "list", data := .seq vs.toArray }) (nums : IntsAre vs ns) (short : ns.length ≤ sizeLine) (room : Room k callerA)
    (F : ∀ base : Heap, K.In base → base.Ns mainGlobals mg → LamX.TabB base mg c T → GG P w K mg base z [x] k sp)
    (law : ∀ H : Hp, H T = some (.tbl #[]) → SqL K H a (ns.map V.int) → sp [.ref a] H (fun v _ => v = .bl true) E0) :
    codeAny (model P w) callerA (.call (.ref (He.ga K z)) ⟨[.ref a], []⟩) (fun r s' => r = .ok (.ret (.bool true)) ∧ OldK s.heap s'.heap ∧ s'.os = s.os ∧ AllBare s'.gens) s := by
  obtain ⟨sc, hsc⟩ : ∃ sc : Obj, sc = { cls := .type "list", data := .seq vs.toArray } := ⟨_, rfl⟩
  have rel := vals_ints nums
  have nlen := nums.length
  have neT : a ≠ T := fun z => by rw [z, tab] at scr; cases scr
  obtain ⟨H, hH⟩ : ∃ H, H = atCall K T a sc (ns.map V.int) := ⟨_, rfl⟩
  have HT : H T = some (.tbl #[]) := by rw [hH]; exact if_pos rfl
  have Hof : ∀ b u, H b = some u → (b = T ∧ u = .tbl #[]) ∨ (b = a ∧ K.lookup a = none ∧ u = .frz sc (.lst (ns.map V.int))) := fun b u e => by
    rw [hH] at e
    unfold atCall at e
    by_cases h1 : b = T
    · rw [if_pos h1] at e; exact .inl ⟨h1, (Option.some.inj e).symm⟩
    · rw [if_neg h1] at e
      by_cases h2 : b = a ∧ K.lookup a = none
      · rw [if_pos h2] at e; exact .inr ⟨h2.1, h2.2, (Option.some.inj e).symm⟩
      · rw [if_neg h2] at e; cases e
  have objOk : HOk P w H s.heap := fun b u e => by
    rcases Hof b u e with ⟨rfl, rfl⟩ | ⟨rfl, _, rfl⟩
    · exact tab
    · exact ⟨by rw [hsc]; exact scr, by rw [List.length_map]; exact short, vs, _, rel, scr⟩
  have seq : SqL K H a (ns.map V.int) := by
    cases hk : K.lookup a with
    | some o =>
      have e := kin a o hk
      rw [scr] at e
      cases e
      exact .inr ⟨_, vs.toArray, _, hk, rfl, rfl, rfl, by rw [List.size_toArray, nlen]; exact short, by simpa using rel⟩
    | none => exact .inl (.inr ⟨sc, by rw [hH]; unfold atCall; rw [if_neg neT, if_pos ⟨rfl, hk⟩]⟩)
  have out : ∀ {b : Addr} {o : Obj}, s.heap.get? b = some o → (∀ ws n, o.data ≠ .seq ws n) → o.data ≠ .fields #[] → H b = none := fun {b o} e n1 n2 => by
    cases q : H b with
    | none => rfl
    | some u =>
      rcases Hof b u q with ⟨rfl, _⟩ | ⟨rfl, _, _⟩
      · rw [tab] at e; cases e; exact absurd rfl n2
      · rw [scr] at e; cases e; exact absurd rfl (n1 _ _)
  have inK : K.In (hidT s.heap H) := fun b o e => hidT_get (kin b o e) (by
    cases q : H b with
    | none => rfl
    | some u =>
      rcases Hof b u q with ⟨rfl, _⟩ | ⟨rfl, z, _⟩
      · rw [tabK] at e; cases e
      · rw [z] at e; cases e)
  have dictNs : ∀ {b : Addr} {m : Str → Option Value}, s.heap.Ns b m → (hidT s.heap H).Ns b m := fun {b m} ⟨o, es, ep, e, d, q⟩ => ⟨o, es, ep, hidT_get e (out e (fun ws n z => by rw [d] at z; cases z) fun z => by rw [d] at z; cases z), d, q⟩
  have modul : L2.Mod K mg (hidT s.heap H) := ⟨inK, dictNs gns, ⟨mb, dictNs bns, bboot⟩, by obtain ⟨mc, h1, h2⟩ := nolim; exact ⟨mc, dictNs h1, h2⟩⟩
  have neG : mainGlobals ≠ T := fun z => by
    obtain ⟨o, es, ep, e, d, _⟩ := gns
    rw [z, tab] at e
    cases e
    cases d
  have bm : (hidT s.heap H).BuiltinsAt mg T := by
    obtain ⟨m, o, m1, m2, m3, m4, m5, m6⟩ := main
    refine ⟨m, o, m1, m2, fun z => ?_, fun z => ?_, hidT_get m3 (out m3 (fun ws n z => by rw [m6] at z; cases z) fun z => by rw [m6] at z; cases z), m4, m5, m6⟩
    · obtain ⟨o', es, ep, e, d, _⟩ := gns
      rw [z, e] at m3
      cases m3
      rw [d] at m6
      cases m6
    · rw [z, tab] at m3
      cases m3
      cases m6
  have env : Env0 P w K mg (hidT s.heap H) callerA [] s H := ⟨rfl, modul, fun b o e => of_hidT e, Nat.le_of_eq (hidT_size _ _), trivial, fun b hb => absurd (show b ∈ ([] : List Addr) from hb) (by simp), objOk, .of_eq nogen⟩
  obtain ⟨fd, fn, hbind⟩ := (F _ inK (dictNs gns) ⟨PySem.W.codeHd_of_K inK chd, bm, neG⟩).ex
  have bind := hbind s [.ref a] kin rfl
  refine codeAny_mono (fn.run callerA [] s H ⟨[.ref a], []⟩ [.ref a] [.ref a] _ rfl room env bind (.cons rfl .nil) (law H HT seq)) fun r s' res => ?_
  rcases r with e | fl
  · exact (show False from res).elim
  · cases fl with
    | ret u =>
      obtain ⟨v, H', os, bare, un, ok', rv, hv⟩ := res
      have hv : v = .bl true := hv
      subst hv
      obtain rfl : u = Value.bool true := rv
      obtain ⟨more, hT'⟩ := un.tbls T #[] HT
      have tab' : s'.heap.get? T = some { cls := .none, data := .fields (#[] ++ more) } := ok' T _ hT'
      have stay : ∀ b o, b ≠ T → s.heap.get? b = some o → s'.heap.get? b = some o := fun b o nb e => by
        cases q : H b with
        | none => exact un.keep b o e q (fun z => absurd (show b ∈ ([] : List Addr) from z) (by simp)) (by simp)
        | some u =>
          rcases Hof b u q with ⟨z, _⟩ | ⟨_, _, z⟩
          · exact absurd z nb
          · rw [z] at q
            have e1 := (objOk b _ q).1
            have e2 := (ok' b _ (un.frzs b _ _ q)).1
            rw [e] at e1
            cases e1
            exact e2
      refine ⟨rfl, ⟨fun b o e => ?_, fun b o e => ?_⟩, os, bare⟩
      · by_cases hb : b = T
        · subst hb
          rw [tab] at e
          cases e
          exact .inr (.inl ⟨((PySem.W.codeHd_of_K kin chd).tab tab).isCodeTable, rfl, #[], more, rfl, tab'⟩)
        · exact .inl (stay b o hb e)
      · by_cases hb : b = T
        · subst hb; exact ⟨_, tab'⟩
        · exact ⟨o, stay b o hb e⟩
    | _ => exact res.elim
end WS
set_option Elab.async false
set_option linter.all false
set_option maxRecDepth 100000
set_option maxHeartbeats 0
namespace WS
open PySem PySem.W PySem.Calls PyProof.Rows
theorem f_walk (loose : List PySem.Str) (XP : (PySem.Str → Option Value) → Heap → Prop) : WalkO qv loose XP hk.says (OpenLaw.row PySem.Challenge.rw_widerstripes_k93_whole_plain_steps_touch).toRowW lawD [] (fun f vs => PySem.call f vs) := by
  refine Att.attach_callB (l := PySem.Challenge.rw_widerstripes_k93_whole_plain_steps_touch) (n := 63) rfl f_dfl fun w s₀ s₁ mg mb fa o pm cd doc a vs ns G Y ho hd hcd hmg0 hobj hints hlen hbits hg => ?_
  obtain ⟨K, KX, c⟩ := Y
  have tx : Tx K mg := tx_of KX G.T.g c
  have hmg : mg ("law" : PySem.Str) = some (.ref fa) := by
    rw [← f_name]
    exact hmg0
  obtain rfl : fa = He.ga K "law" := by
    have e := hmg.symm.trans tx.m_law
    injection e with e
    injection e
  have mem : (("greatest", none) : He.Defn) ∈ tf := List.mem_singleton.mpr rfl
  exact law_go (k := 17) (sp := sp_law K) (c := He.codeOf K ("greatest", none)) (T := tabP K) KX G.T.g G.T.b G.T.builtins G.T.nolimit hg (c.empty _ mem) (c.out _ mem) (c.hd _ mem) G.T.bmain hobj hints (Nat.le_trans hlen (by decide)) ⟨rfl, by decide, by decide⟩
    (fun base inK gns tb => all_law tx tb) fun H hT hS => ⟨a, ns, rfl, hS, hlen, LamX.TabS.nil hT, fun _ => rfl⟩
end WS
set_option Elab.async false
set_option linter.all false
set_option maxRecDepth 100000
open PySem PySem.W PySem.Calls PyProof.Rows
set_option maxRecDepth 100000 in
set_option maxHeartbeats 0 in
theorem PySem.Challenge.cw_widerstripes_k93_whole_plain_steps_touch_holds : PySem.Challenge.rw_widerstripes_k93_whole_plain_steps_touch.Holds := by
  w_on; o_law
  refine HandSHeadRun.head_any (r := WS.R) (q := WS.qv) (H := WS.hk) (ob := WS.ob) (M := 30000) (loose := WS.nm) (d := WS.lawD) (kwd := []) WS.ob_eq WS.f_open WS.f_fence WS.run WS.f_def WS.f_the WS.f_kw WS.f_wr (by first | assumption | decide +kernel) WS.f_ok WS.f_bare ?hw (WS.f_walk _ _)
  case hw => w_witness2
