import PyProof.Rows.All
import Wide.All
import OpenK.AllK
import Wide.FinOn
import KE.KStateDown
import Lean
import HandS.ForMost
import HandS.Wide
import HandS.Defaults
import HandS.Evl
import HandS.Style
import HandS.Conv
import HandS.IsInst
import HandS.Rev
import HandS.TupAny
import HandS.Head0
import HandS.Head1
import HandS.Head2
import HandS.HeadEnd
import HandS.HeadHook1
import HandS.HeadHook2
import PySem.Challenge.RW_oneleash_k68_whole_three_lines
import HandS.Steps
set_option Elab.async false
set_option linter.all false
set_option maxRecDepth 100000
set_option maxHeartbeats 0
/-! the text by places, the defs as data, the head's facts -/
namespace G
open PySem PySem.Spec PyProof.Rows L2
def top (i : Nat) : Stmt := PySem.Challenge.pw_oneleash_k68_whole_three_lines.main.body.getD i (.Pass ⟨0, 0, 0, 0⟩)
abbrev s_is_whole : Stmt := top 7
abbrev s_divisor : Stmt := top 8
abbrev s_ratio : Stmt := top 9
abbrev s_is_ratio : Stmt := top 10
abbrev s_plus : Stmt := top 11
abbrev s_minus : Stmt := top 12
abbrev s_times : Stmt := top 13
abbrev s_over : Stmt := top 14
abbrev s_less : Stmt := top 15
abbrev s_floor_of : Stmt := top 16
abbrev s_stretched : Stmt := top 18
abbrev s_curve_of : Stmt := top 19
abbrev s_worth : Stmt := top 20
abbrev s_nearest_part : Stmt := top 21
abbrev s_least_worth : Stmt := top 22
abbrev s_meeting_part : Stmt := top 23
abbrev s_crossing : Stmt := top 24
abbrev s_barred : Stmt := top 25
abbrev s_greater : Stmt := top 26
abbrev s_lesser : Stmt := top 27
abbrev s_look_at_square : Stmt := top 29
abbrev s_last_of : Stmt := top 31
abbrev s_is_place : Stmt := top 33
abbrev s_look_at_place : Stmt := top 34
abbrev s_ends_of : Stmt := top 35
abbrev s_point_at : Stmt := top 36
abbrev s_square_between : Stmt := top 37
abbrev s_square_of : Stmt := top 38
abbrev s_foot_on : Stmt := top 39
abbrev s_least_along : Stmt := top 40
abbrev s_is_barred : Stmt := top 42
abbrev s_least_up : Stmt := top 43
abbrev s_least_right : Stmt := top 44
abbrev s_barred_spots : Stmt := top 45
abbrev s_bars_of : Stmt := top 46
abbrev s_way_back : Stmt := top 47
abbrev s_fence_freely : Stmt := top 48
abbrev s_gates_from : Stmt := top 49
abbrev s_fields_come_to : Stmt := top 50
abbrev s_walk_freely : Stmt := top 51
abbrev s_go_free : Stmt := top 52
abbrev s_Cells_init : Stmt := inClass (top 54) 0
abbrev s_Cells_apart : Stmt := inClass (top 54) 1
abbrev s_Cells_pair_told : Stmt := inClass (top 54) 2
abbrev s_Cells_row_of : Stmt := inClass (top 54) 3
abbrev s_Cells_column_of : Stmt := inClass (top 54) 4
abbrev s_lets_by : Stmt := top 55
abbrev s_parts_of : Stmt := top 56
abbrev s_place_of : Stmt := top 57
abbrev s_Barrier_init : Stmt := inClass (top 59) 0
abbrev s_Barrier_is_far : Stmt := inClass (top 59) 1
abbrev s_Barrier_is_pair : Stmt := inClass (top 59) 2
abbrev s_Barrier_steps : Stmt := inClass (top 59) 3
abbrev s_Barrier_steps_down : Stmt := inClass (top 59) 4
abbrev s_Barrier_steps_over : Stmt := inClass (top 59) 5
abbrev s_Barrier_steps_back : Stmt := inClass (top 59) 6
abbrev s_told_way : Stmt := top 60
abbrev s_fence_of : Stmt := top 61
abbrev s_Reach_init : Stmt := inClass (top 63) 0
abbrev s_Reach_starts_in : Stmt := inClass (top 63) 1
abbrev s_Reach_go_right : Stmt := inClass (top 63) 2
abbrev s_Reach_go_up : Stmt := inClass (top 63) 3
abbrev s_Reach_comes_into : Stmt := inClass (top 63) 4
abbrev s_upright_run : Stmt := top 64
abbrev s_level_run : Stmt := top 65
abbrev s_way_into : Stmt := top 66
abbrev s_walk_on : Stmt := top 67
abbrev s_walk_part : Stmt := top 68
abbrev s_on_walk : Stmt := top 70
abbrev s_on_fence : Stmt := top 71
abbrev s_part_walk : Stmt := top 72
abbrev s_part_fence : Stmt := top 73
abbrev s_go_on : Stmt := top 74
abbrev s_go_part : Stmt := top 75
abbrev s_squares_of : Stmt := top 77
abbrev s_reached : Stmt := top 78
abbrev s_traced : Stmt := top 79
abbrev s_far_pairs : Stmt := top 80
abbrev s_may_follow : Stmt := top 81
abbrev s_fence_among : Stmt := top 82
abbrev s_hop_walk : Stmt := top 83
abbrev s_hop_fence : Stmt := top 84
abbrev s_go_hops : Stmt := top 85
abbrev s_is_way : Stmt := top 87
abbrev s_look_at_way : Stmt := top 88
abbrev s_merged : Stmt := top 90
abbrev s_rising : Stmt := top 91
abbrev s_corner_squares : Stmt := top 92
abbrev s_stretch_squares : Stmt := top 93
abbrev s_candidates : Stmt := top 94
abbrev s_go_by : Stmt := top 95
abbrev s_fence_by : Stmt := top 96
abbrev s_leash : Stmt := top 97
abbrev s__law_pool : Stmt := top 99
abbrev s__law_take : Stmt := top 100
abbrev s__law_corner : Stmt := top 101
abbrev s__law_line : Stmt := top 102
abbrev s__law_second : Stmt := top 103
abbrev s__law_whole : Stmt := top 104
abbrev s__law_shared : Stmt := top 105
abbrev s__law_is_fraction : Stmt := top 106
abbrev s__law_not_longer : Stmt := top 115
abbrev s__law_three : Stmt := top 116
abbrev s_law : Stmt := top 117
def d_is_whole : He.DefD := ⟨("is_whole", none), "is_whole", "is_whole", defArgs s_is_whole, defBody s_is_whole, defScope s_is_whole, [], []⟩
def d_divisor : He.DefD := ⟨("divisor", none), "divisor", "divisor", defArgs s_divisor, defBody s_divisor, defScope s_divisor, [], []⟩
def d_ratio : He.DefD := ⟨("ratio", none), "ratio", "ratio", defArgs s_ratio, defBody s_ratio, defScope s_ratio, [.int 1], []⟩
def d_is_ratio : He.DefD := ⟨("is_ratio", none), "is_ratio", "is_ratio", defArgs s_is_ratio, defBody s_is_ratio, defScope s_is_ratio, [], []⟩
def d_plus : He.DefD := ⟨("plus", none), "plus", "plus", defArgs s_plus, defBody s_plus, defScope s_plus, [], []⟩
def d_minus : He.DefD := ⟨("minus", none), "minus", "minus", defArgs s_minus, defBody s_minus, defScope s_minus, [], []⟩
def d_times : He.DefD := ⟨("times", none), "times", "times", defArgs s_times, defBody s_times, defScope s_times, [], []⟩
def d_over : He.DefD := ⟨("over", none), "over", "over", defArgs s_over, defBody s_over, defScope s_over, [], []⟩
def d_less : He.DefD := ⟨("less", none), "less", "less", defArgs s_less, defBody s_less, defScope s_less, [], []⟩
def d_floor_of : He.DefD := ⟨("floor_of", none), "floor_of", "floor_of", defArgs s_floor_of, defBody s_floor_of, defScope s_floor_of, [], []⟩
def d_stretched : He.DefD := ⟨("stretched", none), "stretched", "stretched", defArgs s_stretched, defBody s_stretched, defScope s_stretched, [], []⟩
def d_curve_of : He.DefD := ⟨("curve_of", none), "curve_of", "curve_of", defArgs s_curve_of, defBody s_curve_of, defScope s_curve_of, [], []⟩
def d_worth : He.DefD := ⟨("worth", none), "worth", "worth", defArgs s_worth, defBody s_worth, defScope s_worth, [], []⟩
def d_nearest_part : He.DefD := ⟨("nearest_part", none), "nearest_part", "nearest_part", defArgs s_nearest_part, defBody s_nearest_part, defScope s_nearest_part, [], []⟩
def d_least_worth : He.DefD := ⟨("least_worth", none), "least_worth", "least_worth", defArgs s_least_worth, defBody s_least_worth, defScope s_least_worth, [], []⟩
def d_meeting_part : He.DefD := ⟨("meeting_part", none), "meeting_part", "meeting_part", defArgs s_meeting_part, defBody s_meeting_part, defScope s_meeting_part, [], []⟩
def d_crossing : He.DefD := ⟨("crossing", none), "crossing", "crossing", defArgs s_crossing, defBody s_crossing, defScope s_crossing, [], []⟩
def d_barred : He.DefD := ⟨("barred", none), "barred", "barred", defArgs s_barred, defBody s_barred, defScope s_barred, [], []⟩
def d_greater : He.DefD := ⟨("greater", none), "greater", "greater", defArgs s_greater, defBody s_greater, defScope s_greater, [], []⟩
def d_lesser : He.DefD := ⟨("lesser", none), "lesser", "lesser", defArgs s_lesser, defBody s_lesser, defScope s_lesser, [], []⟩
def d_look_at_square : He.DefD := ⟨("look_at_square", none), "look_at_square", "look_at_square", defArgs s_look_at_square, defBody s_look_at_square, defScope s_look_at_square, [], []⟩
def d_last_of : He.DefD := ⟨("last_of", none), "last_of", "last_of", defArgs s_last_of, defBody s_last_of, defScope s_last_of, [], []⟩
def d_is_place : He.DefD := ⟨("is_place", none), "is_place", "is_place", defArgs s_is_place, defBody s_is_place, defScope s_is_place, [], []⟩
def d_look_at_place : He.DefD := ⟨("look_at_place", none), "look_at_place", "look_at_place", defArgs s_look_at_place, defBody s_look_at_place, defScope s_look_at_place, [], []⟩
def d_ends_of : He.DefD := ⟨("ends_of", none), "ends_of", "ends_of", defArgs s_ends_of, defBody s_ends_of, defScope s_ends_of, [], []⟩
def d_point_at : He.DefD := ⟨("point_at", none), "point_at", "point_at", defArgs s_point_at, defBody s_point_at, defScope s_point_at, [], []⟩
def d_square_between : He.DefD := ⟨("square_between", none), "square_between", "square_between", defArgs s_square_between, defBody s_square_between, defScope s_square_between, [], []⟩
def d_square_of : He.DefD := ⟨("square_of", none), "square_of", "square_of", defArgs s_square_of, defBody s_square_of, defScope s_square_of, [], []⟩
def d_foot_on : He.DefD := ⟨("foot_on", none), "foot_on", "foot_on", defArgs s_foot_on, defBody s_foot_on, defScope s_foot_on, [], []⟩
def d_least_along : He.DefD := ⟨("least_along", none), "least_along", "least_along", defArgs s_least_along, defBody s_least_along, defScope s_least_along, [], []⟩
def d_is_barred : He.DefD := ⟨("is_barred", none), "is_barred", "is_barred", defArgs s_is_barred, defBody s_is_barred, defScope s_is_barred, [], []⟩
def d_least_up : He.DefD := ⟨("least_up", none), "least_up", "least_up", defArgs s_least_up, defBody s_least_up, defScope s_least_up, [], []⟩
def d_least_right : He.DefD := ⟨("least_right", none), "least_right", "least_right", defArgs s_least_right, defBody s_least_right, defScope s_least_right, [], []⟩
def d_barred_spots : He.DefD := ⟨("barred_spots", none), "barred_spots", "barred_spots", defArgs s_barred_spots, defBody s_barred_spots, defScope s_barred_spots, [], []⟩
def d_bars_of : He.DefD := ⟨("bars_of", none), "bars_of", "bars_of", defArgs s_bars_of, defBody s_bars_of, defScope s_bars_of, [], []⟩
def d_way_back : He.DefD := ⟨("way_back", none), "way_back", "way_back", defArgs s_way_back, defBody s_way_back, defScope s_way_back, [], []⟩
def d_fence_freely : He.DefD := ⟨("fence_freely", none), "fence_freely", "fence_freely", defArgs s_fence_freely, defBody s_fence_freely, defScope s_fence_freely, [.bl false], []⟩
def d_gates_from : He.DefD := ⟨("gates_from", none), "gates_from", "gates_from", defArgs s_gates_from, defBody s_gates_from, defScope s_gates_from, [], []⟩
def d_fields_come_to : He.DefD := ⟨("fields_come_to", none), "fields_come_to", "fields_come_to", defArgs s_fields_come_to, defBody s_fields_come_to, defScope s_fields_come_to, [], []⟩
def d_walk_freely : He.DefD := ⟨("walk_freely", none), "walk_freely", "walk_freely", defArgs s_walk_freely, defBody s_walk_freely, defScope s_walk_freely, [], []⟩
def d_go_free : He.DefD := ⟨("go_free", none), "go_free", "go_free", defArgs s_go_free, defBody s_go_free, defScope s_go_free, [], []⟩
def d_Cells_init : He.DefD := ⟨("Cells", some "__init__"), "__init__", "Cells.__init__", defArgs s_Cells_init, defBody s_Cells_init, defScope s_Cells_init, [], []⟩
def d_Cells_apart : He.DefD := ⟨("Cells", some "apart"), "apart", "Cells.apart", defArgs s_Cells_apart, defBody s_Cells_apart, defScope s_Cells_apart, [], []⟩
def d_Cells_pair_told : He.DefD := ⟨("Cells", some "pair_told"), "pair_told", "Cells.pair_told", defArgs s_Cells_pair_told, defBody s_Cells_pair_told, defScope s_Cells_pair_told, [], []⟩
def d_Cells_row_of : He.DefD := ⟨("Cells", some "row_of"), "row_of", "Cells.row_of", defArgs s_Cells_row_of, defBody s_Cells_row_of, defScope s_Cells_row_of, [], []⟩
def d_Cells_column_of : He.DefD := ⟨("Cells", some "column_of"), "column_of", "Cells.column_of", defArgs s_Cells_column_of, defBody s_Cells_column_of, defScope s_Cells_column_of, [], []⟩
def d_lets_by : He.DefD := ⟨("lets_by", none), "lets_by", "lets_by", defArgs s_lets_by, defBody s_lets_by, defScope s_lets_by, [], []⟩
def d_parts_of : He.DefD := ⟨("parts_of", none), "parts_of", "parts_of", defArgs s_parts_of, defBody s_parts_of, defScope s_parts_of, [], []⟩
def d_place_of : He.DefD := ⟨("place_of", none), "place_of", "place_of", defArgs s_place_of, defBody s_place_of, defScope s_place_of, [], []⟩
def d_Barrier_init : He.DefD := ⟨("Barrier", some "__init__"), "__init__", "Barrier.__init__", defArgs s_Barrier_init, defBody s_Barrier_init, defScope s_Barrier_init, [], []⟩
def d_Barrier_is_far : He.DefD := ⟨("Barrier", some "is_far"), "is_far", "Barrier.is_far", defArgs s_Barrier_is_far, defBody s_Barrier_is_far, defScope s_Barrier_is_far, [], []⟩
def d_Barrier_is_pair : He.DefD := ⟨("Barrier", some "is_pair"), "is_pair", "Barrier.is_pair", defArgs s_Barrier_is_pair, defBody s_Barrier_is_pair, defScope s_Barrier_is_pair, [], []⟩
def d_Barrier_steps : He.DefD := ⟨("Barrier", some "steps"), "steps", "Barrier.steps", defArgs s_Barrier_steps, defBody s_Barrier_steps, defScope s_Barrier_steps, [], []⟩
def d_Barrier_steps_down : He.DefD := ⟨("Barrier", some "steps_down"), "steps_down", "Barrier.steps_down", defArgs s_Barrier_steps_down, defBody s_Barrier_steps_down, defScope s_Barrier_steps_down, [], []⟩
def d_Barrier_steps_over : He.DefD := ⟨("Barrier", some "steps_over"), "steps_over", "Barrier.steps_over", defArgs s_Barrier_steps_over, defBody s_Barrier_steps_over, defScope s_Barrier_steps_over, [], []⟩
def d_Barrier_steps_back : He.DefD := ⟨("Barrier", some "steps_back"), "steps_back", "Barrier.steps_back", defArgs s_Barrier_steps_back, defBody s_Barrier_steps_back, defScope s_Barrier_steps_back, [], []⟩
def d_told_way : He.DefD := ⟨("told_way", none), "told_way", "told_way", defArgs s_told_way, defBody s_told_way, defScope s_told_way, [], []⟩
def d_fence_of : He.DefD := ⟨("fence_of", none), "fence_of", "fence_of", defArgs s_fence_of, defBody s_fence_of, defScope s_fence_of, [], []⟩
def d_Reach_init : He.DefD := ⟨("Reach", some "__init__"), "__init__", "Reach.__init__", defArgs s_Reach_init, defBody s_Reach_init, defScope s_Reach_init, [], []⟩
def d_Reach_starts_in : He.DefD := ⟨("Reach", some "starts_in"), "starts_in", "Reach.starts_in", defArgs s_Reach_starts_in, defBody s_Reach_starts_in, defScope s_Reach_starts_in, [], []⟩
def d_Reach_go_right : He.DefD := ⟨("Reach", some "go_right"), "go_right", "Reach.go_right", defArgs s_Reach_go_right, defBody s_Reach_go_right, defScope s_Reach_go_right, [], []⟩
def d_Reach_go_up : He.DefD := ⟨("Reach", some "go_up"), "go_up", "Reach.go_up", defArgs s_Reach_go_up, defBody s_Reach_go_up, defScope s_Reach_go_up, [], []⟩
def d_Reach_comes_into : He.DefD := ⟨("Reach", some "comes_into"), "comes_into", "Reach.comes_into", defArgs s_Reach_comes_into, defBody s_Reach_comes_into, defScope s_Reach_comes_into, [], []⟩
def d_upright_run : He.DefD := ⟨("upright_run", none), "upright_run", "upright_run", defArgs s_upright_run, defBody s_upright_run, defScope s_upright_run, [], []⟩
def d_level_run : He.DefD := ⟨("level_run", none), "level_run", "level_run", defArgs s_level_run, defBody s_level_run, defScope s_level_run, [], []⟩
def d_way_into : He.DefD := ⟨("way_into", none), "way_into", "way_into", defArgs s_way_into, defBody s_way_into, defScope s_way_into, [], []⟩
def d_walk_on : He.DefD := ⟨("walk_on", none), "walk_on", "walk_on", defArgs s_walk_on, defBody s_walk_on, defScope s_walk_on, [], []⟩
def d_walk_part : He.DefD := ⟨("walk_part", none), "walk_part", "walk_part", defArgs s_walk_part, defBody s_walk_part, defScope s_walk_part, [], []⟩
def d_on_walk : He.DefD := ⟨("on_walk", none), "on_walk", "on_walk", defArgs s_on_walk, defBody s_on_walk, defScope s_on_walk, [], []⟩
def d_on_fence : He.DefD := ⟨("on_fence", none), "on_fence", "on_fence", defArgs s_on_fence, defBody s_on_fence, defScope s_on_fence, [], []⟩
def d_part_walk : He.DefD := ⟨("part_walk", none), "part_walk", "part_walk", defArgs s_part_walk, defBody s_part_walk, defScope s_part_walk, [], []⟩
def d_part_fence : He.DefD := ⟨("part_fence", none), "part_fence", "part_fence", defArgs s_part_fence, defBody s_part_fence, defScope s_part_fence, [], []⟩
def d_go_on : He.DefD := ⟨("go_on", none), "go_on", "go_on", defArgs s_go_on, defBody s_go_on, defScope s_go_on, [], []⟩
def d_go_part : He.DefD := ⟨("go_part", none), "go_part", "go_part", defArgs s_go_part, defBody s_go_part, defScope s_go_part, [], []⟩
def d_squares_of : He.DefD := ⟨("squares_of", none), "squares_of", "squares_of", defArgs s_squares_of, defBody s_squares_of, defScope s_squares_of, [], []⟩
def d_reached : He.DefD := ⟨("reached", none), "reached", "reached", defArgs s_reached, defBody s_reached, defScope s_reached, [], []⟩
def d_traced : He.DefD := ⟨("traced", none), "traced", "traced", defArgs s_traced, defBody s_traced, defScope s_traced, [], []⟩
def d_far_pairs : He.DefD := ⟨("far_pairs", none), "far_pairs", "far_pairs", defArgs s_far_pairs, defBody s_far_pairs, defScope s_far_pairs, [], []⟩
def d_may_follow : He.DefD := ⟨("may_follow", none), "may_follow", "may_follow", defArgs s_may_follow, defBody s_may_follow, defScope s_may_follow, [], []⟩
def d_fence_among : He.DefD := ⟨("fence_among", none), "fence_among", "fence_among", defArgs s_fence_among, defBody s_fence_among, defScope s_fence_among, [], []⟩
def d_hop_walk : He.DefD := ⟨("hop_walk", none), "hop_walk", "hop_walk", defArgs s_hop_walk, defBody s_hop_walk, defScope s_hop_walk, [], []⟩
def d_hop_fence : He.DefD := ⟨("hop_fence", none), "hop_fence", "hop_fence", defArgs s_hop_fence, defBody s_hop_fence, defScope s_hop_fence, [], []⟩
def d_go_hops : He.DefD := ⟨("go_hops", none), "go_hops", "go_hops", defArgs s_go_hops, defBody s_go_hops, defScope s_go_hops, [], []⟩
def d_is_way : He.DefD := ⟨("is_way", none), "is_way", "is_way", defArgs s_is_way, defBody s_is_way, defScope s_is_way, [], []⟩
def d_look_at_way : He.DefD := ⟨("look_at_way", none), "look_at_way", "look_at_way", defArgs s_look_at_way, defBody s_look_at_way, defScope s_look_at_way, [], []⟩
def d_merged : He.DefD := ⟨("merged", none), "merged", "merged", defArgs s_merged, defBody s_merged, defScope s_merged, [], []⟩
def d_rising : He.DefD := ⟨("rising", none), "rising", "rising", defArgs s_rising, defBody s_rising, defScope s_rising, [], []⟩
def d_corner_squares : He.DefD := ⟨("corner_squares", none), "corner_squares", "corner_squares", defArgs s_corner_squares, defBody s_corner_squares, defScope s_corner_squares, [], []⟩
def d_stretch_squares : He.DefD := ⟨("stretch_squares", none), "stretch_squares", "stretch_squares", defArgs s_stretch_squares, defBody s_stretch_squares, defScope s_stretch_squares, [], []⟩
def d_candidates : He.DefD := ⟨("candidates", none), "candidates", "candidates", defArgs s_candidates, defBody s_candidates, defScope s_candidates, [], []⟩
def d_go_by : He.DefD := ⟨("go_by", none), "go_by", "go_by", defArgs s_go_by, defBody s_go_by, defScope s_go_by, [], []⟩
def d_fence_by : He.DefD := ⟨("fence_by", none), "fence_by", "fence_by", defArgs s_fence_by, defBody s_fence_by, defScope s_fence_by, [], []⟩
def d_leash : He.DefD := ⟨("leash", none), "leash", "leash", defArgs s_leash, defBody s_leash, defScope s_leash, [.str "on"], []⟩
def d__law_pool : He.DefD := ⟨("_law_pool", none), "_law_pool", "_law_pool", defArgs s__law_pool, defBody s__law_pool, defScope s__law_pool, [], []⟩
def d__law_take : He.DefD := ⟨("_law_take", none), "_law_take", "_law_take", defArgs s__law_take, defBody s__law_take, defScope s__law_take, [], []⟩
def d__law_corner : He.DefD := ⟨("_law_corner", none), "_law_corner", "_law_corner", defArgs s__law_corner, defBody s__law_corner, defScope s__law_corner, [], []⟩
def d__law_line : He.DefD := ⟨("_law_line", none), "_law_line", "_law_line", defArgs s__law_line, defBody s__law_line, defScope s__law_line, [], []⟩
def d__law_second : He.DefD := ⟨("_law_second", none), "_law_second", "_law_second", defArgs s__law_second, defBody s__law_second, defScope s__law_second, [], []⟩
def d__law_whole : He.DefD := ⟨("_law_whole", none), "_law_whole", "_law_whole", defArgs s__law_whole, defBody s__law_whole, defScope s__law_whole, [], []⟩
def d__law_shared : He.DefD := ⟨("_law_shared", none), "_law_shared", "_law_shared", defArgs s__law_shared, defBody s__law_shared, defScope s__law_shared, [], []⟩
def d__law_is_fraction : He.DefD := ⟨("_law_is_fraction", none), "_law_is_fraction", "_law_is_fraction", defArgs s__law_is_fraction, defBody s__law_is_fraction, defScope s__law_is_fraction, [], []⟩
def d__law_not_longer : He.DefD := ⟨("_law_not_longer", none), "_law_not_longer", "_law_not_longer", defArgs s__law_not_longer, defBody s__law_not_longer, defScope s__law_not_longer, [], []⟩
def d__law_three : He.DefD := ⟨("_law_three", none), "_law_three", "_law_three", defArgs s__law_three, defBody s__law_three, defScope s__law_three, [], []⟩
def d_law : He.DefD := ⟨("law", none), "law", "law", defArgs s_law, defBody s_law, defScope s_law, [], []⟩
def fn0 : List He.DefD := [d_is_whole, d_divisor, d_ratio, d_is_ratio, d_plus, d_minus, d_times, d_over, d_less, d_floor_of, d_stretched, d_curve_of, d_worth, d_nearest_part, d_least_worth, d_meeting_part, d_crossing, d_barred, d_greater, d_lesser, d_look_at_square, d_last_of, d_is_place, d_look_at_place, d_ends_of, d_point_at, d_square_between, d_square_of, d_foot_on, d_least_along]
def fn1 : List He.DefD := [d_is_barred, d_least_up, d_least_right, d_barred_spots, d_bars_of, d_way_back, d_fence_freely, d_gates_from, d_fields_come_to, d_walk_freely, d_go_free, d_Cells_init, d_Cells_apart, d_Cells_pair_told, d_Cells_row_of, d_Cells_column_of, d_lets_by, d_parts_of, d_place_of, d_Barrier_init, d_Barrier_is_far, d_Barrier_is_pair, d_Barrier_steps, d_Barrier_steps_down, d_Barrier_steps_over, d_Barrier_steps_back, d_told_way, d_fence_of, d_Reach_init, d_Reach_starts_in]
def fn2 : List He.DefD := [d_Reach_go_right, d_Reach_go_up, d_Reach_comes_into, d_upright_run, d_level_run, d_way_into, d_walk_on, d_walk_part, d_on_walk, d_on_fence, d_part_walk, d_part_fence, d_go_on, d_go_part, d_squares_of, d_reached, d_traced, d_far_pairs, d_may_follow, d_fence_among, d_hop_walk, d_hop_fence, d_go_hops, d_is_way, d_look_at_way, d_merged, d_rising, d_corner_squares, d_stretch_squares, d_candidates]
def fn3 : List He.DefD := [d_go_by, d_fence_by, d_leash, d__law_pool, d__law_take, d__law_corner, d__law_line, d__law_second, d__law_whole, d__law_shared, d__law_is_fraction, d__law_not_longer, d__law_three, d_law]
def fn : List He.DefD := fn0 ++ fn1 ++ fn2 ++ fn3
def fa0 : List He.Fa := [.glo "is_whole", .glo "divisor", .glo "ratio", .glo "is_ratio", .glo "plus", .glo "minus", .glo "times", .glo "over", .glo "less", .glo "floor_of", .glo "stretched", .glo "curve_of", .glo "worth", .glo "nearest_part", .glo "least_worth", .glo "meeting_part", .glo "crossing", .glo "barred", .glo "greater", .glo "lesser", .glo "look_at_square", .glo "last_of", .glo "is_place", .glo "look_at_place", .glo "ends_of", .glo "point_at", .glo "square_between", .glo "square_of", .glo "foot_on", .glo "least_along"]
def fa1 : List He.Fa := [.glo "is_barred", .glo "least_up", .glo "least_right", .glo "barred_spots", .glo "bars_of", .glo "way_back", .glo "fence_freely", .glo "gates_from", .glo "fields_come_to", .glo "walk_freely", .glo "go_free", .glo "lets_by", .glo "parts_of", .glo "place_of", .glo "told_way", .glo "fence_of", .glo "upright_run", .glo "level_run", .glo "way_into", .glo "walk_on", .glo "walk_part", .glo "on_walk", .glo "on_fence", .glo "part_walk", .glo "part_fence", .glo "go_on", .glo "go_part", .glo "squares_of", .glo "reached", .glo "traced"]
def fa2 : List He.Fa := [.glo "far_pairs", .glo "may_follow", .glo "fence_among", .glo "hop_walk", .glo "hop_fence", .glo "go_hops", .glo "is_way", .glo "look_at_way", .glo "merged", .glo "rising", .glo "corner_squares", .glo "stretch_squares", .glo "candidates", .glo "go_by", .glo "fence_by", .glo "leash", .glo "_law_pool", .glo "_law_take", .glo "_law_corner", .glo "_law_line", .glo "_law_second", .glo "_law_whole", .glo "_law_shared", .glo "_law_is_fraction", .glo "_law_not_longer", .glo "_law_three", .glo "law", .glo "Cells", .cls "Cells", .mkr "Cells"]
def fa3 : List He.Fa := [.noat "Cells" "alone", .noat "Cells" "here", .noat "Cells" "high", .noat "Cells" "level", .noat "Cells" "there", .noat "Cells" "upright", .noat "Cells" "wide", .meth "Cells" "apart", .meth "Cells" "pair_told", .meth "Cells" "row_of", .meth "Cells" "column_of", .glo "Barrier", .cls "Barrier", .mkr "Barrier", .noat "Barrier" "also", .noat "Barrier" "cells", .noat "Barrier" "square", .meth "Barrier" "is_far", .meth "Barrier" "is_pair", .meth "Barrier" "steps", .meth "Barrier" "steps_down", .meth "Barrier" "steps_over", .meth "Barrier" "steps_back", .glo "Reach", .cls "Reach", .mkr "Reach", .noat "Reach" "begins", .noat "Reach" "cells", .noat "Reach" "level", .noat "Reach" "square"]
def fa4 : List He.Fa := [.noat "Reach" "started", .noat "Reach" "upright", .meth "Reach" "starts_in", .meth "Reach" "go_right", .meth "Reach" "go_up", .meth "Reach" "comes_into", .free "isinstance", .free "int", .free "bool", .free "abs", .free "tuple", .free "len", .free "range", .free "min", .free "max", .free "list", .free "enumerate", .free "reversed", .free "all", .free "str"]
def fa : List He.Fa := fa0 ++ fa1 ++ fa2 ++ fa3 ++ fa4
def loose0 : List PySem.Str := ["LeashError", "NoRatio", "NoPlace", "NoWay", "NoSquare", "is_whole", "divisor", "ratio", "is_ratio", "plus", "minus", "times", "over", "less", "floor_of", "stretched", "curve_of", "worth", "nearest_part", "least_worth", "meeting_part", "crossing", "barred", "greater", "lesser", "look_at_square", "last_of", "is_place", "look_at_place", "ends_of"]
def loose1 : List PySem.Str := ["point_at", "square_between", "square_of", "foot_on", "least_along", "is_barred", "least_up", "least_right", "barred_spots", "bars_of", "way_back", "fence_freely", "gates_from", "fields_come_to", "walk_freely", "go_free", "Cells", "lets_by", "parts_of", "place_of", "Barrier", "told_way", "fence_of", "Reach", "upright_run", "level_run", "way_into", "walk_on", "walk_part", "on_walk"]
def loose2 : List PySem.Str := ["on_fence", "part_walk", "part_fence", "go_on", "go_part", "squares_of", "reached", "traced", "far_pairs", "may_follow", "fence_among", "hop_walk", "hop_fence", "go_hops", "is_way", "look_at_way", "merged", "rising", "corner_squares", "stretch_squares", "candidates", "go_by", "fence_by", "leash", "_law_pool", "_law_take", "_law_corner", "_law_line", "_law_second", "_law_whole"]
def loose3 : List PySem.Str := ["_law_shared", "_law_is_fraction", "_law_is_pair", "_law_are_pairs", "_law_less", "_law_near", "_law_point", "_law_apart", "_law_square", "_law_least", "_law_not_longer", "_law_three"]
def loose : List PySem.Str := loose0 ++ loose1 ++ loose2 ++ loose3
end G
namespace G
open PySem PySem.Spec PyProof.Rows L2
abbrev R : PySem.W.OpenRow := PySem.W.OpenLaw.row PySem.Challenge.rw_oneleash_k68_whole_three_lines
def fnRefs (o : Obj) : List Addr := match o.data with
  | .func fd => He.refV fd.code ++ He.refV fd.defaults
  | _ => []
def dictRefs (o : Option Obj) : List Addr := match o with
  | some ⟨_, _, .dict es _, _⟩ => es.toList.flatMap fun e => He.refV e.val
  | _ => []
def withFns (g : Addr → Option Obj) (l : List Addr) : List Addr := l.flatMap fun a => match g a with
  | some o => a :: fnRefs o
  | none => []
def clsRefs (g : Addr → Option Obj) (o : Obj) : List Addr := match o.data with
  | .cls cd => cd.ns :: withFns g (dictRefs (g cd.ns))
  | _ => []
def asZ (g : Addr → Option Obj) : List Addr := mainGlobals :: ((dictRefs (g mainGlobals)).flatMap fun a => match g a with
  | some o => a :: (fnRefs o ++ clsRefs g o)
  | none => [])
def obsZ (fa : List He.Fa) (fn : List He.DefD) (g : Addr → Option Obj) : He.AlD := He.obsD fa fn (He.frG g (asZ g))
def hookZ (fa : List He.Fa) (fn : List He.DefD) : PySem.W.Hook where
  α := He.AlD
  obs := fun s => obsZ fa fn s.heap.get?
  val := fun _ => He.valD fn
  says := fun _ h => ∃ K : PySem.W.Frag, K.In h ∧ He.SaysD fa fn K
  of := fun _ _ e => ⟨_, He.frG_in, e⟩
  keeps := fun _ _ _ ⟨K, hK, c⟩ k => ⟨K, PySem.W.Frag.In.keeps hK k, c⟩
theorem obsZ_eq {fa : List He.Fa} {fn : List He.DefD} {g : Addr → Option Obj} {s : Shared} (h : ∀ a, g a = s.heap.get? a) : obsZ fa fn g = (hookZ fa fn).obs s := by
  have e : g = s.heap.get? := funext h
  rw [e] <;> rfl
abbrev hk : PySem.W.Hook := hookZ fa fn
def ob (s : PySem.W.SharedT) : He.AlD := obsZ fa fn (HandSHeadRun.getT s)
theorem ob_eq (s : PySem.W.SharedT) : ob s = hk.obs s.abs := obsZ_eq (HandSHeadRun.getT_eq s)
theorem run (w : World) : HandSHeadRun.RunEq R (PySem.W.view R.prog [117]) hk ob 6000 loose w := by
  intro os
  kernel_rfl
end G
/-! A layer of data over the hand layer: values as data, environments without a heap. -/
namespace DL
open PySem PySem.Spec PyProof.Rows L2 Evl
inductive Dat where
  | non | bl (b : Bool) | int (i : Int) | str (x : Str)
  | tup (xs : List Dat) | lst (xs : List Dat)
  | dct (ks : List (List Int)) (vs : List Dat)
  | obj (C : Addr) (ns : List Str) (vs : List Dat)
  | at_ (a : Addr)
def kL (ks : List Int) : List Key := ks.map Sum.inl
section
variable (K : PySem.W.Frag) (F : Hp)
mutual
def Rp : Dat → V → Prop
  | .non, v => v = .non
  | .bl b, v => v = .bl b
  | .int i, v => v = .int i
  | .str x, v => v = .str x
  | .tup xs, v => ∃ a vs, v = .ref a ∧ F a = some (.tup vs) ∧ RpL xs vs
  | .lst xs, v => ∃ a vs, v = .ref a ∧ F a = some (.lst vs) ∧ RpL xs vs
  | .dct ks ds, v => ∃ a ws, v = .ref a ∧ F a = some (.dT ws) ∧ ws.map (·.1) = ks.map kL ∧ RpL ds (ws.map (·.2))
  | .obj C ns ds, v => ∃ a dx ws, v = .ref a ∧ F a = some (.ins C dx ws) ∧ ws.map (·.1) = ns ∧ RpL ds (ws.map (·.2))
  | .at_ a, v => v = .ref a
def RpL : List Dat → List V → Prop
  | [], vs => vs = []
  | d :: ds, vs => ∃ v r, vs = v :: r ∧ Rp d v ∧ RpL ds r
end
end
section
variable {F F' : Hp}
mutual
theorem Rp.mono (e : Ex F F') : ∀ (d : Dat) {v : V}, Rp F d v → Rp F' d v
  | .non, _, h => h
  | .bl _, _, h => h
  | .int _, _, h => h
  | .str _, _, h => h
  | .tup xs, _, ⟨a, vs, h1, h2, h3⟩ => ⟨a, vs, h1, e _ _ h2, RpL.mono e xs h3⟩
  | .lst xs, _, ⟨a, vs, h1, h2, h3⟩ => ⟨a, vs, h1, e _ _ h2, RpL.mono e xs h3⟩
  | .dct _ ds, _, ⟨a, ws, h1, h2, h3, h4⟩ => ⟨a, ws, h1, e _ _ h2, h3, RpL.mono e ds h4⟩
  | .obj _ _ ds, _, ⟨a, dx, ws, h1, h2, h3, h4⟩ => ⟨a, dx, ws, h1, e _ _ h2, h3, RpL.mono e ds h4⟩
  | .at_ _, _, h => h
theorem RpL.mono (e : Ex F F') : ∀ (ds : List Dat) {vs : List V}, RpL F ds vs → RpL F' ds vs
  | [], _, h => h
  | d :: ds, _, ⟨v, r, h1, h2, h3⟩ => ⟨v, r, h1, Rp.mono e d h2, RpL.mono e ds h3⟩
end
end
section
variable {F : Hp}
theorem RpL.length : ∀ {ds : List Dat} {vs : List V}, RpL F ds vs → ds.length = vs.length
  | [], _, h => by rw [show _ = ([] : List V) from h] <;> rfl
  | d :: ds, _, ⟨v, r, h1, _, h3⟩ => by rw [h1, List.length_cons, List.length_cons, RpL.length h3]
theorem RpL.get : ∀ {ds : List Dat} {vs : List V} {i : Nat} {d : Dat}, RpL F ds vs → ds[i]? = some d → ∃ v, vs[i]? = some v ∧ Rp F d v
  | [], _, _, _, _, e => by simp at e
  | d :: ds, _, 0, _, ⟨v, r, h1, h2, _⟩, e => by
    simp at e
    subst h1 e
    exact ⟨v, rfl, h2⟩
  | d :: ds, _, i + 1, _, ⟨v, r, h1, _, h3⟩, e => by
    subst h1
    obtain ⟨w, q1, q2⟩ := RpL.get (i := i) h3 (by simpa using e)
    exact ⟨w, by simpa using q1, q2⟩
/-- the other way: an item of the values is an item of the data -/
theorem RpL.back : ∀ {ds : List Dat} {vs : List V} {i : Nat} {v : V}, RpL F ds vs → vs[i]? = some v → ∃ d, ds[i]? = some d ∧ Rp F d v
  | [], _, _, _, h, e => by
    rw [show _ = ([] : List V) from h] at e
    simp at e
  | d :: ds, _, 0, _, ⟨v, r, h1, h2, _⟩, e => by
    subst h1
    simp at e
    subst e
    exact ⟨d, rfl, h2⟩
  | d :: ds, _, i + 1, _, ⟨v, r, h1, _, h3⟩, e => by
    subst h1
    obtain ⟨w, q1, q2⟩ := RpL.back (i := i) h3 (by simpa using e)
    exact ⟨w, by simpa using q1, q2⟩
theorem RpL.append : ∀ {ds es : List Dat} {vs ws : List V}, RpL F ds vs → RpL F es ws → RpL F (ds ++ es) (vs ++ ws)
  | [], _, _, _, h, g => by
    rw [show _ = ([] : List V) from h]
    exact g
  | d :: ds, _, _, _, ⟨v, r, h1, h2, h3⟩, g => by
    subst h1
    exact ⟨v, _, rfl, h2, RpL.append h3 g⟩
theorem RpL.one {d : Dat} {v : V} (h : Rp F d v) : RpL F [d] [v] := ⟨v, [], rfl, h, rfl⟩
theorem RpL.two {d e : Dat} {v w : V} (h : Rp F d v) (g : Rp F e w) : RpL F [d, e] [v, w] := ⟨v, _, rfl, h, RpL.one g⟩
theorem RpL.take : ∀ (n : Nat) {ds : List Dat} {vs : List V}, RpL F ds vs → RpL F (ds.take n) (vs.take n)
  | 0, _, _, _ => by simp [RpL]
  | n + 1, [], _, h => by
    rw [show _ = ([] : List V) from h]
    simp [RpL]
  | n + 1, d :: ds, _, ⟨v, r, h1, h2, h3⟩ => by
    subst h1
    exact ⟨v, _, rfl, h2, RpL.take n h3⟩
theorem RpL.drop : ∀ (n : Nat) {ds : List Dat} {vs : List V}, RpL F ds vs → RpL F (ds.drop n) (vs.drop n)
  | 0, _, _, h => h
  | n + 1, [], _, h => by
    rw [show _ = ([] : List V) from h]
    simp [RpL]
  | n + 1, d :: ds, _, ⟨v, r, h1, h2, h3⟩ => by
    subst h1
    exact RpL.drop n h3
theorem RpL.set : ∀ {ds : List Dat} {vs : List V} (i : Nat) {d : Dat} {v : V}, RpL F ds vs → Rp F d v → RpL F (ds.set i d) (vs.set i v)
  | [], _, _, _, _, h, _ => by
    rw [show _ = ([] : List V) from h]
    simp [RpL]
  | d :: ds, _, 0, _, _, ⟨v, r, h1, h2, h3⟩, g => by
    subst h1
    exact ⟨_, _, rfl, g, h3⟩
  | d :: ds, _, i + 1, _, _, ⟨v, r, h1, h2, h3⟩, g => by
    subst h1
    exact ⟨_, _, rfl, h2, RpL.set i h3 g⟩
theorem RpL.reverse : ∀ {ds : List Dat} {vs : List V}, RpL F ds vs → RpL F ds.reverse vs.reverse
  | [], _, h => by
    rw [show _ = ([] : List V) from h]
    simp [RpL]
  | d :: ds, _, ⟨v, r, h1, h2, h3⟩ => by
    subst h1
    rw [List.reverse_cons, List.reverse_cons]
    exact RpL.append (RpL.reverse h3) (RpL.one h2)
theorem RpL.mapOf {α : Type} {f : α → Dat} {g : α → V} (h : ∀ x, Rp F (f x) (g x)) : ∀ (l : List α), RpL F (l.map f) (l.map g)
  | [] => rfl
  | x :: l => ⟨g x, _, rfl, h x, RpL.mapOf h l⟩
theorem RpL.ints (l : List Int) : RpL F (l.map Dat.int) (l.map V.int) := RpL.mapOf (fun _ => by unfold Rp; rfl) l
theorem RpL.ints_eq : ∀ {l : List Int} {vs : List V}, RpL F (l.map Dat.int) vs → vs = l.map V.int
  | [], _, h => h
  | i :: l, _, ⟨v, r, h1, h2, h3⟩ => by
    subst h1
    rw [show v = V.int i from h2, RpL.ints_eq h3]
    rfl
theorem RpL.bls_eq : ∀ {l : List Bool} {vs : List V}, RpL F (l.map Dat.bl) vs → vs = l.map V.bl
  | [], _, h => h
  | i :: l, _, ⟨v, r, h1, h2, h3⟩ => by
    subst h1
    rw [show v = V.bl i from h2, RpL.bls_eq h3]
    rfl
theorem RpL.strs_eq : ∀ {l : List Str} {vs : List V}, RpL F (l.map Dat.str) vs → vs = l.map V.str
  | [], _, h => h
  | i :: l, _, ⟨v, r, h1, h2, h3⟩ => by
    subst h1
    rw [show v = V.str i from h2, RpL.strs_eq h3]
    rfl
end
/-- (F, H) grows to (F', H'): all is kept, what F' has besides is new -/
structure Gr (F H F' H' : Hp) : Prop where
  eF : Ex F F'
  eH : Ex H H'
  fh : Ex F' H'
  new : ∀ a o, F' a = some o → F a = some o ∨ H a = none ∨ ∃ xs, o = HO.tup xs
theorem Gr.refl {F H : Hp} (e : Ex F H) : Gr F H F H := ⟨Ex.refl F, Ex.refl H, e, fun _ _ h => .inl h⟩
theorem Gr.trans {F H F1 H1 F2 H2 : Hp} (a : Gr F H F1 H1) (b : Gr F1 H1 F2 H2) : Gr F H F2 H2 :=
  ⟨a.eF.trans b.eF, a.eH.trans b.eH, b.fh, fun x o h => (b.new x o h).elim (fun q => a.new x o q) fun q => .inr (q.imp (fun q => fresh_back a.eH q) id)⟩
/-- a new object, in both -/
theorem Gr.laid {F H : Hp} {p : Addr} {o : HO} (e : Ex F H) (h : H p = none) : Gr F H (upd F p o) (upd H p o) := by
  have hF : F p = none := fresh_back e h
  refine ⟨Ex.new hF, Ex.new h, fun a u q => ?_, fun a u q => ?_⟩
  · by_cases ha : a = p
    · subst ha
      rw [upd_same] at q ⊢
      exact q
    · rw [upd_ne ha] at q ⊢
      exact e a u q
  · by_cases ha : a = p
    · subst ha
      exact .inr (.inl h)
    · rw [upd_ne ha] at q
      exact .inl q
/-- a new object, in H alone -/
theorem Gr.made {F H : Hp} {p : Addr} {o : HO} (e : Ex F H) (h : H p = none) : Gr F H F (upd H p o) :=
  ⟨Ex.refl F, Ex.new h, e.trans (Ex.new h), fun _ _ q => .inl q⟩
/-! ### environments -/
inductive Slot where
  | sh (d : Dat) | ol (xs : List Dat) | od (ks : List (List Int)) (vs : List Dat) | oi (a C : Addr) (ns : List Str) (vs : List Dat) | la (a : Addr) (xs : List Dat)
abbrev EnvD : Type := List (Option Slot)
def Slot.own : Slot → Bool
  | .sh _ => false
  | _ => true
def SlOk (H0 F H : Hp) (x : Option (Option V)) : Slot → Prop
  | .sh d => ∃ v, x = some (some v) ∧ Rp F d v
  | .ol ds => ∃ a vs, x = some (some (.ref a)) ∧ F a = none ∧ H0 a = none ∧ H a = some (.lst vs) ∧ RpL F ds vs
  | .od ks ds => ∃ a ws, x = some (some (.ref a)) ∧ F a = none ∧ H0 a = none ∧ H a = some (.dT ws) ∧ ws.map (·.1) = ks.map kL ∧ RpL F ds (ws.map (·.2))
  | .oi a C ns ds => ∃ dx ws, x = some (some (.ref a)) ∧ F a = none ∧ H0 a = none ∧ H a = some (.ins C dx ws) ∧ ws.map (·.1) = ns ∧ RpL F ds (ws.map (·.2)) ∧ ws.length ≤ 500
  | .la a ds => ∃ vs, x = some (some (.ref a)) ∧ F a = none ∧ H0 a = none ∧ H a = some (.lst vs) ∧ RpL F ds vs
structure Ok (F0 H0 F H : Hp) (ρ : EnvD) (σ : L2.St) : Prop where
  len : ρ.length = σ.length
  eH : Ex H0 H
  eF : Ex F0 F
  fh : Ex F H
  new : ∀ a o, F a = some o → F0 a = some o ∨ H0 a = none ∨ ∃ xs, o = HO.tup xs
  slot : ∀ (i : Nat) (s : Slot), ρ[i]? = some (some s) → SlOk H0 F H σ[i]? s
  inj : ∀ (i j : Nat) (s t : Slot), ρ[i]? = some (some s) → ρ[j]? = some (some t) → s.own = true → t.own = true → σ[i]? = σ[j]? → i = j
theorem SlOk.addr {H0 F H : Hp} {x : Option (Option V)} {s : Slot} (h : SlOk H0 F H x s) (o : s.own = true) : ∃ a u, x = some (some (.ref a)) ∧ F a = none ∧ H0 a = none ∧ H a = some u ∧ ∀ xs, u ≠ HO.tup xs := by
  cases s with
  | sh d => cases o
  | ol ds => obtain ⟨a, vs, h1, h2, h3, h4, _⟩ := h; exact ⟨a, _, h1, h2, h3, h4, fun _ z => nomatch z⟩
  | od ks ds => obtain ⟨a, vs, h1, h2, h3, h4, _⟩ := h; exact ⟨a, _, h1, h2, h3, h4, fun _ z => nomatch z⟩
  | oi a C ns ds => obtain ⟨dx, vs, h1, h2, h3, h4, _⟩ := h; exact ⟨a, _, h1, h2, h3, h4, fun _ z => nomatch z⟩
  | la a ds => obtain ⟨vs, h1, h2, h3, h4, _⟩ := h; exact ⟨a, _, h1, h2, h3, h4, fun _ z => nomatch z⟩
/-- a slot's word moves to other heaps -/
theorem SlOk.move {H0 F H F' H' : Hp} {x : Option (Option V)} {s : Slot} (h : SlOk H0 F H x s) (e : Ex F F') (k : ∀ a u, x = some (some (.ref a)) → s.own = true → F a = none → H a = some u → (∀ xs, u ≠ HO.tup xs) → F' a = none ∧ H' a = some u) : SlOk H0 F' H' x s := by
  cases s with
  | sh d => obtain ⟨v, h1, h2⟩ := h; exact ⟨v, h1, Rp.mono e d h2⟩
  | ol ds =>
    obtain ⟨a, vs, h1, h2, h3, h4, h5⟩ := h
    obtain ⟨k1, k2⟩ := k a _ h1 rfl h2 h4 (fun _ z => nomatch z)
    exact ⟨a, vs, h1, k1, h3, k2, RpL.mono e ds h5⟩
  | od ks ds =>
    obtain ⟨a, vs, h1, h2, h3, h4, h5, h6⟩ := h
    obtain ⟨k1, k2⟩ := k a _ h1 rfl h2 h4 (fun _ z => nomatch z)
    exact ⟨a, vs, h1, k1, h3, k2, h5, RpL.mono e ds h6⟩
  | oi a C ns ds =>
    obtain ⟨dx, vs, h1, h2, h3, h4, h5, h6, h7⟩ := h
    obtain ⟨k1, k2⟩ := k a _ h1 rfl h2 h4 (fun _ z => nomatch z)
    exact ⟨dx, vs, h1, k1, h3, k2, h5, RpL.mono e ds h6, h7⟩
  | la a ds =>
    obtain ⟨vs, h1, h2, h3, h4, h5⟩ := h
    obtain ⟨k1, k2⟩ := k a _ h1 rfl h2 h4 (fun _ z => nomatch z)
    exact ⟨vs, h1, k1, h3, k2, RpL.mono e ds h5⟩
section
variable {F0 H0 F H F' H' : Hp} {ρ : EnvD} {σ : L2.St} {a : Addr} {o : HO} {i : Nat}
theorem Ok.gr (ok : Ok F0 H0 F H ρ σ) (g : Gr F H F' H') : Ok F0 H0 F' H' ρ σ where
  len := ok.len
  eH := ok.eH.trans g.eH
  eF := ok.eF.trans g.eF
  fh := g.fh
  new := fun b u h => (g.new b u h).elim (fun q => ok.new b u q) fun q => .inr (q.imp (fun q => fresh_back ok.eH q) id)
  slot := fun i s h => (ok.slot i s h).move g.eF fun b u _ _ hF hH nt => by
    refine ⟨?_, g.eH b u hH⟩
    cases q : F' b with
    | none => rfl
    | some u' =>
      rcases g.new b u' q with z | z
      · rw [hF] at z; cases z
      · rcases z with z | ⟨xs, z⟩
        · rw [hH] at z; cases z
        · have e1 := g.fh b u' q
          rw [g.eH b u hH] at e1
          cases e1
          exact absurd z (nt xs)
  inj := ok.inj
/-- an object that no slot owns is told to be shared from now on -/
theorem Ok.adopt (ok0 : Ok F0 H0 F H ρ σ) (ok : Ok F0 H0 F' H' ρ σ) (h : H a = none) (h' : H' a = some o) : Ok F0 H0 (upd F' a o) H' ρ σ := by
  by_cases hF : F' a = none
  · refine ⟨ok.len, ok.eH, ok.eF.trans (Ex.new hF), fun b u q => ?_, fun b u q => ?_, fun i s hs => ?_, ok.inj⟩
    · by_cases hb : b = a
      · subst hb; rw [upd_same] at q; rw [h']; exact q
      · rw [upd_ne hb] at q; exact ok.fh b u q
    · by_cases hb : b = a
      · subst hb; exact .inr (.inl (fresh_back ok0.eH h))
      · rw [upd_ne hb] at q; exact ok.new b u q
    · refine (ok.slot i s hs).move (Ex.new hF) fun b u hx ho hb hH _ => ⟨?_, hH⟩
      obtain ⟨c, u2, q1, _, _, q4, _⟩ := (ok0.slot i s hs).addr ho
      rw [q1] at hx
      cases hx
      rw [upd_ne (ne_of_none q4 h)]
      exact hb
  · obtain ⟨u, hu⟩ : ∃ u, F' a = some u := by
      cases q : F' a with
      | none => exact absurd q hF
      | some u => exact ⟨u, rfl⟩
    have e : u = o := Option.some.inj ((ok.fh a u hu).symm.trans h')
    subst e
    have : upd F' a u = F' := by
      funext b
      by_cases hb : b = a
      · subst hb; rw [upd_same, hu]
      · rw [upd_ne hb]
    rw [this]
    exact ok
theorem Ok.setSh (ok : Ok F0 H0 F H ρ σ) {d : Dat} {v : V} (r : Rp F d v) (i : Nat) : Ok F0 H0 F H (ρ.set i (some (.sh d))) (σ.set i (some v)) := by
  refine ⟨by simpa using ok.len, ok.eH, ok.eF, ok.fh, ok.new, fun j s h => ?_, fun j k s t h1 h2 o1 o2 e => ?_⟩
  · by_cases hj : i = j
    · subst hj
      by_cases hl : i < ρ.length
      · rw [List.getElem?_set_self hl] at h
        cases h
        rw [List.getElem?_set_self (by rw [← ok.len]; exact hl)]
        exact ⟨v, rfl, r⟩
      · rw [List.getElem?_eq_none (by simpa using hl)] at h
        cases h
    · rw [List.getElem?_set_ne hj] at h ⊢
      exact ok.slot j s h
  · have hj : i ≠ j := fun z => by
      subst z
      by_cases hl : i < ρ.length
      · rw [List.getElem?_set_self hl] at h1
        cases h1
        cases o1
      · rw [List.getElem?_eq_none (by simpa using hl)] at h1
        cases h1
    have hk : i ≠ k := fun z => by
      subst z
      by_cases hl : i < ρ.length
      · rw [List.getElem?_set_self hl] at h2
        cases h2
        cases o2
      · rw [List.getElem?_eq_none (by simpa using hl)] at h2
        cases h2
    rw [List.getElem?_set_ne hj] at h1 e
    rw [List.getElem?_set_ne hk] at h2 e
    exact ok.inj j k s t h1 h2 o1 o2 e
theorem Ok.setNone (ok : Ok F0 H0 F H ρ σ) (i : Nat) : Ok F0 H0 F H (ρ.set i none) (σ.set i none) := by
  refine ⟨by simpa using ok.len, ok.eH, ok.eF, ok.fh, ok.new, fun j s h => ?_, fun j k s t h1 h2 o1 o2 e => ?_⟩
  · by_cases hj : i = j
    · subst hj
      by_cases hl : i < ρ.length
      · rw [List.getElem?_set_self hl] at h
        cases h
      · rw [List.getElem?_eq_none (by simpa using hl)] at h
        cases h
    · rw [List.getElem?_set_ne hj] at h ⊢
      exact ok.slot j s h
  · have hj : i ≠ j := fun z => by
      subst z
      by_cases hl : i < ρ.length
      · rw [List.getElem?_set_self hl] at h1
        cases h1
      · rw [List.getElem?_eq_none (by simpa using hl)] at h1
        cases h1
    have hk : i ≠ k := fun z => by
      subst z
      by_cases hl : i < ρ.length
      · rw [List.getElem?_set_self hl] at h2
        cases h2
      · rw [List.getElem?_eq_none (by simpa using hl)] at h2
        cases h2
    rw [List.getElem?_set_ne hj] at h1 e
    rw [List.getElem?_set_ne hk] at h2 e
    exact ok.inj j k s t h1 h2 o1 o2 e
/-- a slot takes an object that no slot owns -/
theorem Ok.setFar (ok : Ok F0 H0 F' H' ρ σ) (apart : ∀ (j : Nat) (t : Slot), ρ[j]? = some (some t) → t.own = true → σ[j]? ≠ some (some (.ref a))) {s : Slot} (hs : SlOk H0 F' H' (some (some (.ref a))) s) (i : Nat) : Ok F0 H0 F' H' (ρ.set i (some s)) (σ.set i (some (.ref a))) := by
  refine ⟨by simpa using ok.len, ok.eH, ok.eF, ok.fh, ok.new, fun j t h => ?_, fun j k s' t h1 h2 o1 o2 e => ?_⟩
  · by_cases hj : i = j
    · subst hj
      by_cases hl : i < ρ.length
      · rw [List.getElem?_set_self hl] at h
        cases h
        rw [List.getElem?_set_self (by rw [← ok.len]; exact hl)]
        exact hs
      · rw [List.getElem?_eq_none (by simpa using hl)] at h
        cases h
    · rw [List.getElem?_set_ne hj] at h ⊢
      exact ok.slot j t h
  · by_cases hj : i = j
    · by_cases hk : i = k
      · exact hj.symm.trans hk
      · subst hj
        rw [List.getElem?_set_ne hk] at h2
        have hl : i < ρ.length := by
          by_cases hl : i < ρ.length
          · exact hl
          · rw [List.getElem?_eq_none (by simpa using hl)] at h1
            cases h1
        rw [List.getElem?_set_self (by rw [← ok.len]; exact hl), List.getElem?_set_ne hk] at e
        exact absurd e.symm (apart k t h2 o2)
    · by_cases hk : i = k
      · subst hk
        rw [List.getElem?_set_ne hj] at h1
        have hl : i < ρ.length := by
          by_cases hl : i < ρ.length
          · exact hl
          · rw [List.getElem?_eq_none (by simpa using hl)] at h2
            cases h2
        rw [List.getElem?_set_self (by rw [← ok.len]; exact hl), List.getElem?_set_ne hj] at e
        exact absurd e (apart j s' h1 o1)
      · rw [List.getElem?_set_ne hj] at h1 e
        rw [List.getElem?_set_ne hk] at h2 e
        exact ok.inj j k s' t h1 h2 o1 o2 e
theorem Ok.setOwn (ok0 : Ok F0 H0 F H ρ σ) (ok : Ok F0 H0 F' H' ρ σ) (h : H a = none) {s : Slot} (hs : SlOk H0 F' H' (some (some (.ref a))) s) (i : Nat) : Ok F0 H0 F' H' (ρ.set i (some s)) (σ.set i (some (.ref a))) := by
  have apart : ∀ (j : Nat) (t : Slot), ρ[j]? = some (some t) → t.own = true → σ[j]? ≠ some (some (.ref a)) := fun j t h1 o1 e => by
    obtain ⟨c, u2, q1, _, _, q4, _⟩ := (ok0.slot j t h1).addr o1
    rw [q1] at e
    cases e
    rw [h] at q4
    cases q4
  exact ok.setFar apart hs i
/-- an owned object is changed -/
theorem Ok.change (ok : Ok F0 H0 F H ρ σ) {s t : Slot} (hi : ρ[i]? = some (some s)) (hx : σ[i]? = some (some (.ref a))) (hs : s.own = true) (ht : SlOk H0 F (upd H a o) (some (some (.ref a))) t) : Ok F0 H0 F (upd H a o) (ρ.set i (some t)) σ := by
  have hl : i < ρ.length := by
    by_cases hl : i < ρ.length
    · exact hl
    · rw [List.getElem?_eq_none (by simpa using hl)] at hi
      cases hi
  obtain ⟨c, u, q1, q2, q3, q4, _⟩ := (ok.slot i s hi).addr hs
  rw [hx] at q1
  cases q1
  have old : ∀ (j : Nat) (s' : Slot), (ρ.set i (some t))[j]? = some (some s') → s'.own = true → ∃ s'', ρ[j]? = some (some s'') ∧ s''.own = true := fun j s' h1 o1 => by
    by_cases hj : i = j
    · subst hj; exact ⟨s, hi, hs⟩
    · rw [List.getElem?_set_ne hj] at h1
      exact ⟨s', h1, o1⟩
  refine ⟨by simpa using ok.len, Ex.mut ok.eH q3, ok.eF, Ex.mut ok.fh q2, ok.new, fun j s' h1 => ?_, fun j k s' t' h1 h2 o1 o2 e => ?_⟩
  · by_cases hj : i = j
    · subst hj
      rw [List.getElem?_set_self hl] at h1
      cases h1
      rw [hx]
      exact ht
    · rw [List.getElem?_set_ne hj] at h1
      refine (ok.slot j s' h1).move (Ex.refl F) fun b u' hb ho hF hH _ => ⟨hF, ?_⟩
      have : b ≠ a := fun z => by
        subst z
        exact hj (ok.inj i j s s' hi h1 hs ho (hx.trans hb.symm))
      rw [upd_ne this]
      exact hH
  · obtain ⟨s1, e1, p1⟩ := old j s' h1 o1
    obtain ⟨s2, e2, p2⟩ := old k t' h2 o2
    exact ok.inj j k s1 s2 e1 e2 p1 p2 e
/-- an owned object is shared from now on -/
theorem Ok.freeze (ok : Ok F0 H0 F H ρ σ) {s : Slot} {d : Dat} (hi : ρ[i]? = some (some s)) (hx : σ[i]? = some (some (.ref a))) (hs : s.own = true) (hH : H a = some o) (hd : Rp (upd F a o) d (.ref a)) : Ok F0 H0 (upd F a o) H (ρ.set i (some (.sh d))) σ := by
  have hl : i < ρ.length := by
    by_cases hl : i < ρ.length
    · exact hl
    · rw [List.getElem?_eq_none (by simpa using hl)] at hi
      cases hi
  obtain ⟨c, u, q1, q2, q3, q4, _⟩ := (ok.slot i s hi).addr hs
  rw [hx] at q1
  cases q1
  refine ⟨by simpa using ok.len, ok.eH, ok.eF.trans (Ex.new q2), fun b u' h => ?_, fun b u' h => ?_, fun j s' h1 => ?_, fun j k s' t' h1 h2 o1 o2 e => ?_⟩
  · by_cases hb : b = a
    · subst hb; rw [upd_same] at h; rw [hH]; exact h
    · rw [upd_ne hb] at h; exact ok.fh b u' h
  · by_cases hb : b = a
    · subst hb; exact .inr (.inl q3)
    · rw [upd_ne hb] at h; exact ok.new b u' h
  · by_cases hj : i = j
    · subst hj
      rw [List.getElem?_set_self hl] at h1
      cases h1
      exact ⟨_, hx, hd⟩
    · rw [List.getElem?_set_ne hj] at h1
      refine (ok.slot j s' h1).move (Ex.new q2) fun b u' hb ho hF hH _ => ⟨?_, hH⟩
      have : b ≠ a := fun z => by
        subst z
        exact hj (ok.inj i j s s' hi h1 hs ho (hx.trans hb.symm))
      rw [upd_ne this]
      exact hF
  · have hj : i ≠ j := fun z => by
      subst z
      rw [List.getElem?_set_self hl] at h1
      cases h1
      cases o1
    have hk : i ≠ k := fun z => by
      subst z
      rw [List.getElem?_set_self hl] at h2
      cases h2
      cases o2
    rw [List.getElem?_set_ne hj] at h1
    rw [List.getElem?_set_ne hk] at h2
    exact ok.inj j k s' t' h1 h2 o1 o2 e
/-- another base of what is shared -/
theorem Ok.rebase (ok : Ok F0 H0 F H ρ σ) : Ok F H0 F H ρ σ := ⟨ok.len, ok.eH, Ex.refl F, ok.fh, fun _ _ h => .inl h, ok.slot, ok.inj⟩
theorem Ok.unbase {F1 H1 : Hp} {ρ' : EnvD} {σ' : L2.St} (ok : Ok F0 H0 F H ρ σ) (ok' : Ok F H0 F1 H1 ρ' σ') : Ok F0 H0 F1 H1 ρ' σ' :=
  ⟨ok'.len, ok'.eH, ok.eF.trans ok'.eF, ok'.fh, fun a o h => (ok'.new a o h).elim (fun q => ok.new a o q) .inr, ok'.slot, ok'.inj⟩
/-- at the entry: the parameters -/
theorem RpL.slots {vs : List V} : ∀ {ds : List Dat}, RpL F ds vs → ∀ (i : Nat) (s : Slot), (ds.map fun d => some (Slot.sh d))[i]? = some (some s) → SlOk H0 F H (vs.map some)[i]? s := fun {ds} r i s h => by
  rw [List.getElem?_map] at h
  cases e : ds[i]? with
  | none => rw [e] at h; cases h
  | some d =>
    rw [e] at h
    cases h
    obtain ⟨v, q1, q2⟩ := r.get e
    rw [List.getElem?_map, q1]
    exact ⟨v, rfl, q2⟩
def startD (n : Nat) (ds : List Dat) : EnvD := ds.map (fun d => some (Slot.sh d)) ++ List.replicate (n - ds.length) none
theorem Ok.start {N : List Str} {vs : List V} {ds : List Dat} (e : Ex F H) (r : RpL F ds vs) : Ok F H F H (startD N.length ds) (start N vs) := by
  have hl : ds.length = vs.length := r.length
  refine ⟨by simp [startD, L2.start, hl], Ex.refl H, Ex.refl F, e, fun _ _ h => .inl h, fun i s h => ?_, fun i j s t h1 h2 o1 o2 _ => ?_⟩
  · unfold startD at h
    by_cases hi : i < ds.length
    · rw [List.getElem?_append_left (by simpa using hi)] at h
      unfold L2.start
      rw [List.getElem?_append_left (by simpa [← hl] using hi)]
      exact r.slots i s h
    · rw [List.getElem?_append_right (by simpa using hi), List.getElem?_replicate] at h
      split at h <;> cases h
  · unfold startD at h1
    by_cases hi : i < ds.length
    · rw [List.getElem?_append_left (by simpa using hi), List.getElem?_map] at h1
      cases e : ds[i]? with
      | none => rw [e] at h1; cases h1
      | some d => rw [e] at h1; cases h1; cases o1
    · rw [List.getElem?_append_right (by simpa using hi), List.getElem?_replicate] at h1
      split at h1 <;> cases h1
end
end DL
/-! Readings without a heap: expressions, tests, arguments, statements, loops, comprehensions. -/
namespace DL
open PySem PySem.Spec PyProof.Rows L2 Evl
theorem Gr.adopt {F H F' H' : Hp} {a : Addr} {o : HO} (g : Gr F H F' H') (h : H a = none) (hF : F' a = none) (h' : H' a = some o) : Gr F H (upd F' a o) H' := by
  refine ⟨g.eF.trans (Ex.new hF), g.eH, fun b u q => ?_, fun b u q => ?_⟩
  · by_cases hb : b = a
    · subst hb; rw [upd_same] at q; rw [h']; exact q
    · rw [upd_ne hb] at q; exact g.fh b u q
  · by_cases hb : b = a
    · subst hb; exact .inr (.inl h)
    · rw [upd_ne hb] at q; exact g.new b u q
/-- an object that was not there and is not shared changes -/
theorem Gr.mut {F H F' H' : Hp} {a : Addr} {o : HO} (g : Gr F H F' H') (h : H a = none) (hF : F' a = none) : Gr F H F' (upd H' a o) :=
  ⟨g.eF, Ex.mut g.eH h, Ex.mut g.fh hF, g.new⟩
theorem Gr.out {F H F' H' : Hp} {a : Addr} {u : HO} (g : Gr F H F' H') (hF : F a = none) (hH : H a = some u) (nt : ∀ xs, u ≠ HO.tup xs := by intro _ z; cases z) : F' a = none ∧ H' a = some u := by
  refine ⟨?_, g.eH a u hH⟩
  cases q : F' a with
  | none => rfl
  | some u' =>
    rcases g.new a u' q with z | z
    · rw [hF] at z; cases z
    · rcases z with z | ⟨xs, z⟩
      · rw [hH] at z; cases z
      · have e1 := g.fh a u' q
        rw [g.eH a u hH] at e1
        cases e1
        exact absurd z (nt xs)
theorem rpl_cons {F : Hp} {d : Dat} {ds : List Dat} {v : V} {vs : List V} (h : Rp F d v) (g : RpL F ds vs) : RpL F (d :: ds) (v :: vs) := ⟨v, vs, rfl, h, g⟩
theorem rp_tup {F : Hp} {ds : List Dat} {a : Addr} {vs : List V} (h : F a = some (.tup vs)) (g : RpL F ds vs) : Rp F (.tup ds) (.ref a) := ⟨a, vs, rfl, h, g⟩
theorem rp_lst {F : Hp} {ds : List Dat} {a : Addr} {vs : List V} (h : F a = some (.lst vs)) (g : RpL F ds vs) : Rp F (.lst ds) (.ref a) := ⟨a, vs, rfl, h, g⟩
abbrev ED : Type := EnvD → (Dat → Prop) → Prop
abbrev EA : Type := EnvD → (List Dat → Prop) → Prop
abbrev ETe : Type := EnvD → (Bool → Prop) → Prop
def EvD (te : TE) (p : ED) : Prop := ∀ (F0 H0 F H : Hp) (ρ : EnvD) (σ : L2.St) (k : Dat → Prop) (Q : VK), Ok F0 H0 F H ρ σ → p ρ k → (∀ d v F' H', Gr F H F' H' → Rp F' d v → k d → Q v H') → te σ H Q
/-- a new list -/
def EvL (te : TE) (p : EA) : Prop := ∀ (F0 H0 F H : Hp) (ρ : EnvD) (σ : L2.St) (k : List Dat → Prop) (Q : VK), Ok F0 H0 F H ρ σ → p ρ k →
  (∀ ds a vs F' H', Gr F H F' H' → H a = none → F' a = none → H' a = some (.lst vs) → RpL F' ds vs → k ds → Q (.ref a) H') → te σ H Q
def EvA (ta : TA) (p : EA) : Prop := ∀ (F0 H0 F H : Hp) (ρ : EnvD) (σ : L2.St) (k : List Dat → Prop) (Q : List V → Hp → Prop), Ok F0 H0 F H ρ σ → p ρ k → (∀ ds vs F' H', Gr F H F' H' → RpL F' ds vs → k ds → Q vs H') → ta σ H Q
def EvT (tt : TT) (p : ETe) : Prop := ∀ (F0 H0 F H : Hp) (ρ : EnvD) (σ : L2.St) (k : Bool → Prop) (Q : Bool → Hp → Prop), Ok F0 H0 F H ρ σ → p ρ k → (∀ b F' H', Gr F H F' H' → k b → Q b H') → tt σ H Q
structure PD (X : Cx) (e : Expr) (te : TE) (p : ED) : Prop where
  run : PE X e te
  ev : EvD te p
structure PL (X : Cx) (e : Expr) (te : TE) (p : EA) : Prop where
  run : PE X e te
  ev : EvL te p
structure PDA (X : Cx) (es : List Expr) (ta : TA) (p : EA) : Prop where
  run : PA X es ta
  ev : EvA ta p
structure PDT (X : Cx) (e : Expr) (tt : TT) (p : ETe) : Prop where
  run : PT X e tt
  ev : EvT tt p
structure PDW (X : Cx) (e : Expr) (tt : TT) (p : ETe) : Prop where
  run : PW X e tt
  ev : EvT tt p
section
variable {X : Cx} {pos : Pos} {a b e o : Expr} {ta tb te to : TE} {p q : ED}
/-! ### names, constants, displays -/
def hVar (i : Nat) : ED := fun ρ k => ∃ d, ρ[i]? = some (some (.sh d)) ∧ k d
def hC (d : Dat) : ED := fun _ k => k d
theorem ev_var (i : Nat) : EvD (tVar i) (hVar i) := fun F0 H0 F H ρ σ k Q ok ⟨d, h, hk⟩ q => by
  obtain ⟨v, h1, h2⟩ := ok.slot i _ h
  exact ⟨v, h1, q d v F H (Gr.refl ok.fh) h2 hk⟩
theorem pdv (i : Nat) {x : Str} (hN : X.N[i]? = some x := by rfl) (hv : Vis X.env.scope x := by first | exact Or.inl rfl | exact Or.inr (Or.inl rfl) | exact Or.inr (Or.inr rfl)) (hd : (x == ("__debug__" : Str)) = false := by decide)
    (hcd : (x == ("__classdict__" : Str)) = false := by decide) : PD X (.Name x pos) (tVar i) (hVar i) := ⟨pe_var hN hv hd hcd, ev_var i⟩
theorem ev_c {v : V} {d : Dat} (h : ∀ F, Rp F d v) : EvD (tC v) (hC d) := fun F0 H0 F H ρ σ k Q ok hk q => q d v F H (Gr.refl ok.fh) (h F) hk
theorem pd_int {i j} : PD X (.Constant (.int i) j pos) (tC (.int i)) (hC (.int i)) := ⟨pe_int, ev_c fun _ => by unfold Rp; rfl⟩
theorem pd_bl {b j} : PD X (.Constant (.bool b) j pos) (tC (.bl b)) (hC (.bl b)) := ⟨pe_bl, ev_c fun _ => by unfold Rp; rfl⟩
theorem pd_non {j} : PD X (.Constant .none j pos) (tC .non) (hC .non) := ⟨pe_non, ev_c fun _ => by unfold Rp; rfl⟩
theorem pd_str {x j} : PD X (.Constant (.str x) j pos) (tC (.str x)) (hC (.str x)) := ⟨pe_str, ev_c fun _ => by unfold Rp; rfl⟩
def hNil : EA := fun _ k => k []
def hCons (p : ED) (r : EA) : EA := fun ρ k => p ρ fun d => r ρ fun ds => k (d :: ds)
theorem pda_nil : PDA X [] tNil hNil := ⟨pa_nil, fun F0 H0 F H ρ σ k Q ok hk q => q [] [] F H (Gr.refl ok.fh) rfl hk⟩
theorem pda_cons {es : List Expr} {t : TA} {r : EA} (h : PD X e te p) (hr : PDA X es t r) (hs : starEach (e :: es) X.env = (false, eval e X.env) :: starEach es X.env := by rfl) : PDA X (e :: es) (tCons te t) (hCons p r) :=
  ⟨pa_cons h.run hr.run hs, fun F0 H0 F H ρ σ k Q ok hk q => h.ev F0 H0 F H ρ σ _ _ ok hk fun d v F1 H1 g1 r1 hk1 => hr.ev F0 H0 F1 H1 ρ σ _ _ (ok.gr g1) hk1 fun ds vs F2 H2 g2 r2 hk2 =>
    q _ _ F2 H2 (g1.trans g2) (rpl_cons (Rp.mono g2.eF d r1) r2) hk2⟩
theorem small_len {n : Nat} (h : n ≤ 100000) : n ≤ sizeLine := Nat.le_trans h (by decide)
theorem small_lt {n : Nat} (h : n < 100000) : n < sizeLine := Nat.lt_of_lt_of_le h (by decide)
def hTup (r : EA) : ED := fun ρ k => r ρ fun ds => ds.length ≤ 100000 ∧ k (.tup ds)
theorem pd_tup {es : List Expr} {t : TA} {r : EA} {x1} (h : PDA X es t r) : PD X (.Tuple es x1 pos) (tTup t) (hTup r) :=
  ⟨pe_tup h.run, fun F0 H0 F H ρ σ k Q ok hk q => h.ev F0 H0 F H ρ σ _ _ ok hk fun ds vs F1 H1 g1 r1 ⟨hl, hk1⟩ => ⟨by rw [← r1.length]; exact small_len hl, fun a ha =>
    q _ _ _ _ (g1.trans (Gr.laid g1.fh ha)) (rp_tup upd_same (RpL.mono (Gr.laid g1.fh ha).eF ds r1)) hk1⟩⟩
def hLst (r : EA) : EA := fun ρ k => r ρ fun ds => ds.length ≤ 100000 ∧ k ds
theorem pl_lst {es : List Expr} {t : TA} {r : EA} (h : PDA X es t r) : PL X (.List es pos) (tLst t) (hLst r) :=
  ⟨pe_lst h.run, fun F0 H0 F H ρ σ k Q ok hk q => h.ev F0 H0 F H ρ σ _ _ ok hk fun ds vs F1 H1 g1 r1 ⟨hl, hk1⟩ => ⟨by rw [← r1.length]; exact small_len hl, fun a ha =>
    q ds a vs F1 _ (g1.trans (Gr.made g1.fh ha)) (fresh_back g1.eH ha) (fresh_back g1.fh ha) upd_same r1 hk1⟩⟩
/-- a new list as a value that is shared -/
def hSh (r : EA) : ED := fun ρ k => r ρ fun ds => k (.lst ds)
theorem pd_sh {r : EA} (h : PL X e te r) : PD X e te (hSh r) :=
  ⟨h.run, fun F0 H0 F H ρ σ k Q ok hk q => h.ev F0 H0 F H ρ σ _ _ ok hk fun ds a vs F1 H1 g1 hn hF hH r1 hk1 =>
    q _ _ _ _ (g1.adopt hn hF hH) (rp_lst upd_same (RpL.mono (Ex.new hF) ds r1)) hk1⟩
/-! ### operators -/
def R2D (r : R2) (z : Dat → Dat → (Dat → Prop) → Prop) : Prop := ∀ (F H : Hp) (x y : V) (dx dy : Dat) (k : Dat → Prop) (Q : VK), Ex F H → Rp F dx x → Rp F dy y → z dx dy k → (∀ d v F' H', Gr F H F' H' → Rp F' d v → k d → Q v H') → r x y H Q
def hOp (z : Dat → Dat → (Dat → Prop) → Prop) (p q : ED) : ED := fun ρ k => p ρ fun x => q ρ fun y => z x y k
theorem ev_op {r : R2} {z : Dat → Dat → (Dat → Prop) → Prop} (hr : R2D r z) (ha : EvD ta p) (hb : EvD tb q) : EvD (tOp r ta tb) (hOp z p q) := fun F0 H0 F H ρ σ k Q ok hk hq =>
  ha F0 H0 F H ρ σ _ _ ok hk fun d v F1 H1 g1 r1 hk1 => hb F0 H0 F1 H1 ρ σ _ _ (ok.gr g1) hk1 fun e w F2 H2 g2 r2 hk2 =>
    hr F2 H2 v w d e k Q g2.fh (Rp.mono g2.eF d r1) r2 hk2 fun d' v' F' H' g3 r3 hk3 => hq d' v' F' H' ((g1.trans g2).trans g3) r3 hk3
theorem pd_op {op : Operator} {r : R2} {z : Dat → Dat → (Dat → Prop) → Prop} (ho : OpR X (binaryOp op) r) (hr : R2D r z) (ha : PD X a ta p) (hb : PD X b tb q) : PD X (.BinOp a op b pos) (tOp r ta tb) (hOp z p q) := ⟨pe_op ho ha.run hb.run, ev_op hr ha.ev hb.ev⟩
theorem pd_cmp {op : CmpOp} {r : R2} {z : Dat → Dat → (Dat → Prop) → Prop} (ho : OpR X (compareOp op) r) (hr : R2D r z) (ha : PD X a ta p) (hb : PD X b tb q) (hm : behindInMarks op b = false := by first | exact nomark _ | rfl) : PD X (.Compare a [op] [b] pos) (tOp r ta tb) (hOp z p q) := ⟨pe_cmpR ho ha.run hb.run hm, ev_op hr ha.ev hb.ev⟩
/-- a value that is a bool, as a test -/
def hB (p : ED) : ETe := fun ρ k => p ρ fun d => ∃ b, d = .bl b ∧ k b
theorem ev_B (h : EvD te p) : EvT (tB te) (hB p) := fun F0 H0 F H ρ σ k Q ok hk q => h F0 H0 F H ρ σ _ _ ok hk fun d v F1 H1 g1 r1 ⟨b, e, hk1⟩ => by
  subst e
  exact ⟨b, r1, q b F1 H1 g1 hk1⟩
theorem pdt_cmp {op : CmpOp} {r : R2} {z : Dat → Dat → (Dat → Prop) → Prop} (ho : OpR X (compareOp op) r) (hr : R2D r z) (ha : PD X a ta p) (hb : PD X b tb q) (hm : behindInMarks op b = false := by first | exact nomark _ | rfl) : PDT X (.Compare a [op] [b] pos) (tTest (tOp r ta tb)) (hB (hOp z p q)) := ⟨pt_cmpR ho ha.run hb.run hm, ev_B (ev_op hr ha.ev hb.ev)⟩
theorem pdt_val (h : PD X e te p) (he : ∀ whole, isTrue e X.env whole = (do let v ← whole; standAt e.pos; holding [v] (truthy v)) := by intro _; rfl) : PDT X e (tB te) (hB p) := ⟨pt_val h.run he, ev_B h.ev⟩
theorem pd_ix {r : R2} {z : Dat → Dat → (Dat → Prop) → Prop} (ho : IxR X r) (hr : R2D r z) (ha : PD X a ta p) (hb : PD X b tb q) (hs : PlainIx b := by exact fun _ _ => rfl) : PD X (.Subscript a b pos) (tOp r ta tb) (hOp z p q) := ⟨pe_ix ho ha.run hb.run hs, ev_op hr ha.ev hb.ev⟩
/-- one-place -/
def RuD (r : V → Hp → VK → Prop) (z : Dat → (Dat → Prop) → Prop) : Prop := ∀ (F H : Hp) (x : V) (dx : Dat) (k : Dat → Prop) (Q : VK), Ex F H → Rp F dx x → z dx k → (∀ d v F' H', Gr F H F' H' → Rp F' d v → k d → Q v H') → r x H Q
def hUn (z : Dat → (Dat → Prop) → Prop) (p : ED) : ED := fun ρ k => p ρ fun x => z x k
theorem pd_un {op : UnaryOp} {r : V → Hp → VK → Prop} {z : Dat → (Dat → Prop) → Prop} (ho : UnR X (unaryOp op) r) (hr : RuD r z) (ha : PD X a ta p) : PD X (.UnaryOp op a pos) (tUn r ta) (hUn z p) :=
  ⟨pe_un ho ha.run, fun F0 H0 F H ρ σ k Q ok hk q => ha.ev F0 H0 F H ρ σ _ _ ok hk fun d v F1 H1 g1 r1 hk1 => hr F1 H1 v d k Q g1.fh r1 hk1 fun d' v' F' H' g3 r3 hk3 => q d' v' F' H' (g1.trans g3) r3 hk3⟩
/-! ### and, or, not -/
variable {rest : List Expr} {tA tB' : TT} {c u : ETe}
def hAnd (c u : ETe) : ETe := fun ρ k => c ρ fun b => if b = true then u ρ k else k false
def hOr (c u : ETe) : ETe := fun ρ k => c ρ fun b => if b = true then k true else u ρ k
def hNot (c : ETe) : ETe := fun ρ k => c ρ fun b => k (!b)
theorem pdw_and1 (h : PDT X a tA c) : PDW X (.BoolOp .And [a] pos) tA c := ⟨pw_and1 h.run, h.ev⟩
theorem pdw_or1 (h : PDT X a tA c) : PDW X (.BoolOp .Or [a] pos) tA c := ⟨pw_or1 h.run, h.ev⟩
theorem pdw_and (h : PDT X a tA c) (g : PDW X (.BoolOp .And (b :: rest) pos) tB' u) : PDW X (.BoolOp .And (a :: b :: rest) pos) (tAnd tA tB') (hAnd c u) :=
  ⟨pw_and h.run g.run, fun F0 H0 F H ρ σ k Q ok hk q => h.ev F0 H0 F H ρ σ _ _ ok hk fun d F1 H1 g1 hk1 => by
    cases d with
    | true => exact g.ev F0 H0 F1 H1 ρ σ k Q (ok.gr g1) hk1 fun d F2 H2 g2 hk2 => q d F2 H2 (g1.trans g2) hk2
    | false => exact q false F1 H1 g1 hk1⟩
theorem pdw_or (h : PDT X a tA c) (g : PDW X (.BoolOp .Or (b :: rest) pos) tB' u) : PDW X (.BoolOp .Or (a :: b :: rest) pos) (tOr tA tB') (hOr c u) :=
  ⟨pw_or h.run g.run, fun F0 H0 F H ρ σ k Q ok hk q => h.ev F0 H0 F H ρ σ _ _ ok hk fun d F1 H1 g1 hk1 => by
    cases d with
    | true => exact q true F1 H1 g1 hk1
    | false => exact g.ev F0 H0 F1 H1 ρ σ k Q (ok.gr g1) hk1 fun d F2 H2 g2 hk2 => q d F2 H2 (g1.trans g2) hk2⟩
theorem PDW.t (h : PDW X e tA c) : PDT X e tA c := ⟨h.run.pt, h.ev⟩
theorem pdt_not (h : PDT X a tA c) : PDT X (.UnaryOp .Not a pos) (tNot tA) (hNot c) :=
  ⟨pt_not h.run, fun F0 H0 F H ρ σ k Q ok hk q => h.ev F0 H0 F H ρ σ _ _ ok hk fun d F1 H1 g1 hk1 => q (!d) F1 H1 g1 hk1⟩
/-- as values -/
def hAndV (p q : ED) : ED := fun ρ k => p ρ fun x => ∃ c, x = .bl c ∧ if c = true then q ρ k else k (.bl false)
def hOrV (p q : ED) : ED := fun ρ k => p ρ fun x => ∃ c, x = .bl c ∧ if c = true then k (.bl true) else q ρ k
def hNotV (p : ED) : ED := fun ρ k => p ρ fun x => ∃ c, x = .bl c ∧ k (.bl (!c))
theorem pd_one {op} (h : PD X a ta p) : PD X (.BoolOp op [a] pos) ta p := ⟨pe_one h.run, h.ev⟩
theorem pd_and (h : PD X a ta p) (g : PD X (.BoolOp .And (b :: rest) pos) tb q) : PD X (.BoolOp .And (a :: b :: rest) pos) (tAndV ta tb) (hAndV p q) :=
  ⟨pe_and h.run g.run, fun F0 H0 F H ρ σ k Q ok hk hq => h.ev F0 H0 F H ρ σ _ _ ok hk fun d v F1 H1 g1 r1 ⟨c, e, hk1⟩ => by
    subst e
    refine ⟨c, r1, ?_⟩
    cases c with
    | true => exact g.ev F0 H0 F1 H1 ρ σ k Q (ok.gr g1) hk1 fun d v F2 H2 g2 r2 hk2 => hq d v F2 H2 (g1.trans g2) r2 hk2
    | false => exact hq (.bl false) (.bl false) F1 H1 g1 (by unfold Rp; rfl) hk1⟩
theorem pd_or (h : PD X a ta p) (g : PD X (.BoolOp .Or (b :: rest) pos) tb q) : PD X (.BoolOp .Or (a :: b :: rest) pos) (tOrV ta tb) (hOrV p q) :=
  ⟨pe_or h.run g.run, fun F0 H0 F H ρ σ k Q ok hk hq => h.ev F0 H0 F H ρ σ _ _ ok hk fun d v F1 H1 g1 r1 ⟨c, e, hk1⟩ => by
    subst e
    refine ⟨c, r1, ?_⟩
    cases c with
    | true => exact hq (.bl true) (.bl true) F1 H1 g1 (by unfold Rp; rfl) hk1
    | false => exact g.ev F0 H0 F1 H1 ρ σ k Q (ok.gr g1) hk1 fun d v F2 H2 g2 r2 hk2 => hq d v F2 H2 (g1.trans g2) r2 hk2⟩
theorem pd_not (h : PD X a ta p) : PD X (.UnaryOp .Not a pos) (tNotV ta) (hNotV p) :=
  ⟨pe_not h.run, fun F0 H0 F H ρ σ k Q ok hk q => h.ev F0 H0 F H ρ σ _ _ ok hk fun d v F1 H1 g1 r1 ⟨c, e, hk1⟩ => by
    subst e
    exact ⟨c, r1, q (.bl (!c)) (.bl (!c)) F1 H1 g1 (by unfold Rp; rfl) hk1⟩⟩
/-- a chain of two comparisons -/
def hChain (z z' : Dat → Dat → (Dat → Prop) → Prop) (p q s : ED) : ED := fun ρ k => p ρ fun x => q ρ fun y => z x y fun d => ∃ c, d = .bl c ∧ if c = true then s ρ fun w => z' y w k else k (.bl false)
end
end DL
/-! Statements, targets, loops, comprehensions. -/
namespace DL
open PySem PySem.Spec PyProof.Rows L2 Evl
structure EndsD where
  nx : EnvD → Prop
  rt : Dat → Prop
  bk : EnvD → Prop := fun _ => False
  ct : EnvD → Prop := fun _ => False
abbrev TSD : Type := EndsD → EnvD → Prop
structure Link (F0 H0 : Hp) (D : EndsD) (E : Ends) : Prop where
  nx : ∀ F H ρ σ, Ok F0 H0 F H ρ σ → D.nx ρ → E.nx σ H
  rt : ∀ F H d v, Gr F0 H0 F H → Rp F d v → D.rt d → E.rt v H
  bk : ∀ F H ρ σ, Ok F0 H0 F H ρ σ → D.bk ρ → E.bk σ H
  ct : ∀ F H ρ σ, Ok F0 H0 F H ρ σ → D.ct ρ → E.ct σ H
theorem Ok.toGr {F0 H0 F H : Hp} {ρ : EnvD} {σ : L2.St} (ok : Ok F0 H0 F H ρ σ) : Gr F0 H0 F H := ⟨ok.eF, ok.eH, ok.fh, ok.new⟩
theorem Ok.ungr {F0 H0 F1 H1 F H : Hp} {ρ : EnvD} {σ : L2.St} (ok : Ok F0 H0 F1 H1 ρ σ) (g : Gr F1 H0 F H) : Gr F0 H0 F H :=
  ⟨ok.eF.trans g.eF, g.eH, g.fh, fun a o h => (g.new a o h).elim (fun q => ok.new a o q) .inr⟩
def EvS (ts : TS) (p : TSD) : Prop := ∀ (F0 H0 F H : Hp) (ρ : EnvD) (σ : L2.St) (D : EndsD) (E : Ends), Ok F0 H0 F H ρ σ → Link F0 H0 D E → p D ρ → ts E σ H
structure PSd (X : Cx) (st : Stmt) (ts : TS) (p : TSD) : Prop where
  run : PS X st ts
  ev : EvS ts p
structure PBd (X : Cx) (st : List Stmt) (ts : TS) (p : TSD) : Prop where
  run : PSs X st ts
  ev : EvS ts p
section
variable {X : Cx} {pos : Pos} {e a b o : Expr} {te ta tb : TE} {p q : ED} {st : Stmt} {rest : List Stmt} {t u : TS} {P U : TSD}
/-! ### blocks -/
def sNext : TSD := fun D ρ => D.nx ρ
def sSeq (P U : TSD) : TSD := fun D ρ => P { D with nx := U D } ρ
theorem pbd_nil : PBd X [] tNext sNext := ⟨pss_nil, fun F0 H0 F H ρ σ D E ok L h => L.nx F H ρ σ ok h⟩
theorem pbd_one (h : PSd X st t P) : PBd X [st] t P := ⟨pss_one h.run, h.ev⟩
theorem pbd_cons (h : PSd X st t P) (g : PBd X rest u U) : PBd X (st :: rest) (tSeq t u) (sSeq P U) :=
  ⟨pss_cons h.run g.run, fun F0 H0 F H ρ σ D E ok L hp => h.ev F0 H0 F H ρ σ { D with nx := U D } _ ok ⟨fun F H ρ σ ok hU => g.ev F0 H0 F H ρ σ D E ok L hU, L.rt, L.bk, L.ct⟩ hp⟩
def sNever : TSD := fun _ _ => False
theorem psd_never : PSd X st tNever sNever := ⟨ps_never, fun _ _ _ _ _ _ _ _ _ _ h => h.elim⟩
theorem pbd_never {sts : List Stmt} : PBd X sts tNever sNever := ⟨pss_never, fun _ _ _ _ _ _ _ _ _ _ h => h.elim⟩
theorem psd_pass : PSd X (.Pass pos) tNext sNext := ⟨ps_pass, fun F0 H0 F H ρ σ D E ok L h => L.nx F H ρ σ ok h⟩
def sRet (p : ED) : TSD := fun D ρ => p ρ D.rt
theorem psd_ret (h : PD X e te p) : PSd X (.Return (some e) pos) (tRet te) (sRet p) := ⟨ps_ret h.run, fun F0 H0 F H ρ σ D E ok L hp => h.ev F0 H0 F H ρ σ _ _ ok hp fun d v F' H' g r hk => L.rt F' H' d v (ok.gr g).toGr r hk⟩
def sDrop (p : ED) : TSD := fun D ρ => p ρ fun _ => D.nx ρ
theorem psd_expr (h : PD X e te p) (hs : swapsWith e none pos.line X.env = pure false := by rfl) : PSd X (.Expr e pos) (tDrop te) (sDrop p) := ⟨ps_expr h.run hs, fun F0 H0 F H ρ σ D E ok L hp => h.ev F0 H0 F H ρ σ _ _ ok hp fun d v F' H' g r hk => L.nx F' H' ρ σ (ok.gr g) hk⟩
def sIf (c : ETe) (P U : TSD) : TSD := fun D ρ => c ρ fun b => if b = true then P D ρ else U D ρ
theorem psd_if {c : Expr} {A B : List Stmt} {tc : TT} {C : ETe} (hc : PDT X c tc C) (ha : PBd X A t P) (hb : PBd X B u U) : PSd X (.If c A B pos) (tIfS tc t u) (sIf C P U) :=
  ⟨ps_if hc.run ha.run hb.run, fun F0 H0 F H ρ σ D E ok L hp => hc.ev F0 H0 F H ρ σ _ _ ok hp fun d F' H' g hk => by
    cases d with
    | true => exact ha.ev F0 H0 F' H' ρ σ D E (ok.gr g) L hk
    | false => exact hb.ev F0 H0 F' H' ρ σ D E (ok.gr g) L hk⟩
/-! ### targets -/
abbrev TGD : Type := Dat → EnvD → (EnvD → Prop) → Prop
abbrev TGDs : Type := List Dat → EnvD → (EnvD → Prop) → Prop
def Only1 (vs : List Nat) (σ σ' : L2.St) : Prop := σ'.length = σ.length ∧ ∀ j, j ∉ vs → σ'[j]? = σ[j]?
def EvG (g : TG) (vs : List Nat) (q : TGD) : Prop := ∀ (F0 H0 F H : Hp) (ρ : EnvD) (σ : L2.St) (d : Dat) (v : V) (k : EnvD → Prop) (Q : L2.St → Hp → Prop), Ok F0 H0 F H ρ σ → Rp F d v → q d ρ k → (∀ ρ' σ', Ok F0 H0 F H ρ' σ' → Only1 vs σ σ' → k ρ' → Q σ' H) → g v σ H Q
def EvGs (g : TGs) (vs : List Nat) (q : TGDs) : Prop := ∀ (F0 H0 F H : Hp) (ρ : EnvD) (σ : L2.St) (ds : List Dat) (ws : List V) (k : EnvD → Prop) (Q : L2.St → Hp → Prop), Ok F0 H0 F H ρ σ → RpL F ds ws → q ds ρ k → (∀ ρ' σ', Ok F0 H0 F H ρ' σ' → Only1 vs σ σ' → k ρ' → Q σ' H) → g ws σ H Q
structure PGd (X : Cx) (tg : Expr) (g : TG) (vs : List Nat) (q : TGD) : Prop where
  run : PG X tg g
  ev : EvG g vs q
structure PGds (X : Cx) (tgs : List Expr) (g : TGs) (vs : List Nat) (q : TGDs) : Prop where
  run : PGs X tgs g
  ev : EvGs g vs q
theorem Only1.set {vs : List Nat} {σ : L2.St} {i : Nat} {x : Option V} (h : i ∈ vs) : Only1 vs σ (σ.set i x) := ⟨by simp, fun j hj => List.getElem?_set_ne (fun z => hj (by rw [← z]; exact h))⟩
theorem Only1.trans {vs ws : List Nat} {σ σ1 σ2 : L2.St} (h : Only1 vs σ σ1) (g : Only1 ws σ1 σ2) : Only1 (vs ++ ws) σ σ2 :=
  ⟨g.1.trans h.1, fun j hj => (g.2 j fun z => hj (List.mem_append_right _ z)).trans (h.2 j fun z => hj (List.mem_append_left _ z))⟩
def gdName (i : Nat) : TGD := fun d ρ k => k (ρ.set i (some (.sh d)))
theorem ev_name (i : Nat) : EvG (gName i) [i] (gdName i) := fun F0 H0 F H ρ σ d v k Q ok r hk q => q _ _ (ok.setSh r i) (Only1.set (by simp)) hk
theorem pgd_name {i : Nat} {x : Str} (hN : X.N.Nodup) (hi : X.N[i]? = some x) (hx : Loc X.env.scope x) (hf : X.fn x = true ∨ X.env.scope.names.lookup x = some .local := by first | exact .inl rfl | exact .inr rfl | assumption) : PGd X (.Name x pos) (gName i) [i] (gdName i) :=
  ⟨pg_name hN hi hx hf, ev_name i⟩
def gdNil : TGDs := fun ds ρ k => ds = [] ∧ k ρ
def gdCons (g : TGD) (r : TGDs) : TGDs := fun ds ρ k => ∃ d es, ds = d :: es ∧ g d ρ fun ρ' => r es ρ' k
theorem pgds_nil : PGds X [] gNil [] gdNil := ⟨pgs_nil, fun F0 H0 F H ρ σ ds ws k Q ok r ⟨e, hk⟩ q => by
  subst e
  exact ⟨r, q ρ σ ok ⟨rfl, fun _ _ => rfl⟩ hk⟩⟩
theorem pgds_cons {es : List Expr} {g : TG} {gs : TGs} {vs ws : List Nat} {z : TGD} {zs : TGDs} (h1 : PGd X e g vs z) (h2 : PGds X es gs ws zs)
    (hs : (assignEach (e :: es) X.env).map (·.2) = assign e X.env :: (assignEach es X.env).map (·.2) := by rfl) : PGds X (e :: es) (gCons g gs) (vs ++ ws) (gdCons z zs) :=
  ⟨pgs_cons h1.run h2.run hs, fun F0 H0 F H ρ σ ds us k Q ok r ⟨d, es, e, hk⟩ q => by
    subst e
    obtain ⟨v, rs, e1, r1, r2⟩ := r
    subst e1
    exact ⟨v, rs, rfl, h1.ev F0 H0 F H ρ σ d v _ _ ok r1 hk fun ρ1 σ1 ok1 o1 hk1 => h2.ev F0 H0 F H ρ1 σ1 es rs k Q ok1 r2 hk1 fun ρ2 σ2 ok2 o2 hk2 => q ρ2 σ2 ok2 (o1.trans o2) hk2⟩⟩
def gdTup (n : Nat) (r : TGDs) : TGD := fun d ρ k => ∃ ds, d = .tup ds ∧ ds.length = n ∧ r ds ρ k
theorem pgd_tup {es : List Expr} {j n : Nat} {gs : TGs} {vs : List Nat} {zs : TGDs} (hc : X.calm = true) (h : PGds X es gs vs zs)
    (hn : (assignEach es X.env).length = n := by rfl) (hst : (assignEach es X.env).findIdx? (·.1) = none := by rfl) : PGd X (.Tuple es j pos) (gTup X.K n gs) vs (gdTup n zs) :=
  ⟨pg_tup hc h.run hn hst, fun F0 H0 F H ρ σ d v k Q ok r ⟨ds, e, hl, hk⟩ q => by
    subst e
    obtain ⟨a, us, e1, h1, h2⟩ := r
    exact ⟨a, us, e1, SqT.of (ok.fh a _ h1), by rw [← h2.length]; exact hl, h.ev F0 H0 F H ρ σ ds us k Q ok h2 hk q⟩⟩
/-- target = value -/
def sAsg (p : ED) (g : TGD) : TSD := fun D ρ => p ρ fun d => g d ρ D.nx
theorem ev_asg {g : TG} {vs : List Nat} {z : TGD} (h : EvD te p) (hg : EvG g vs z) : EvS (tAsg te g) (sAsg p z) := fun F0 H0 F H ρ σ D E ok L hp => h F0 H0 F H ρ σ _ _ ok hp fun d v F' H' gr r hk =>
  hg F0 H0 F' H' ρ σ d v _ _ (ok.gr gr) r hk fun ρ' σ' ok' _ hk' => L.nx F' H' ρ' σ' ok' hk'
theorem psd_asg {tg : Expr} {g : TG} {vs : List Nat} {z : TGD} (h : PD X e te p) (hg : PGd X tg g vs z) (hs : swapsWithSole [tg] e pos.line X.env = pure false := by rfl) (hw : swappedStores [tg] e X.env = pure none := by rfl)
    (h1 : (assignEach [tg] X.env).map (·.2) = [assign tg X.env] := by rfl) : PSd X (.Assign [tg] e pos) (tAsg te g) (sAsg p z) := ⟨ps_asg h.run hg.run hs hw h1, ev_asg h.ev hg.ev⟩
theorem psd_set {i : Nat} {x : Str} {pos' : Pos} (hN : X.N.Nodup) (hi : X.N[i]? = some x) (hx : Loc X.env.scope x) (h : PD X e te p) (hs : swapsWith e (some (.Name x pos')) pos.line X.env = pure false := by rfl) (hf : X.fn x = true ∨ X.env.scope.names.lookup x = some .local := by first | exact .inl rfl | exact .inr rfl | assumption) :
    PSd X (.Assign [.Name x pos'] e pos) (tAsg te (gName i)) (sAsg p (gdName i)) := ⟨ps_set hN hi hx h.run hs hf, ev_asg h.ev (ev_name i)⟩
/-- a name takes a new list, its own -/
def sOwn (r : EA) (i : Nat) : TSD := fun D ρ => r ρ fun ds => D.nx (ρ.set i (some (.ol ds)))
theorem ev_own {r : EA} (h : EvL te r) (i : Nat) : EvS (tAsg te (gName i)) (sOwn r i) := fun F0 H0 F H ρ σ D E ok L hp => h F0 H0 F H ρ σ _ _ ok hp fun ds a vs F' H' gr hn hF hH r hk =>
  L.nx F' H' _ _ (ok.setOwn (s := .ol ds) (ok.gr gr) hn ⟨a, vs, rfl, hF, fresh_back ok.eH hn, hH, r⟩ i) hk
theorem psd_own {i : Nat} {x : Str} {pos' : Pos} {r : EA} (hN : X.N.Nodup) (hi : X.N[i]? = some x) (hx : Loc X.env.scope x) (h : PL X e te r) (hs : swapsWith e (some (.Name x pos')) pos.line X.env = pure false := by rfl) (hf : X.fn x = true ∨ X.env.scope.names.lookup x = some .local := by first | exact .inl rfl | exact .inr rfl | assumption) :
    PSd X (.Assign [.Name x pos'] e pos) (tAsg te (gName i)) (sOwn r i) := ⟨ps_set hN hi hx h.run hs hf, ev_own h.ev i⟩
/-- a name takes a new dict -/
def sOwnD (i : Nat) : TSD := fun D ρ => D.nx (ρ.set i (some (.od [] [])))
theorem psd_ownD {i : Nat} {x : Str} {pos' p2 : Pos} (hN : X.N.Nodup) (hi : X.N[i]? = some x) (hx : Loc X.env.scope x) (hs : swapsWith (.Dict [] [] p2) (some (.Name x pos')) pos.line X.env = pure false := by rfl) (hf : X.fn x = true ∨ X.env.scope.names.lookup x = some .local := by first | exact .inl rfl | exact .inr rfl | assumption) :
    PSd X (.Assign [.Name x pos'] (.Dict [] [] p2) pos) (tAsg tDNewT (gName i)) (sOwnD i) :=
  ⟨ps_set hN hi hx pe_dnewT hs hf, fun F0 H0 F H ρ σ D E ok L hp a ha => L.nx F _ _ _ (ok.setOwn (s := .od [] []) (ok.gr (Gr.made ok.fh ha)) ha ⟨a, [], rfl, fresh_back ok.fh ha, fresh_back ok.eH ha, upd_same, rfl, rfl⟩ i) hp⟩
theorem rp_dct {F : Hp} {ks : List (List Int)} {ds : List Dat} {a : Addr} {ws : List (List Key × V)} (h : F a = some (.dT ws)) (h2 : ws.map (·.1) = ks.map kL) (g : RpL F ds (ws.map (·.2))) : Rp F (.dct ks ds) (.ref a) := ⟨a, ws, rfl, h, h2, g⟩
/-- what is owned is shared from here on (nothing is run) -/
def sFrz (i : Nat) (P : TSD) : TSD := fun D ρ => (∃ ds, ρ[i]? = some (some (.ol ds)) ∧ P D (ρ.set i (some (.sh (.lst ds))))) ∨ ∃ ks ds, ρ[i]? = some (some (.od ks ds)) ∧ P D (ρ.set i (some (.sh (.dct ks ds))))
theorem psd_frz (i : Nat) (h : PSd X st t P) : PSd X st t (sFrz i P) := ⟨h.run, fun F0 H0 F H ρ σ D E ok L hp => by
  rcases hp with ⟨ds, hi, hp⟩ | ⟨ks, ds, hi, hp⟩
  · obtain ⟨a, vs, h1, h2, h3, h4, h5⟩ := ok.slot i _ hi
    exact h.ev F0 H0 _ H _ σ D E (ok.freeze hi h1 rfl h4 (rp_lst upd_same (RpL.mono (Ex.new h2) ds h5))) L hp
  · obtain ⟨a, ws, h1, h2, h3, h4, h5, h6⟩ := ok.slot i _ hi
    exact h.ev F0 H0 _ H _ σ D E (ok.freeze hi h1 rfl h4 (rp_dct upd_same h5 (RpL.mono (Ex.new h2) ds h6))) L hp⟩
/-- xs.append(e) -/
def sApp (i : Nat) (p : ED) : TSD := fun D ρ => ∃ ds, ρ[i]? = some (some (.ol ds)) ∧ ds.length < 100000 ∧ p ρ fun d => D.nx (ρ.set i (some (.ol (ds ++ [d]))))
theorem ev_app {K : PySem.W.Frag} (i : Nat) (h : EvD te p) : EvS (tDrop (tBM K "list" rAppend (tVar i) (tCons te tNil))) (sApp i p) := fun F0 H0 F H ρ σ D E ok L ⟨ds, hi, hl, hp⟩ => by
  obtain ⟨a, vs, h1, h2, h3, h4, h5⟩ := ok.slot i _ hi
  refine ⟨.ref a, h1, Or.inl ⟨rfl, vs, SqL.of h4⟩, h F0 H0 F H ρ σ _ _ ok hp fun d v F' H' g r hk => ?_⟩
  obtain ⟨k1, k2⟩ := g.out h2 h4
  refine ⟨a, vs, v, rfl, rfl, k2, by rw [← h5.length]; exact small_lt hl, ?_⟩
  exact L.nx _ _ _ _ ((ok.gr g).change (t := .ol (ds ++ [d])) hi h1 rfl ⟨a, _, rfl, k1, h3, upd_same, RpL.append (RpL.mono g.eF ds h5) (RpL.one r)⟩) hk
theorem psd_app {i : Nat} {x : Str} {px apos pos2 : Pos} (hN : X.N[i]? = some x) (hv : Vis X.env.scope x) (h : PD X e te p)
    (hrun : PE X (.Call (.Attribute (.Name x px) "append" apos) [e] [] pos2) (tBM X.K "list" rAppend (tVar i) (tCons te tNil)))
    (hs : swapsWith (.Call (.Attribute (.Name x px) "append" apos) [e] [] pos2) none pos.line X.env = pure false := by rfl) : PSd X (.Expr (.Call (.Attribute (.Name x px) "append" apos) [e] [] pos2) pos) (tDrop (tBM X.K "list" rAppend (tVar i) (tCons te tNil))) (sApp i p) :=
  ⟨ps_expr hrun hs, ev_app i h.ev⟩
/-- d[k] = v, k a tuple of ints -/
def getK : List (List Int) → List Dat → List Int → Option Dat
  | q :: ks, d :: vs, k => if q = k then some d else getK ks vs k
  | _, _, _ => none
def updK : List (List Int) → List Dat → List Int → Dat → List Dat
  | q :: ks, d :: vs, k, v => (if q = k then v else d) :: updK ks vs k v
  | _, _, _, _ => []
def putKs (ks : List (List Int)) (vs : List Dat) (k : List Int) : List (List Int) := if (getK ks vs k).isSome = true then ks else ks ++ [k]
def putVs (ks : List (List Int)) (vs : List Dat) (k : List Int) (v : Dat) : List Dat := if (getK ks vs k).isSome = true then updK ks vs k v else vs ++ [v]
theorem kL_inj {a b : List Int} (h : kL a = kL b) : a = b := by
  unfold kL at h
  exact (List.map_inj_right (fun _ _ q => Sum.inl.inj q)).mp h
theorem valV_get {F : Hp} : ∀ {ws : List (List Key × V)} {ks : List (List Int)} {ds : List Dat} (k : List Int), ws.map (·.1) = ks.map kL → RpL F ds (ws.map (·.2)) →
    (getK ks ds k = none ∧ valV ws (kL k) = none) ∨ ∃ d v, getK ks ds k = some d ∧ valV ws (kL k) = some v ∧ Rp F d v
  | [], [], ds, k, _, h => .inl ⟨rfl, rfl⟩
  | [], _ :: _, _, _, h, _ => by cases h
  | _ :: _, [], _, _, h, _ => by cases h
  | w :: ws, q :: ks, [], k, h, g => by cases g
  | w :: ws, q :: ks, d :: ds, k, h, ⟨v, r, g1, g2, g3⟩ => by
    have h1 : w.1 = kL q := (List.cons.inj h).1
    have h2 : ws.map (·.1) = ks.map kL := (List.cons.inj h).2
    have g4 : w.2 = v := (List.cons.inj g1).1
    have g5 : ws.map (·.2) = r := (List.cons.inj g1).2
    by_cases e : q = k
    · subst e
      refine .inr ⟨d, v, by simp [getK], ?_, g2⟩
      rw [valV_pos h1, g4]
    · have e1 : getK (q :: ks) (d :: ds) k = getK ks ds k := by simp [getK, e]
      rw [valV_neg (fun z => e (kL_inj (h1.symm.trans z))), e1]
      exact valV_get k h2 (by rw [g5]; exact g3)
theorem map_put {F : Hp} : ∀ {ws : List (List Key × V)} {ks : List (List Int)} {ds : List Dat} {k : List Int} {d : Dat} {v : V}, ws.map (·.1) = ks.map kL → RpL F ds (ws.map (·.2)) → Rp F d v →
    (ws.map fun kv => if kv.1 = kL k then (kv.1, v) else kv).map (·.1) = ks.map kL ∧ RpL F (updK ks ds k d) ((ws.map fun kv => if kv.1 = kL k then (kv.1, v) else kv).map (·.2))
  | [], [], ds, k, d, v, _, _, _ => ⟨rfl, by unfold updK; rfl⟩
  | [], _ :: _, _, _, _, _, h, _, _ => by cases h
  | _ :: _, [], _, _, _, _, h, _, _ => by cases h
  | w :: ws, q :: ks, [], _, _, _, _, g, _ => by cases g
  | w :: ws, q :: ks, e :: ds, k, d, v, h, ⟨u, r, g1, g2, g3⟩, rv => by
    have h1 : w.1 = kL q := (List.cons.inj h).1
    have h2 : ws.map (·.1) = ks.map kL := (List.cons.inj h).2
    have g4 : w.2 = u := (List.cons.inj g1).1
    have g5 : ws.map (·.2) = r := (List.cons.inj g1).2
    obtain ⟨i1, i2⟩ := map_put (k := k) h2 (by rw [g5]; exact g3) rv
    by_cases e0 : q = k
    · have e1 : w.1 = kL k := by rw [h1, e0]
      refine ⟨?_, ?_⟩
      · rw [List.map_cons, List.map_cons, List.map_cons, if_pos e1, i1, h1]
      · rw [List.map_cons, List.map_cons, if_pos e1]
        unfold updK
        rw [if_pos e0]
        exact ⟨v, _, rfl, rv, i2⟩
    · have e1 : ¬ w.1 = kL k := fun z => e0 (kL_inj (h1.symm.trans z))
      refine ⟨?_, ?_⟩
      · rw [List.map_cons, List.map_cons, List.map_cons, if_neg e1, i1, h1]
      · rw [List.map_cons, List.map_cons, if_neg e1]
        unfold updK
        rw [if_neg e0]
        exact ⟨w.2, _, rfl, by rw [g4]; exact g2, i2⟩
theorem putK_put {ws : List (List Key × V)} {ks : List (List Int)} {k : List Int} {v : V} {F : Hp} {ds : List Dat} {d : Dat} (h : ws.map (·.1) = ks.map kL) (r : RpL F ds (ws.map (·.2))) (rv : Rp F d v) :
    (putK ws (kL k) v).map (·.1) = (putKs ks ds k).map kL ∧ RpL F (putVs ks ds k d) ((putK ws (kL k) v).map (·.2)) := by
  unfold putK putKs putVs
  rw [valV_any]
  rcases valV_get k h r with ⟨e1, e2⟩ | ⟨d', v', e1, e2, _⟩
  · rw [e1, e2]
    simp only [Option.isSome_none, Bool.false_eq_true, if_false, List.map_append]
    exact ⟨by rw [h]; rfl, RpL.append r (RpL.one rv)⟩
  · rw [e1, e2]
    simp only [Option.isSome_some, if_true]
    exact map_put h r rv
end
end DL
/-! Dicts, lists by place, calls, methods, fields, built-ins. -/
namespace DL
open PySem PySem.Spec PyProof.Rows L2 Evl
theorem RpL.at {F : Hp} {ds : List Dat} {vs : List V} {i : Int} {d : Dat} (r : RpL F ds vs) (h : atI ds i = some d) : ∃ v, atI vs i = some v ∧ Rp F d v := by
  unfold atI at h ⊢
  rw [← r.length]
  cases e : ixN ds.length i with
  | none => rw [e] at h; cases h
  | some j =>
    rw [e] at h
    exact r.get h
theorem key_kV (k : List Int) : (kL k).map kV = k.map V.int := by
  unfold kL
  rw [List.map_map]
  rfl
section
variable {X : Cx} {pos : Pos} {e a b o : Expr} {te ta tb : TE} {p q : ED} {st : Stmt} {rest : List Stmt} {t u : TS} {P U : TSD}
/-! ### an owned list, read -/
def hIxO (i : Nat) (p : ED) : ED := fun ρ k => ∃ ds, ρ[i]? = some (some (.ol ds)) ∧ p ρ fun y => ∃ j d, y = .int j ∧ atI ds j = some d ∧ k d
theorem pd_ixO {i : Nat} (hv : PE X a (tVar i)) (h : PD X e te p) (hs : PlainIx e := by exact fun _ _ => rfl) : PD X (.Subscript a e pos) (tOp (rIxL X.K) (tVar i) te) (hIxO i p) :=
  ⟨pe_ix ix_list hv h.run hs, fun F0 H0 F H ρ σ k Q ok ⟨ds, hi, hp⟩ q => by
    obtain ⟨l, vs, h1, h2, h3, h4, h5⟩ := ok.slot i _ hi
    refine ⟨.ref l, h1, h.ev F0 H0 F H ρ σ _ _ ok hp fun y v F' H' g r ⟨j, d, ey, ha, hk⟩ => ?_⟩
    subst ey
    obtain ⟨w, w1, w2⟩ := (RpL.mono g.eF ds h5).at ha
    exact ⟨l, vs, j, w, rfl, r, SqL.of (g.out h2 h4).2, w1, q d w F' H' g w2 hk⟩⟩
def hLenO (i : Nat) : ED := fun ρ k => ∃ ds, ρ[i]? = some (some (.ol ds)) ∧ k (.int ds.length)
theorem pd_lenO {i : Nat} {x : Str} {p2 : Pos} (hg : Gl X "len") (hm : X.mg "len" = none) (hv : PE X a (tVar i)) (he : starEach [a] X.env = (false, eval a X.env) :: starEach [] X.env := by rfl) (hpl : (backTo pos (starEach [] X.env)).any (·.1) = false := by rfl) :
    PD X (.Call (.Name "len" p2) [a] [] pos) (tCB (fun xs H Q => ∃ p ys, xs = [.ref p] ∧ (SqL X.K H p ys ∨ SqT X.K H p ys) ∧ Q (.int ys.length) H) (tCons (tVar i) tNil)) (hLenO i) :=
  ⟨pe_callB call_len_seq hg hm PySem.boot_len (pa_cons hv pa_nil he) (by decide) (by decide) he hpl, fun F0 H0 F H ρ σ k Q ok ⟨ds, hi, hk⟩ q => by
    obtain ⟨l, vs, h1, h2, h3, h4, h5⟩ := ok.slot i _ hi
    refine ⟨.ref l, h1, l, vs, rfl, .inl (SqL.of h4), q _ _ F H (Gr.refl ok.fh) (by unfold Rp; rw [h5.length]) hk⟩⟩
/-! ### dicts -/
def isKey (y : Dat) (k : List Int) : Prop := y = .tup (k.map .int)
theorem key_at {F H : Hp} (e : Ex F H) {k : List Int} {v : V} (r : Rp F (.tup (k.map .int)) v) : ∃ b, v = .ref b ∧ H b = some (.tup ((kL k).map kV)) := by
  obtain ⟨b, vs, h1, h2, h3⟩ := r
  rw [RpL.ints_eq h3] at h2
  exact ⟨b, h1, by rw [key_kV]; exact e _ _ h2⟩
def hDGet (p q : ED) : ED := fun ρ k => p ρ fun x => ∃ ks ds, x = .dct ks ds ∧ q ρ fun y => ∃ kk d, isKey y kk ∧ getK ks ds kk = some d ∧ k d
theorem pd_dget (hu : X.A.units + 1 < cLine) (ho : PD X o te p) (hi : PD X e ta q) (hs : NoSl e := by exact fun _ _ => rfl) : PD X (.Subscript o e pos) (tDGet te ta) (hDGet p q) :=
  ⟨pe_dget hu ho.run hi.run hs, fun F0 H0 F H ρ σ k Q ok hp hq => ho.ev F0 H0 F H ρ σ _ _ ok hp fun x v F1 H1 g1 r1 ⟨ks, ds, ex, hk1⟩ => hi.ev F0 H0 F1 H1 ρ σ _ _ (ok.gr g1) hk1 fun y w F2 H2 g2 r2 ⟨kk, d, ey, hd, hk⟩ => by
    subst ex
    rw [show y = _ from ey] at r2
    obtain ⟨l, ws, h1, h2, h3, h4⟩ := Rp.mono g2.eF _ r1
    subst h1
    obtain ⟨c, e1, e2⟩ := key_at g2.fh r2
    subst e1
    rcases valV_get kk h3 h4 with ⟨z, _⟩ | ⟨d', v', z1, z2, z3⟩
    · rw [hd] at z; cases z
    · rw [hd] at z1
      cases z1
      exact ⟨l, v', rfl, by rw [← z2]; exact DGet.t (g2.fh _ _ h2) e2, hq d v' F2 H2 (g1.trans g2) z3 hk⟩⟩
def hDGetO (i : Nat) (q : ED) : ED := fun ρ k => ∃ ks ds, ρ[i]? = some (some (.od ks ds)) ∧ q ρ fun y => ∃ kk d, isKey y kk ∧ getK ks ds kk = some d ∧ k d
theorem pd_dgetO {i : Nat} (hu : X.A.units + 1 < cLine) (ho : PE X o (tVar i)) (hi : PD X e ta q) (hs : NoSl e := by exact fun _ _ => rfl) : PD X (.Subscript o e pos) (tDGet (tVar i) ta) (hDGetO i q) :=
  ⟨pe_dget hu ho hi.run hs, fun F0 H0 F H ρ σ k Q ok ⟨ks, ds, hi', hk1⟩ hq => by
    obtain ⟨l, ws, h1, h2, h3, h4, h5, h6⟩ := ok.slot i _ hi'
    refine ⟨.ref l, h1, hi.ev F0 H0 F H ρ σ _ _ ok hk1 fun y w F2 H2 g2 r2 ⟨kk, d, ey, hd, hk⟩ => ?_⟩
    rw [show y = _ from ey] at r2
    obtain ⟨c, e1, e2⟩ := key_at g2.fh r2
    subst e1
    rcases valV_get kk h5 (RpL.mono g2.eF ds h6) with ⟨z, _⟩ | ⟨d', v', z1, z2, z3⟩
    · rw [hd] at z; cases z
    · rw [hd] at z1
      cases z1
      exact ⟨l, v', rfl, by rw [← z2]; exact DGet.t (g2.out h2 h4).2 e2, hq d v' F2 H2 g2 z3 hk⟩⟩
/-- k in d, k not in d: neg tells which -/
def hDInO (neg : Bool) (q : ED) (i : Nat) : ED := fun ρ k => q ρ fun y => ∃ kk ks ds, isKey y kk ∧ ρ[i]? = some (some (.od ks ds)) ∧ k (.bl (neg ^^ (getK ks ds kk).isSome))
def hDIn (neg : Bool) (q p : ED) : ED := fun ρ k => q ρ fun y => p ρ fun x => ∃ kk ks ds, isKey y kk ∧ x = .dct ks ds ∧ k (.bl (neg ^^ (getK ks ds kk).isSome))
theorem valV_some {F : Hp} {ws : List (List Key × V)} {ks : List (List Int)} {ds : List Dat} (k : List Int) (h : ws.map (·.1) = ks.map kL) (r : RpL F ds (ws.map (·.2))) : (valV ws (kL k)).isSome = (getK ks ds k).isSome := by
  rcases valV_get k h r with ⟨z1, z2⟩ | ⟨d', v', z1, z2, z3⟩ <;> rw [z1, z2] <;> rfl
theorem ev_dinO {i : Nat} (hi : EvD ta q) : EvD (tDIn ta (tVar i)) (hDInO false q i) := fun F0 H0 F H ρ σ k Q ok hp hq => hi F0 H0 F H ρ σ _ _ ok hp fun y w F2 H2 g2 r2 ⟨kk, ks, ds, ey, hi', hk⟩ => by
  obtain ⟨l, ws, h1, h2, h3, h4, h5, h6⟩ := (ok.gr g2).slot i _ hi'
  rw [show y = _ from ey] at r2
  obtain ⟨c, e1, e2⟩ := key_at g2.fh r2
  subst e1
  exact ⟨.ref l, h1, l, _, rfl, DGet.t h4 e2, hq _ _ F2 H2 g2 (by unfold Rp; rw [valV_some kk h5 h6]; simp) hk⟩
theorem ev_dninO {i : Nat} (hi : EvD ta q) : EvD (tDNotIn ta (tVar i)) (hDInO true q i) := fun F0 H0 F H ρ σ k Q ok hp hq => hi F0 H0 F H ρ σ _ _ ok hp fun y w F2 H2 g2 r2 ⟨kk, ks, ds, ey, hi', hk⟩ => by
  obtain ⟨l, ws, h1, h2, h3, h4, h5, h6⟩ := (ok.gr g2).slot i _ hi'
  rw [show y = _ from ey] at r2
  obtain ⟨c, e1, e2⟩ := key_at g2.fh r2
  subst e1
  exact ⟨.ref l, h1, l, _, rfl, DGet.t h4 e2, hq _ _ F2 H2 g2 (by unfold Rp; rw [valV_some kk h5 h6]; simp) hk⟩
theorem ev_din (hi : EvD ta q) (hd : EvD te p) : EvD (tDIn ta te) (hDIn false q p) := fun F0 H0 F H ρ σ k Q ok hp hq => hi F0 H0 F H ρ σ _ _ ok hp fun y w F1 H1 g1 r1 hk1 => hd F0 H0 F1 H1 ρ σ _ _ (ok.gr g1) hk1 fun x v F2 H2 g2 r2 ⟨kk, ks, ds, ey, ex, hk⟩ => by
  subst ex
  rw [show y = _ from ey] at r1
  obtain ⟨l, ws, h1, h2, h3, h4⟩ := r2
  subst h1
  obtain ⟨c, e1, e2⟩ := key_at g2.fh (Rp.mono g2.eF _ r1)
  subst e1
  exact ⟨l, _, rfl, DGet.t (g2.fh _ _ h2) e2, hq _ _ F2 H2 (g1.trans g2) (by unfold Rp; rw [valV_some kk h3 h4]; simp) hk⟩
theorem ev_dnin (hi : EvD ta q) (hd : EvD te p) : EvD (tDNotIn ta te) (hDIn true q p) := fun F0 H0 F H ρ σ k Q ok hp hq => hi F0 H0 F H ρ σ _ _ ok hp fun y w F1 H1 g1 r1 hk1 => hd F0 H0 F1 H1 ρ σ _ _ (ok.gr g1) hk1 fun x v F2 H2 g2 r2 ⟨kk, ks, ds, ey, ex, hk⟩ => by
  subst ex
  rw [show y = _ from ey] at r1
  obtain ⟨l, ws, h1, h2, h3, h4⟩ := r2
  subst h1
  obtain ⟨c, e1, e2⟩ := key_at g2.fh (Rp.mono g2.eF _ r1)
  subst e1
  exact ⟨l, _, rfl, DGet.t (g2.fh _ _ h2) e2, hq _ _ F2 H2 (g1.trans g2) (by unfold Rp; rw [valV_some kk h3 h4]; simp) hk⟩
theorem pdt_dinO {i : Nat} (hu : X.A.units + 1 < cLine) (hi : PD X e ta q) (ho : PE X o (tVar i)) (hm : behindInMarks .In o = false := by rfl) : PDT X (.Compare e [.In] [o] pos) (tB (tDIn ta (tVar i))) (hB (hDInO false q i)) := ⟨pt_cmp (pc_din hu hi.run ho) hm, ev_B (ev_dinO hi.ev)⟩
theorem pdt_dninO {i : Nat} (hu : X.A.units + 1 < cLine) (hi : PD X e ta q) (ho : PE X o (tVar i)) (hm : behindInMarks .NotIn o = false := by rfl) : PDT X (.Compare e [.NotIn] [o] pos) (tB (tDNotIn ta (tVar i))) (hB (hDInO true q i)) := ⟨pt_cmp (pc_dnotin hu hi.run ho) hm, ev_B (ev_dninO hi.ev)⟩
theorem pdt_din (hu : X.A.units + 1 < cLine) (hi : PD X e ta q) (ho : PD X o te p) (hm : behindInMarks .In o = false := by rfl) : PDT X (.Compare e [.In] [o] pos) (tB (tDIn ta te)) (hB (hDIn false q p)) := ⟨pt_cmp (pc_din hu hi.run ho.run) hm, ev_B (ev_din hi.ev ho.ev)⟩
theorem pdt_dnin (hu : X.A.units + 1 < cLine) (hi : PD X e ta q) (ho : PD X o te p) (hm : behindInMarks .NotIn o = false := by rfl) : PDT X (.Compare e [.NotIn] [o] pos) (tB (tDNotIn ta te)) (hB (hDIn true q p)) := ⟨pt_cmp (pc_dnotin hu hi.run ho.run) hm, ev_B (ev_dnin hi.ev ho.ev)⟩
def sPut (i : Nat) (pk pv : ED) : TSD := fun D ρ => ∃ ks ds, ρ[i]? = some (some (.od ks ds)) ∧ ks.length < 100000 ∧ pv ρ fun d => pk ρ fun y => ∃ kk, isKey y kk ∧ D.nx (ρ.set i (some (.od (putKs ks ds kk) (putVs ks ds kk d))))
theorem psd_put {i : Nat} {value : Expr} {tv : TE} {pv : ED} {pos' : Pos} (hu : X.A.units + 1 < cLine) (ho : PE X o (tVar i)) (hi : PD X e ta q) (hv : PD X value tv pv) (hs : swapsWith value (some (.Subscript o e pos')) pos.line X.env = pure false := by rfl) :
    PSd X (.Assign [.Subscript o e pos'] value pos) (sDPut (tVar i) ta tv) (sPut i q pv) :=
  ⟨ps_dput hu ho hi.run hv.run hs, fun F0 H0 F H ρ σ D E ok L ⟨ks, ds, hi', hl, hp⟩ => hv.ev F0 H0 F H ρ σ _ _ ok hp fun d v F1 H1 g1 r1 hk1 => by
    obtain ⟨l, ws, h1, h2, h3, h4, h5, h6⟩ := (ok.gr g1).slot i _ hi'
    refine ⟨.ref l, h1, hi.ev F0 H0 F1 H1 ρ σ _ _ (ok.gr g1) hk1 fun y w F2 H2 g2 r2 ⟨kk, ey, hk⟩ => ?_⟩
    rw [show y = _ from ey] at r2
    obtain ⟨c, e1, e2⟩ := key_at g2.fh r2
    subst e1
    obtain ⟨o1, o2⟩ := g2.out h2 h4
    obtain ⟨z1, z2⟩ := putK_put (k := kk) h5 (RpL.mono g2.eF ds h6) (Rp.mono g2.eF d r1)
    have hlw : ws.length < sizeLine := by
      have : (ws.map (·.1)).length = (ks.map kL).length := by rw [h5]
      rw [List.length_map, List.length_map] at this
      rw [this]
      exact small_lt hl
    exact ⟨l, _, rfl, DPut.t o2 e2 hlw, L.nx _ _ _ _ ((ok.gr (g1.trans g2)).change (s := .od ks ds) (t := .od _ _) hi' h1 rfl ⟨l, _, rfl, o1, h3, upd_same, z1, z2⟩) hk⟩⟩
/-! ### calls -/
def toV : Dat → V
  | .bl b => .bl b
  | .int i => .int i
  | .str x => .str x
  | _ => .non
def isC : Dat → Bool
  | .non | .bl _ | .int _ | .str _ => true
  | _ => false
theorem rp_c {F : Hp} {d : Dat} (h : isC d = true) : Rp F d (toV d) := by
  cases d <;> first | (unfold Rp toV; rfl) | cases h
theorem rpl_c {F : Hp} : ∀ {ds : List Dat}, ds.all isC = true → RpL F ds (ds.map toV)
  | [], _ => rfl
  | d :: ds, h => by
    rw [List.all_cons, Bool.and_eq_true] at h
    exact ⟨_, _, rfl, rp_c h.1, rpl_c h.2⟩
/-- the promise: what is handed in, what comes back -/
abbrev Tr : Type := List Dat → (Dat → Prop) → Prop
def Pr (R : Tr) : Sp := fun vs H Q _ => ∃ (F : Hp) (ds : List Dat) (k : Dat → Prop), Ex F H ∧ RpL F ds vs ∧ R ds k ∧ ∀ d v F' H', k d → Gr F H F' H' → Rp F' d v → Q v H'
structure Kept (P : Program) (w : World) (K : PySem.W.Frag) (mg : Str → Option Value) (base : Heap) (x : Str) (ps : List Str) (dds : List Dat) (k : Nat) (R : Tr) : Prop where
  ex : ∃ f fd ds, mg x = some (.ref f) ∧ FnOk P w K mg base CX0 k f fd ps (Pr R) ∧ PySem.W.keepIn K (.ref f) = true ∧ Binds K fd ps ds ∧ Vals (dds.map toV) ds
  cs : dds.all isC = true
def hCall (R : Tr) (dds : List Dat) (r : EA) : ED := fun ρ k => r ρ fun ds => R (ds ++ dds) k
theorem ev_call {R : Tr} {dds : List Dat} {E : XK} {tA : TA} {r : EA} (hc : dds.all isC = true) (h : EvA tA r) : EvD (tCall (Pr R) (dds.map toV) E tA) (hCall R dds r) := fun F0 H0 F H ρ σ k Q ok hp hq =>
  h F0 H0 F H ρ σ _ _ ok hp fun ds vs F1 H1 g1 r1 hR => ⟨F1, ds ++ dds, k, g1.fh, RpL.append r1 (rpl_c hc), hR, fun d v F' H' hk g rv => hq d v F' H' (g1.trans g) rv hk⟩
theorem pd_call {x : Str} {p2 : Pos} {ps : List Str} {dds : List Dat} {k : Nat} {R : Tr} {es : List Expr} {tA : TA} {r : EA} (G : Kept X.prog X.w X.K X.mg X.base x ps dds k R) (hr : Room k X.A) (hg : Gl X x) (ha : PDA X (e :: es) tA r)
    (hdb : (x == ("__debug__" : Str)) = false := by decide) (he : starEach (e :: es) X.env = (false, eval e X.env) :: starEach es X.env := by rfl) (hpl : (backTo pos (starEach es X.env)).any (·.1) = false := by rfl) :
    PD X (.Call (.Name x p2) (e :: es) [] pos) (tCall (Pr R) (dds.map toV) E0 tA) (hCall R dds r) := by
  obtain ⟨⟨f, fd, ds, h1, h2, h3, h4, h5⟩, hc⟩ := G
  exact ⟨pe_call h2 hr hg h1 h3 h4 h5 pass0 ha.run hdb he hpl, ev_call hc ha.ev⟩
/-- o.m(..) of an instance that is shared -/
structure KeptM (P : Program) (w : World) (K : PySem.W.Frag) (mg : Str → Option Value) (base : Heap) (C : Addr) (m : Str) (ps : List Str) (k : Nat) (R : Tr) : Prop where
  cl : Cls K C
  ex : ∃ f fd, Meth K C m f ∧ FnOk P w K mg base CX0 k f fd ps (Pr R) ∧ Binds K fd ps []
def hMeth (C : Addr) (m : Str) (R : Tr) (p : ED) (r : EA) : ED := fun ρ k => p ρ fun x => ∃ ns vs, x = .obj C ns vs ∧ m ∉ ns ∧ r ρ fun ds => R (x :: ds) k
theorem lookup_no {ws : List (Str × V)} {m : Str} (h : m ∉ ws.map (·.1)) : ws.lookup m = none := by
  induction ws with
  | nil => rfl
  | cons w ws ih =>
    obtain ⟨x, v⟩ := w
    rw [List.map_cons, List.mem_cons, not_or] at h
    rw [List.lookup_cons]
    have : (m == x) = false := beq_eq_false_iff_ne.mpr h.1
    rw [this]
    exact ih h.2
theorem ev_meth {C : Addr} {m : Str} {R : Tr} {E : XK} {tA : TA} {r : EA} (h : EvD te p) (hA : EvA tA r) : EvD (tMeth C m (Pr R) [] E te tA) (hMeth C m R p r) := fun F0 H0 F H ρ σ k Q ok hp hq =>
  h F0 H0 F H ρ σ _ _ ok hp fun x v F1 H1 g1 r1 ⟨ns, vs, ex, hm, hk1⟩ => by
    subst ex
    obtain ⟨l, dx, ws, h1, h2, h3, h4⟩ := id r1
    refine ⟨l, dx, ws, h1, g1.fh _ _ h2, lookup_no (by rw [h3]; exact hm), hA F0 H0 F1 H1 ρ σ _ _ (ok.gr g1) hk1 fun ds us F2 H2 g2 r2 hR => ?_⟩
    rw [List.append_nil]
    exact ⟨F2, _, k, g2.fh, rpl_cons (Rp.mono g2.eF _ r1) r2, hR, fun d v F' H' hk g rv => hq d v F' H' ((g1.trans g2).trans g) rv hk⟩
theorem pd_meth {C : Addr} {m : Str} {ps : List Str} {k : Nat} {R : Tr} {es : List Expr} {tA : TA} {r : EA} {apos : Pos} (ho : PD X o te p) (G : KeptM X.prog X.w X.K X.mg X.base C m ps k R) (hr : Room k X.A) (ha : PDA X (e :: es) tA r)
    (hrun : ∀ f fd, Cls X.K C → Meth X.K C m f → FnOk X.prog X.w X.K X.mg X.base CX0 k f fd ps (Pr R) → Binds X.K fd ps [] → PE X (.Call (.Attribute o m apos) (e :: es) [] pos) (tMeth C m (Pr R) [] E0 te tA)) :
    PD X (.Call (.Attribute o m apos) (e :: es) [] pos) (tMeth C m (Pr R) [] E0 te tA) (hMeth C m R p r) := by
  obtain ⟨cl, f, fd, h1, h2, h3⟩ := G
  exact ⟨hrun f fd cl h1 h2 h3, ev_meth ho.ev ha.ev⟩
/-- o.f of an instance that is shared -/
def lookD : List Str → List Dat → Str → Option Dat
  | n :: ns, d :: ds, f => if f = n then some d else lookD ns ds f
  | _, _, _ => none
theorem look_get {F : Hp} : ∀ {ws : List (Str × V)} {ns : List Str} {ds : List Dat} {f : Str} {d : Dat}, ws.map (·.1) = ns → RpL F ds (ws.map (·.2)) → lookD ns ds f = some d → ∃ v, ws.lookup f = some v ∧ Rp F d v
  | [], ns, ds, f, d, h, g, e => by
    subst h
    unfold lookD at e
    cases e
  | w :: ws, [], _, _, _, h, _, _ => by cases h
  | w :: ws, n :: ns, [], f, d, h, g, e => by cases e
  | (y, w) :: ws, n :: ns, c :: ds, f, d, h, ⟨v, r, g1, g2, g3⟩, e => by
    have h1 : y = n := (List.cons.inj h).1
    have h2 : ws.map (·.1) = ns := (List.cons.inj h).2
    have g4 : w = v := (List.cons.inj g1).1
    have g5 : ws.map (·.2) = r := (List.cons.inj g1).2
    rw [List.lookup_cons]
    unfold lookD at e
    by_cases e0 : f = n
    · rw [if_pos e0] at e
      cases e
      have : (f == y) = true := by rw [h1, e0]; exact beq_self_eq_true _
      rw [this]
      exact ⟨w, rfl, by rw [g4]; exact g2⟩
    · rw [if_neg e0] at e
      have : (f == y) = false := by rw [h1]; exact beq_eq_false_iff_ne.mpr e0
      rw [this]
      exact look_get h2 (by rw [g5]; exact g3) e
def hFld (C : Addr) (f : Str) (p : ED) : ED := fun ρ k => p ρ fun x => ∃ ns vs d, x = .obj C ns vs ∧ lookD ns vs f = some d ∧ k d
theorem pd_fld {C : Addr} {f : Str} (ho : PD X o te p) (cl : Cls X.K C) (na : NoAttr X.K C f) (hb : attributeBase o f X.env (eval o X.env) = eval o X.env := by rfl) : PD X (.Attribute o f pos) (tFld X.K te f) (hFld C f p) :=
  ⟨pe_fld ho.run hb, fun F0 H0 F H ρ σ k Q ok hp hq => ho.ev F0 H0 F H ρ σ _ _ ok hp fun x v F1 H1 g1 r1 ⟨ns, vs, d, ex, hd, hk⟩ => by
    subst ex
    obtain ⟨l, dx, ws, h1, h2, h3, h4⟩ := r1
    obtain ⟨w, w1, w2⟩ := look_get h3 h4 hd
    exact ⟨l, C, dx, ws, w, h1, g1.fh _ _ h2, cl, na, w1, hq d w F1 H1 g1 w2 hk⟩⟩
/-! ### built-ins -/
def RcD (r : List V → Hp → VK → Prop) (z : List Dat → (Dat → Prop) → Prop) : Prop := ∀ (F H : Hp) (vs : List V) (ds : List Dat) (k : Dat → Prop) (Q : VK), Ex F H → RpL F ds vs → z ds k → (∀ d v F' H', Gr F H F' H' → Rp F' d v → k d → Q v H') → r vs H Q
def hBi (z : List Dat → (Dat → Prop) → Prop) (r : EA) : ED := fun ρ k => r ρ fun ds => z ds k
theorem ev_bi {r : List V → Hp → VK → Prop} {z : List Dat → (Dat → Prop) → Prop} {tA : TA} {s : EA} (hr : RcD r z) (h : EvA tA s) : EvD (tCB r tA) (hBi z s) := fun F0 H0 F H ρ σ k Q ok hp hq =>
  h F0 H0 F H ρ σ _ _ ok hp fun ds vs F1 H1 g1 r1 hz => hr F1 H1 vs ds k Q g1.fh r1 hz fun d v F' H' g rv hk => hq d v F' H' (g1.trans g) rv hk
theorem pd_bi {id : String} {x : Str} {p2 : Pos} {es : List Expr} {r : List V → Hp → VK → Prop} {z : List Dat → (Dat → Prop) → Prop} {tA : TA} {s : EA} (hc : CallR X (.builtin id) r) (hr : RcD r z) (hg : Gl X x) (hm : X.mg x = none) (hv : bootBuiltins x = some (.builtin id)) (ha : PDA X (e :: es) tA s)
    (hn : x ≠ "__name__" := by decide) (hdb : (x == ("__debug__" : Str)) = false := by decide) (he : starEach (e :: es) X.env = (false, eval e X.env) :: starEach es X.env := by rfl) (hpl : (backTo pos (starEach es X.env)).any (·.1) = false := by rfl) :
    PD X (.Call (.Name x p2) (e :: es) [] pos) (tCB r tA) (hBi z s) := ⟨pe_callB hc hg hm hv ha.run hn hdb he hpl, ev_bi hr ha.ev⟩
theorem rpl1 {F : Hp} {d : Dat} {vs : List V} (h : RpL F [d] vs) : ∃ v, vs = [v] ∧ Rp F d v := by
  obtain ⟨v, r, h1, h2, h3⟩ := h
  rw [show r = [] from h3] at h1
  exact ⟨v, h1, h2⟩
theorem rpl2 {F : Hp} {d e : Dat} {vs : List V} (h : RpL F [d, e] vs) : ∃ v w, vs = [v, w] ∧ Rp F d v ∧ Rp F e w := by
  obtain ⟨v, r, h1, h2, h3⟩ := h
  obtain ⟨w, h4, h5⟩ := rpl1 h3
  rw [h4] at h1
  exact ⟨v, w, h1, h2, h5⟩
def zLen : List Dat → (Dat → Prop) → Prop := fun ds k => ∃ xs, (ds = [.lst xs] ∨ ds = [.tup xs]) ∧ k (.int xs.length)
theorem rc_len {K : PySem.W.Frag} : RcD (fun xs H Q => ∃ p ys, xs = [.ref p] ∧ (SqL K H p ys ∨ SqT K H p ys) ∧ Q (.int ys.length) H) zLen := fun F H vs ds k Q e r ⟨xs, hx, hk⟩ q => by
  rcases hx with hx | hx
  · subst hx
    obtain ⟨v, h1, l, us, h2, h3, h4⟩ := rpl1 r
    subst h1 h2
    exact ⟨l, us, rfl, .inl (SqL.of (e _ _ h3)), q _ _ F H (Gr.refl e) (by unfold Rp; rw [h4.length]) hk⟩
  · subst hx
    obtain ⟨v, h1, l, us, h2, h3, h4⟩ := rpl1 r
    subst h1 h2
    exact ⟨l, us, rfl, .inr (SqT.of (e _ _ h3)), q _ _ F H (Gr.refl e) (by unfold Rp; rw [h4.length]) hk⟩
def zI1 (f : Int → Int) : List Dat → (Dat → Prop) → Prop := fun ds k => ∃ i, ds = [.int i] ∧ k (.int (f i))
def zI2 (f : Int → Int → Int) : List Dat → (Dat → Prop) → Prop := fun ds k => ∃ i j, ds = [.int i, .int j] ∧ k (.int (f i j))
theorem rc_abs : RcD (fun xs H Q => ∃ i, xs = [.int i] ∧ Q (.int (if i < 0 then -i else i)) H) (zI1 fun i => (i.natAbs : Int)) := fun F H vs ds k Q e r ⟨i, hx, hk⟩ q => by
  subst hx
  obtain ⟨v, h1, h2⟩ := rpl1 r
  rw [show v = V.int i from h2] at h1
  refine ⟨i, h1, q _ _ F H (Gr.refl e) ?_ hk⟩
  unfold Rp
  congr 1
  show _ = _
  dsimp only
  split <;> omega
theorem rc_min : RcD (fun xs H Q => ∃ i j, xs = [.int i, .int j] ∧ Q (.int (if j < i then j else i)) H) (zI2 fun i j => min i j) := fun F H vs ds k Q e r ⟨i, j, hx, hk⟩ q => by
  subst hx
  obtain ⟨v, w, h1, h2, h3⟩ := rpl2 r
  rw [show v = V.int i from h2, show w = V.int j from h3] at h1
  refine ⟨i, j, h1, q _ _ F H (Gr.refl e) ?_ hk⟩
  unfold Rp
  congr 1
  show _ = _
  dsimp only
  split <;> omega
theorem rc_max : RcD (fun xs H Q => ∃ i j, xs = [.int i, .int j] ∧ Q (.int (if j > i then j else i)) H) (zI2 fun i j => max i j) := fun F H vs ds k Q e r ⟨i, j, hx, hk⟩ q => by
  subst hx
  obtain ⟨v, w, h1, h2, h3⟩ := rpl2 r
  rw [show v = V.int i from h2, show w = V.int j from h3] at h1
  refine ⟨i, j, h1, q _ _ F H (Gr.refl e) ?_ hk⟩
  unfold Rp
  congr 1
  show _ = _
  dsimp only
  split <;> omega
def zAll : List Dat → (Dat → Prop) → Prop := fun ds k => ∃ bs : List Bool, ds = [.lst (bs.map .bl)] ∧ k (.bl (bs.all id))
theorem rc_all {K : PySem.W.Frag} : RcD (rAll K) zAll := fun F H vs ds k Q e r ⟨bs, hx, hk⟩ q => by
  subst hx
  obtain ⟨v, h1, l, us, h2, h3, h4⟩ := rpl1 r
  subst h1 h2
  rw [RpL.bls_eq h4] at h3
  exact ⟨l, bs, rfl, SqL.of (e _ _ h3), q _ _ F H (Gr.refl e) (by unfold Rp; rfl) hk⟩
/-- isinstance(x, T), T a built-in's name -/
def tyD : Dat → String
  | .non => "NoneType"
  | .bl _ => "bool"
  | .int _ => "int"
  | .str _ => "str"
  | .tup _ => "tuple"
  | .lst _ => "list"
  | .dct _ _ => "dict"
  | .obj _ _ _ => "object"
  | .at_ _ => "object"
def isObjD : Dat → Bool
  | .obj _ _ _ => true
  | .at_ _ => true
  | _ => false
theorem tyD_ok {K : PySem.W.Frag} {F H : Hp} (e : Ex F H) {d : Dat} {v : V} (r : Rp F d v) (h : isObjD d = false) : TyX K H v (.type (tyD d)) := by
  cases d with
  | non => rw [show v = _ from r]; exact .base .non
  | bl b => rw [show v = _ from r]; exact .base (.bl b)
  | int i => rw [show v = _ from r]; exact .base (.int i)
  | str x => rw [show v = _ from r]; exact .base (.str x)
  | tup xs => obtain ⟨l, us, h2, h3, h4⟩ := r; subst h2; exact .base (.tup (e _ _ h3))
  | lst xs => obtain ⟨l, us, h2, h3, h4⟩ := r; subst h2; exact .base (.lst (e _ _ h3))
  | dct ks ds => obtain ⟨l, us, h2, h3, h4⟩ := r; subst h2; exact .base (.dT (e _ _ h3))
  | obj C ns vs => cases h
  | at_ a => cases h
def hIs (T : String) (p : ED) : ED := fun ρ k => p ρ fun d => ∃ b, isObjD d = false ∧ kitB (tyD d) T = some b ∧ k (.bl b)
theorem pd_isi {T : String} {x : Str} {p2 p3 : Pos} (hg : Gl X "isinstance") (hm : X.mg "isinstance" = none) (h : PD X e te p) (hT : PE X (.Name x p3) (tC (.ty T)))
    (he : starEach [e, .Name x p3] X.env = (false, eval e X.env) :: starEach [.Name x p3] X.env := by rfl) (he2 : starEach [.Name x p3] X.env = (false, eval (.Name x p3) X.env) :: starEach [] X.env := by rfl) (hpl : (backTo pos (starEach [.Name x p3] X.env)).any (·.1) = false := by rfl) :
    PD X (.Call (.Name "isinstance" p2) [e, .Name x p3] [] pos) (tCB (rIsi X.K) (tCons te (tCons (tC (.ty T)) tNil))) (hIs T p) :=
  ⟨pe_callB call_isi hg hm (by decide +kernel) (pa_cons h.run (pa_cons hT pa_nil he2) he) (by decide) (by decide) he hpl, fun F0 H0 F H ρ σ k Q ok hp hq => h.ev F0 H0 F H ρ σ _ _ ok hp fun d v F1 H1 g1 r1 ⟨b, ho, hb, hk⟩ =>
    ⟨v, .ty T, .type (tyD d), .type T, b, rfl, .ty T, tyD_ok g1.fh r1 ho, kit_ty hb, hq _ _ F1 H1 g1 (by unfold Rp; rfl) hk⟩⟩
end
end DL
/-! What is walked, for, while, comprehensions. -/
namespace DL
open PySem PySem.Spec PyProof.Rows L2 Evl
structure Walks (F1 : Hp) (J : It) (ds : List Dat) : Prop where
  go : ∀ (F H : Hp) (i : Nat), Ex F1 F → Ex F H → i < ds.length → J.go i H
  yld : ∀ (F H : Hp) (i : Nat) (x : V) (H' : Hp), Ex F1 F → Ex F H → i < ds.length → J.yld i H x H' → ∃ d F', ds[i]? = some d ∧ Gr F H F' H' ∧ Rp F' d x
  stop : ∀ (F H : Hp), Ex F1 F → Ex F H → J.stop ds.length H
def EvI (wi : TI) (p : EA) : Prop := ∀ (F0 H0 F H : Hp) (ρ : EnvD) (σ : L2.St) (k : List Dat → Prop) (R : It → Hp → Prop), Ok F0 H0 F H ρ σ → p ρ k → (∀ ds J F1 H1, Gr F H F1 H1 → Walks F1 J ds → k ds → R J H1) → wi σ H R
structure PId (X : Cx) (tg iter : Expr) (wi : TI) (p : EA) : Prop where
  run : PI X tg iter wi
  ev : EvI wi p
section
variable {X : Cx} {pos : Pos} {e a b o tg : Expr} {te ta tb : TE} {p q : ED} {st : Stmt} {rest : List Stmt} {t u : TS} {P U : TSD}
theorem walks_list {K : PySem.W.Frag} {F1 : Hp} {l : Addr} {vs : List V} {ds : List Dat} (h : F1 l = some (.lst vs)) (r : RpL F1 ds vs) : Walks F1 (Itl K l) ds where
  go := fun F H i e1 e2 hi => ⟨vs, vs[i]'(by rw [← r.length]; exact hi), SqL.of (e2 _ _ (e1 _ _ h)), by simp [← r.length, hi]⟩
  yld := fun F H i x H' e1 e2 hi ⟨e, y⟩ => by
    subst e
    have q := y vs (SqL.of (e2 _ _ (e1 _ _ h)))
    obtain ⟨d, h1, h2⟩ := r.back q
    exact ⟨d, F, h1, Gr.refl e2, Rp.mono e1 d h2⟩
  stop := fun F H e1 e2 => ⟨vs, SqL.of (e2 _ _ (e1 _ _ h)), by rw [r.length]; exact Nat.le_refl _⟩
def hItL (p : ED) : EA := fun ρ k => p ρ fun x => ∃ ds, x = .lst ds ∧ k ds
theorem pid_list {l : Expr} (h : PD X l te p) : PId X tg l (iList X.K te) (hItL p) :=
  ⟨pi_list h.run, fun F0 H0 F H ρ σ k R ok hp hR => h.ev F0 H0 F H ρ σ _ _ ok hp fun x v F1 H1 g r ⟨ds, ex, hk⟩ => by
    subst ex
    obtain ⟨a, vs, h1, h2, h3⟩ := r
    exact ⟨a, h1, ⟨vs, SqL.of (g.fh _ _ h2)⟩, hR ds _ F1 H1 g (walks_list h2 h3) hk⟩⟩
theorem walks_range {F1 : Hp} {lo : Int} {n : Nat} : Walks F1 (Itr lo n) ((List.range n).map fun i => Dat.int (lo + (i : Nat))) where
  go := fun F H i _ _ hi => by
    show i < n
    simpa using hi
  yld := fun F H i x H' e1 e2 hi ⟨e, y⟩ => by
    subst e y
    have hn : i < n := by simpa using hi
    exact ⟨.int (lo + (i : Nat)), F, by simp [hn], Gr.refl e2, by unfold Rp; rfl⟩
  stop := fun F H _ _ => by
    show n ≤ _
    simp
def hR1 (r : EA) : EA := fun ρ k => r ρ fun ds => ∃ j : Int, ds = [.int j] ∧ (-(2 ^ 62) ≤ j ∧ j < 2 ^ 62) ∧ k ((List.range j.toNat).map fun i => Dat.int ((0 : Int) + (i : Nat)))
theorem pid_range1 {c : Expr} {tA : TA} {r : EA} {p2 : Pos} (hg : Gl X "range") (hm : X.mg "range" = none) (h : PDA X [c] tA r) (hs : starEach [c] X.env = [(false, eval c X.env)] := by rfl) : PId X tg (.Call (.Name "range" p2) [c] [] pos) (iRng1 tA) (hR1 r) :=
  ⟨pi_range1 hg hm h.run hs, fun F0 H0 F H ρ σ k R ok hp hR => h.ev F0 H0 F H ρ σ _ _ ok hp fun ds vs F1 H1 g rr ⟨j, ex, ⟨b1, b2⟩, hk⟩ => by
    subst ex
    obtain ⟨v, h1, h2⟩ := rpl1 rr
    rw [show v = V.int j from h2] at h1
    exact ⟨j, h1, b1, b2, hR _ _ F1 H1 g walks_range hk⟩⟩
def hR2 (r : EA) : EA := fun ρ k => r ρ fun ds => ∃ i j : Int, ds = [.int i, .int j] ∧ (-(2 ^ 62) ≤ i ∧ i < 2 ^ 62 ∧ -(2 ^ 62) ≤ j ∧ j < 2 ^ 62) ∧ k ((List.range (j - i).toNat).map fun m => Dat.int (i + (m : Nat)))
theorem pid_range2 {c d : Expr} {tA : TA} {r : EA} {p2 : Pos} (hg : Gl X "range") (hm : X.mg "range" = none) (h : PDA X [c, d] tA r) (hs : starEach [c, d] X.env = [(false, eval c X.env), (false, eval d X.env)] := by rfl) (hs2 : starEach [d] X.env = [(false, eval d X.env)] := by rfl) : PId X tg (.Call (.Name "range" p2) [c, d] [] pos) (iRng2 tA) (hR2 r) :=
  ⟨pi_range2 hg hm h.run hs hs2, fun F0 H0 F H ρ σ k R ok hp hR => h.ev F0 H0 F H ρ σ _ _ ok hp fun ds vs F1 H1 g rr ⟨i, j, ex, bs, hk⟩ => by
    subst ex
    obtain ⟨v, w, h1, h2, h3⟩ := rpl2 rr
    rw [show v = V.int i from h2, show w = V.int j from h3] at h1
    exact ⟨i, j, h1, bs, hR _ _ F1 H1 g walks_range hk⟩⟩
def enumD (ds : List Dat) : List Dat := ds.mapIdx fun i d => .tup [.int (i : Nat), d]
def hEnum (r : EA) : EA := fun ρ k => r ρ fun ds => ∃ es, ds = [.lst es] ∧ k (enumD es)
theorem walks_enum {K : PySem.W.Frag} {F1 : Hp} {l : Addr} {vs : List V} {ds : List Dat} (h : F1 l = some (.lst vs)) (r : RpL F1 ds vs) : Walks F1 (Ite K l) (enumD ds) where
  go := fun F H i e1 e2 hi => by
    have hi' : i < ds.length := by simpa [enumD] using hi
    exact ⟨vs, vs[i]'(by rw [← r.length]; exact hi'), SqL.of (e2 _ _ (e1 _ _ h)), by simp [← r.length, hi']⟩
  yld := fun F H i x H' e1 e2 hi ⟨T, y, ex, hT, eH, hy⟩ => by
    subst ex eH
    have q := hy vs (SqL.of (e2 _ _ (e1 _ _ h)))
    obtain ⟨d, h1, h2⟩ := r.back q
    have g : Gr F H (upd F T (.tup [.int (i : Nat), y])) (upd H T (.tup [.int (i : Nat), y])) := Gr.laid e2 hT
    exact ⟨.tup [.int (i : Nat), d], _, by simp [enumD, h1], g, rp_tup upd_same (RpL.two (by unfold Rp; rfl) (Rp.mono (e1.trans g.eF) d h2))⟩
  stop := fun F H e1 e2 => ⟨vs, SqL.of (e2 _ _ (e1 _ _ h)), by rw [← r.length]; simp [enumD]⟩
theorem pid_enum {c : Expr} {tA : TA} {r : EA} {p2 tpos : Pos} {elts : List Expr} {kk : Nat} (hg : Gl X "enumerate") (hm : X.mg "enumerate" = none) (h : PDA X [c] tA r) (hs : starEach [c] X.env = [(false, eval c X.env)] := by rfl)
    (hrun : PI X (.Tuple elts kk tpos) (.Call (.Name "enumerate" p2) [c] [] pos) (iEnum X.K tA)) : PId X (.Tuple elts kk tpos) (.Call (.Name "enumerate" p2) [c] [] pos) (iEnum X.K tA) (hEnum r) :=
  ⟨hrun, fun F0 H0 F H ρ σ k R ok hp hR => h.ev F0 H0 F H ρ σ _ _ ok hp fun ds vs F1 H1 g rr ⟨es, ex, hk⟩ => by
    subst ex
    obtain ⟨v, h1, a, us, h2, h3, h4⟩ := rpl1 rr
    subst h2
    exact ⟨a, us, h1, SqL.of (g.fh _ _ h3), hR _ _ F1 H1 g (walks_enum h3 h4) hk⟩⟩
/-! ### for -/
def sFor (r : EA) (g : TGD) (B : TSD) : TSD := fun D ρ => r ρ fun ds => ∃ W : Nat → EnvD → Prop, W 0 ρ ∧
  (∀ i d ρ', ds[i]? = some d → W i ρ' → g d ρ' fun ρ'' => B { nx := W (i + 1), rt := D.rt, bk := D.nx, ct := W (i + 1) } ρ'') ∧ ∀ ρ', W ds.length ρ' → D.nx ρ'
theorem psd_for {iter : Expr} {body : List Stmt} {wi : TI} {r : EA} {g : TG} {vs : List Nat} {z : TGD} {tb : TS} {B : TSD} (hp : PassesOwn (model X.prog X.w) X.A X.env X.xe) (hc : X.calm = true) (hi : PId X tg iter wi r) (hg : PGd X tg g vs z) (hb : PBd X body tb B) (hs : ∀ x, foldedSetIterable iter X.env x = pure x := by intro _; rfl) :
    PSd X (.For tg iter body [] pos) (tFor wi g tb) (sFor r z B) :=
  ⟨ps_for hp hc hi.run hg.run hb.run hs, fun F0 H0 F H ρ σ D E ok L hp => hi.ev F0 H0 F H ρ σ _ _ ok hp fun ds J F1 H1 g1 hw ⟨W, w0, hs, hd⟩ => by
    have okb := ok.gr g1
    refine ⟨fun i m σ' H' => m = ds.length - i ∧ i ≤ ds.length ∧ ∃ F' ρ', Ok F1 H0 F' H' ρ' σ' ∧ W i ρ', ⟨ds.length, by simp, Nat.zero_le _, F1, ρ, okb.rebase, w0⟩, ?_⟩
    rintro i m σ' H' ⟨em, hi', F', ρ', ok', w⟩
    subst em
    by_cases hlt : i < ds.length
    · refine .inr ⟨hw.go F' H' i ok'.eF ok'.fh hlt, fun σ2 H2 => ∃ F2 ρ2, Ok F1 H0 F2 H2 ρ2 σ2 ∧ W (i + 1) ρ2, fun σ2 H2 ⟨F2, ρ2, ok2, w2⟩ => ⟨ds.length - (i + 1), by omega, rfl, hlt, F2, ρ2, ok2, w2⟩, fun x H2 hy => ?_⟩
      obtain ⟨d, F2, hd1, g2, r2⟩ := hw.yld F' H' i x H2 ok'.eF ok'.fh hlt hy
      refine hg.ev F1 H0 F2 H2 ρ' σ' d x _ _ (ok'.gr g2) r2 (hs i d ρ' hd1 w) fun ρ3 σ3 ok3 _ hk3 => ?_
      exact hb.ev F1 H0 F2 H2 ρ3 σ3 { nx := W (i + 1), rt := D.rt, bk := D.nx, ct := W (i + 1) } _ ok3 ⟨fun F4 H4 ρ4 σ4 ok4 w4 => ⟨F4, ρ4, ok4, w4⟩, fun F4 H4 d4 v4 g4 r4 hk4 => L.rt F4 H4 d4 v4 (okb.ungr g4) r4 hk4, fun F4 H4 ρ4 σ4 ok4 hk4 => L.nx F4 H4 ρ4 σ4 (okb.unbase ok4) hk4, fun F4 H4 ρ4 σ4 ok4 w4 => ⟨F4, ρ4, ok4, w4⟩⟩ hk3
    · have e : i = ds.length := by omega
      subst e
      exact .inl ⟨hw.stop F' H' ok'.eF ok'.fh, L.nx F' H' ρ' σ' (okb.unbase ok') (hd ρ' w)⟩⟩
/-- over an owned list that the body leaves as it is -/
def sForO (i0 : Nat) (g : TGD) (B : TSD) : TSD := fun D ρ => ∃ ds, ρ[i0]? = some (some (.ol ds)) ∧ ∃ W : Nat → EnvD → Prop, W 0 ρ ∧
  (∀ i ρ', W i ρ' → ρ'[i0]? = some (some (.ol ds)) ∧ ρ'.length = ρ.length) ∧
  (∀ i d ρ', ds[i]? = some d → W i ρ' → g d ρ' fun ρ'' => B { nx := W (i + 1), rt := D.rt, bk := D.nx, ct := W (i + 1) } ρ'') ∧ ∀ ρ', W ds.length ρ' → D.nx ρ'
/-! ### while -/
def sWhile (c : ETe) (B : TSD) : TSD := fun D ρ => ∃ W : Nat → EnvD → Prop, (∃ m, W m ρ) ∧ ∀ m ρ', W m ρ' → c ρ' fun t => if t = true then
  B { nx := fun ρ'' => ∃ m', m' < m ∧ W m' ρ'', rt := D.rt, bk := D.nx, ct := fun ρ'' => ∃ m', m' < m ∧ W m' ρ'' } ρ' else D.nx ρ'
theorem psd_while {c : Expr} {body : List Stmt} {tc : TT} {C : ETe} {tb : TS} {B : TSD} (hp : PassesOwn (model X.prog X.w) X.A X.env X.xe) (hc : PDT X c tc C) (hb : PBd X body tb B) : PSd X (.While c body [] pos) (tWhile tc tb) (sWhile C B) :=
  ⟨ps_while hp hc.run hb.run, fun F0 H0 F H ρ σ D E ok L ⟨W, ⟨m0, w0⟩, hs⟩ => by
    refine ⟨fun m σ' H' => ∃ F' ρ', Ok F0 H0 F' H' ρ' σ' ∧ W m ρ', ⟨m0, F, ρ, ok, w0⟩, ?_⟩
    rintro m σ' H' ⟨F', ρ', ok', w⟩
    refine hc.ev F0 H0 F' H' ρ' σ' _ _ ok' (hs m ρ' w) fun t F2 H2 g2 hk => ?_
    cases t with
    | true =>
      refine ⟨fun σ3 H3 => ∃ F3 ρ3, Ok F0 H0 F3 H3 ρ3 σ3 ∧ ∃ m', m' < m ∧ W m' ρ3, fun σ3 H3 ⟨F3, ρ3, ok3, m', hm, w3⟩ => ⟨m', hm, F3, ρ3, ok3, w3⟩, ?_⟩
      exact hb.ev F0 H0 F2 H2 ρ' σ' { nx := fun ρ'' => ∃ m', m' < m ∧ W m' ρ'', rt := D.rt, bk := D.nx, ct := fun ρ'' => ∃ m', m' < m ∧ W m' ρ'' } _ (ok'.gr g2) ⟨fun F4 H4 ρ4 σ4 ok4 w4 => ⟨F4, ρ4, ok4, w4⟩, L.rt, L.nx, fun F4 H4 ρ4 σ4 ok4 w4 => ⟨F4, ρ4, ok4, w4⟩⟩ hk
    | false => exact L.nx F2 H2 ρ' σ' (ok'.gr g2) hk⟩
/-- a, b = e, f with plain local names -/
def sPar (i j : Nat) (r : EA) : TSD := fun D ρ => r ρ fun ds => ∃ d e, ds = [d, e] ∧ D.nx ((ρ.set i (some (.sh d))).set j (some (.sh e)))
theorem psd_par {i j : Nat} {x y : Str} {tA : TA} {r : EA} {px py pt : Pos} {kt k2 pt2} (hc : X.calm = true) (hN : X.N.Nodup) (hi : X.N[i]? = some x) (hj : X.N[j]? = some y) (hij : i ≠ j)
    (hx : X.env.scope.names.lookup x = some .local) (hy : X.env.scope.names.lookup y = some .local) (ha : PDA X [a, b] tA r)
    (hw : swappedStores [.Tuple [.Name x px, .Name y py] kt pt] (.Tuple [a, b] k2 pt2) X.env = pure (some [x, y]) := by rfl)
    (hs : swapsWithSole [.Tuple [.Name x px, .Name y py] kt pt] (.Tuple [a, b] k2 pt2) pos.line X.env = pure false := by rfl) :
    PSd X (.Assign [.Tuple [.Name x px, .Name y py] kt pt] (.Tuple [a, b] k2 pt2) pos) (tPar i j tA) (sPar i j r) :=
  ⟨ps_par hc hN hi hj hij hx hy ha.run hw hs, fun F0 H0 F H ρ σ D E ok L hp => ha.ev F0 H0 F H ρ σ _ _ ok hp fun ds vs F1 H1 g rr ⟨d, e, ex, hk⟩ => by
    subst ex
    obtain ⟨v, w, h1, h2, h3⟩ := rpl2 rr
    exact ⟨v, w, h1, L.nx _ _ _ _ (((ok.gr g).setSh h2 i).setSh h3 j) hk⟩⟩
/-- x += e, x -= e of an int -/
def sAug (i : Nat) (f : Int → Int → Int) (p : ED) : TSD := fun D ρ => ∃ n : Int, ρ[i]? = some (some (.sh (.int n))) ∧ p ρ fun d => ∃ m, d = .int m ∧ D.nx (ρ.set i (some (.sh (.int (f n m)))))
theorem psd_aug {i : Nat} {x : Str} {op : Operator} {f : Int → Int → Int} {pos' : Pos} (hN : X.N.Nodup) (hi : X.N[i]? = some x) (hx : Loc X.env.scope x) (h : PD X e te p) (ho : PIp X op (ipI f)) (hf : X.fn x = true ∨ X.env.scope.names.lookup x = some .local := by first | exact .inl rfl | exact .inr rfl | assumption) :
    PSd X (.AugAssign (.Name x pos') op e pos) (tAug i te (ipI f)) (sAug i f p) :=
  ⟨ps_aug hN hi hx h.run ho hf, fun F0 H0 F H ρ σ D E ok L ⟨n, hn, hp⟩ => by
    obtain ⟨v, h1, h2⟩ := ok.slot i _ hn
    rw [show v = V.int n from h2] at h1
    refine ⟨_, h1, h.ev F0 H0 F H ρ σ _ _ ok hp fun d w F1 H1 g r ⟨m, em, hk⟩ => ?_⟩
    subst em
    exact ⟨n, m, rfl, r, L.nx _ _ _ _ ((ok.gr g).setSh (d := .int (f n m)) (v := .int (f n m)) (by unfold Rp; rfl) i) hk⟩⟩
/-! ### comprehensions -/
def wipeD (ρ : EnvD) : List Nat → EnvD
  | [] => ρ
  | v :: vs => (wipeD ρ vs).set v none
theorem Ok.wipe {F0 H0 F H : Hp} {ρ : EnvD} {σ : L2.St} (ok : Ok F0 H0 F H ρ σ) : ∀ vs : List Nat, Ok F0 H0 F H (wipeD ρ vs) (L2.wipe σ vs)
  | [] => ok
  | v :: vs => (Ok.wipe ok vs).setNone v
theorem wipe_get (σ : L2.St) : ∀ (vs : List Nat) (j : Nat), (L2.wipe σ vs)[j]? = if j ∈ vs then (if j < σ.length then some none else none) else σ[j]?
  | [], j => by simp [L2.wipe]
  | v :: vs, j => by
    unfold L2.wipe
    by_cases e : v = j
    · subst e
      rw [if_pos (by simp)]
      by_cases hl : v < σ.length
      · rw [List.getElem?_set_self (by rw [L2.wipe_length]; exact hl), if_pos hl]
      · rw [List.getElem?_eq_none (by rw [List.length_set, L2.wipe_length]; omega), if_neg hl]
    · rw [List.getElem?_set_ne e, wipe_get σ vs j]
      by_cases h : j ∈ vs
      · rw [if_pos h, if_pos (List.mem_cons_of_mem v h)]
      · rw [if_neg h, if_neg (by rw [List.mem_cons, not_or]; exact ⟨fun z => e z.symm, h⟩)]
theorem wipe_back {σ σ2 : L2.St} {vs ws : List Nat} (h : Only1 ws (L2.wipe σ vs) σ2) (hs : ∀ i ∈ ws, i ∈ vs) : L2.wipe σ2 vs = L2.wipe σ vs := by
  refine List.ext_getElem? fun j => ?_
  have hl : σ2.length = σ.length := by rw [h.1, L2.wipe_length]
  rw [wipe_get, wipe_get, hl]
  by_cases hj : j ∈ vs
  · rw [if_pos hj, if_pos hj]
  · rw [if_neg hj, if_neg hj, h.2 j fun z => hj (hs j z), wipe_get, if_neg hj]
structure PDTs (X : Cx) (ifs : List Expr) (tt : TT) (c : ETe) : Prop where
  run : PTs X ifs tt
  ev : EvT tt c
def hYes : ETe := fun _ k => k true
theorem pdts_nil : PDTs X [] tYes hYes := ⟨pts_nil, fun F0 H0 F H ρ σ k Q ok hk q => q true F H (Gr.refl ok.fh) hk⟩
theorem pdts_one {c : Expr} {tt : TT} {C : ETe} (h : PDT X c tt C) : PDTs X [c] tt C := ⟨pts_one h.run, h.ev⟩
def hLc (vs : List Nat) (r : EA) (g : TGD) (c : ETe) (p : ED) : EA := fun ρ k => r ρ fun ds => ∃ W : Nat → List Dat → Prop, W 0 [] ∧
  (∀ i d acc, ds[i]? = some d → W i acc → g d (wipeD ρ vs) fun ρ' => c ρ' fun t => if t = true then p ρ' fun y => acc.length < 100000 ∧ W (i + 1) (acc ++ [y]) else W (i + 1) acc) ∧ ∀ acc, W ds.length acc → k acc
theorem ev_lc {wi : TI} {r : EA} {g : TG} {ws vs : List Nat} {z : TGD} {tt : TT} {c : ETe} (hi : EvI wi r) (hg : EvG g ws z) (ht : EvT tt c) (he : EvD te p) (hs : ∀ i ∈ ws, i ∈ vs) : EvL (tLc wi g tt te vs) (hLc vs r z c p) := fun F0 H0 F H ρ σ k Q ok hp hq =>
  hi F0 H0 F H ρ σ _ _ ok hp fun ds J F1 H1 g1 hw ⟨W, w0, hstep, hd⟩ A hA => by
    refine ⟨fun i m H' => m = ds.length - i ∧ i ≤ ds.length ∧ ∃ F' acc us, Gr F1 H1 F' H' ∧ F' A = none ∧ H' A = some (.lst us) ∧ RpL F' acc us ∧ W i acc, ⟨ds.length, by simp, Nat.zero_le _, F1, [], [], Gr.made g1.fh hA, fresh_back g1.fh hA, upd_same, rfl, w0⟩, ?_⟩
    rintro i m H' ⟨em, hi', F', acc, us, g2, hF, hH, hr, w⟩
    subst em
    by_cases hlt : i < ds.length
    · refine .inr ⟨hw.go F' H' i g2.eF g2.fh hlt, fun H2 => ∃ F' acc us, Gr F1 H1 F' H2 ∧ F' A = none ∧ H2 A = some (.lst us) ∧ RpL F' acc us ∧ W (i + 1) acc, fun H2 h2 => ⟨ds.length - (i + 1), by omega, rfl, hlt, h2⟩, fun x H2 hy => ?_⟩
      obtain ⟨d, F2, hd1, g3, r3⟩ := hw.yld F' H' i x H2 g2.eF g2.fh hlt hy
      have okw := ((ok.gr (g1.trans (g2.trans g3))).wipe vs)
      refine hg F0 H0 F2 H2 _ _ d x _ _ okw r3 (hstep i d acc hd1 w) fun ρ' σ' ok' o1 hk => ⟨wipe_back o1 hs, ?_⟩
      refine ht F0 H0 F2 H2 ρ' σ' _ _ ok' hk fun b F3 H3 g4 hk2 => ?_
      obtain ⟨o2, o3⟩ := (g3.trans g4).out hF hH
      cases b with
      | false =>
        show ∃ F' acc us, _
        exact ⟨F3, acc, us, g2.trans (g3.trans g4), o2, o3, RpL.mono (g3.trans g4).eF acc hr, hk2⟩
      | true =>
        show te σ' H3 _
        refine he F0 H0 F3 H3 ρ' σ' _ _ (ok'.gr g4) hk2 fun y v F4 H4 g5 r5 ⟨hl, w5⟩ => ?_
        obtain ⟨o4, o5⟩ := g5.out o2 o3
        exact ⟨us, o5, by rw [← hr.length]; exact small_lt hl, F4, acc ++ [y], us ++ [v], (g2.trans ((g3.trans g4).trans g5)).mut hA o4, o4, upd_same, RpL.append (RpL.mono ((g3.trans g4).trans g5).eF acc hr) (RpL.one r5), w5⟩
    · have e : i = ds.length := by omega
      subst e
      exact .inl ⟨hw.stop F' H' g2.eF g2.fh, hq acc A us F' H' (g1.trans g2) (fresh_back g1.eH hA) hF hH hr (hd acc w)⟩
theorem pl_lc {elt iter : Expr} {ifs : List Expr} {scope : Scope} {own : List (Str × Nat)} {wi : TI} {r : EA} {g : TG} {ws : List Nat} {z : TGD} {tt : TT} {c : ETe} (hc : X.calm = true) (hN : X.N.Nodup) (hi : PId X tg iter wi r) (ok : BlkOk X.N X.env.scope scope own)
    (hg : ∀ (s : Shared) (H : Hp) (C : Addr) (cl : List (Str × Addr)) (fp : List Addr), PGd (X.blk s H scope (compEnvC scope cl C X.env) fp) tg g ws z) (ht : ∀ (s : Shared) (H : Hp) (C : Addr) (cl : List (Str × Addr)) (fp : List Addr), PDTs (X.blk s H scope (compEnvC scope cl C X.env) fp) ifs tt c)
    (he : ∀ (s : Shared) (H : Hp) (C : Addr) (cl : List (Str × Addr)) (fp : List Addr), PD (X.blk s H scope (compEnvC scope cl C X.env) fp) elt te p) (hw : ∀ i ∈ ws, i ∈ own.map (·.2) := by decide) (hs : ∀ x, foldedSetIterable iter X.env x = pure x := by intro _; rfl) :
    PL X (.ListComp elt [⟨tg, iter, ifs, 0⟩] scope pos) (tLc wi g tt te (own.map (·.2))) (hLc (own.map (·.2)) r z c p) := by
  -- the readings do not hang on the block's context
  have anyG : EvG g ws z := (hg X.s_0 (fun _ => none) 0 [] []).ev
  have anyT : EvT tt c := (ht X.s_0 (fun _ => none) 0 [] []).ev
  have anyE : EvD te p := (he X.s_0 (fun _ => none) 0 [] []).ev
  exact ⟨pe_lc hc hN hi.run ok (fun s H C cl fp => (hg s H C cl fp).run) (fun s H C cl fp => (ht s H C cl fp).run) (fun s H C cl fp => (he s H C cl fp).run) hs, ev_lc hi.ev anyG anyT anyE hw⟩
/-- name = [..] on one line -/
theorem psd_setLc {i : Nat} {y : Str} {py : Pos} {elt iter : Expr} {ifs : List Expr} {scope : Scope} {own : List (Str × Nat)} {spos : Pos} {wi : TI} {r : EA} {g : TG} {ws : List Nat} {z : TGD} {tt : TT} {c : ETe} (hc : X.calm = true) (hN : X.N.Nodup) (hy : X.N[i]? = some y) (hyl : X.env.scope.names.lookup y = some .local)
    (hsw : swapsWith (.ListComp elt [⟨tg, iter, ifs, 0⟩] scope pos) (some (.Name y py)) spos.line X.env = pure true) (hi : PId X tg iter wi r) (ok : BlkOk X.N X.env.scope scope own)
    (hg : ∀ (s : Shared) (H : Hp) (C : Addr) (cl : List (Str × Addr)) (fp : List Addr), PGd (X.blk s H scope (compEnvC scope cl C X.env) fp) tg g ws z) (ht : ∀ (s : Shared) (H : Hp) (C : Addr) (cl : List (Str × Addr)) (fp : List Addr), PDTs (X.blk s H scope (compEnvC scope cl C X.env) fp) ifs tt c)
    (he : ∀ (s : Shared) (H : Hp) (C : Addr) (cl : List (Str × Addr)) (fp : List Addr), PD (X.blk s H scope (compEnvC scope cl C X.env) fp) elt te p) (hw : ∀ i ∈ ws, i ∈ own.map (·.2) := by decide) (hs : ∀ x, foldedSetIterable iter X.env x = pure x := by intro _; rfl) :
    PSd X (.Assign [.Name y py] (.ListComp elt [⟨tg, iter, ifs, 0⟩] scope pos) spos) (tAsg (tLc wi g tt te (own.map (·.2))) (gName i)) (sAsg (hSh (hLc (own.map (·.2)) r z c p)) (gdName i)) := by
  have L := pl_lc (pos := pos) hc hN hi ok hg ht he hw hs
  exact ⟨ps_setLc hc hN hy hyl hsw hi.run ok (fun s H C cl fp => (hg s H C cl fp).run) (fun s H C cl fp => (ht s H C cl fp).run) (fun s H C cl fp => (he s H C cl fp).run) hs, ev_asg (pd_sh L).ev (ev_name i)⟩
theorem psd_ownLc {i : Nat} {y : Str} {py : Pos} {elt iter : Expr} {ifs : List Expr} {scope : Scope} {own : List (Str × Nat)} {spos : Pos} {wi : TI} {r : EA} {g : TG} {ws : List Nat} {z : TGD} {tt : TT} {c : ETe} (hc : X.calm = true) (hN : X.N.Nodup) (hy : X.N[i]? = some y) (hyl : X.env.scope.names.lookup y = some .local)
    (hsw : swapsWith (.ListComp elt [⟨tg, iter, ifs, 0⟩] scope pos) (some (.Name y py)) spos.line X.env = pure true) (hi : PId X tg iter wi r) (ok : BlkOk X.N X.env.scope scope own)
    (hg : ∀ (s : Shared) (H : Hp) (C : Addr) (cl : List (Str × Addr)) (fp : List Addr), PGd (X.blk s H scope (compEnvC scope cl C X.env) fp) tg g ws z) (ht : ∀ (s : Shared) (H : Hp) (C : Addr) (cl : List (Str × Addr)) (fp : List Addr), PDTs (X.blk s H scope (compEnvC scope cl C X.env) fp) ifs tt c)
    (he : ∀ (s : Shared) (H : Hp) (C : Addr) (cl : List (Str × Addr)) (fp : List Addr), PD (X.blk s H scope (compEnvC scope cl C X.env) fp) elt te p) (hw : ∀ i ∈ ws, i ∈ own.map (·.2) := by decide) (hs : ∀ x, foldedSetIterable iter X.env x = pure x := by intro _; rfl) :
    PSd X (.Assign [.Name y py] (.ListComp elt [⟨tg, iter, ifs, 0⟩] scope pos) spos) (tAsg (tLc wi g tt te (own.map (·.2))) (gName i)) (sOwn (hLc (own.map (·.2)) r z c p) i) := by
  have L := pl_lc (pos := pos) hc hN hi ok hg ht he hw hs
  exact ⟨ps_setLc hc hN hy hyl hsw hi.run ok (fun s H C cl fp => (hg s H C cl fp).run) (fun s H C cl fp => (ht s H C cl fp).run) (fun s H C cl fp => (he s H C cl fp).run) hs, ev_own L.ev i⟩
end
end DL
/-! The operators, lists and slices, a def's promise by its body. -/
namespace DL
open PySem PySem.Spec PyProof.Rows L2 Evl
abbrev ZD : Type := Dat → Dat → (Dat → Prop) → Prop
def zI (f : Int → Int → Int) : ZD := fun x y k => ∃ i j, x = .int i ∧ y = .int j ∧ k (.int (f i j))
def zIc (C : Int → Int → Prop) (f : Int → Int → Int) : ZD := fun x y k => ∃ i j, x = .int i ∧ y = .int j ∧ C i j ∧ k (.int (f i j))
def zB (f : Int → Int → Bool) : ZD := fun x y k => ∃ i j, x = .int i ∧ y = .int j ∧ k (.bl (f i j))
theorem r2_I {f : Int → Int → Int} : R2D (rI0 fun i j => .int (f i j)) (zI f) := fun F H x y dx dy k Q e r1 r2 ⟨i, j, h1, h2, hk⟩ q => by
  subst h1 h2
  exact ⟨i, j, r1, r2, q _ _ F H (Gr.refl e) (by unfold Rp; rfl) hk⟩
theorem r2_Ic {C : Int → Int → Prop} {f : Int → Int → Int} : R2D (rI C fun i j => .int (f i j)) (zIc C f) := fun F H x y dx dy k Q e r1 r2 ⟨i, j, h1, h2, hc, hk⟩ q => by
  subst h1 h2
  exact ⟨i, j, r1, r2, hc, q _ _ F H (Gr.refl e) (by unfold Rp; rfl) hk⟩
theorem r2_B {f : Int → Int → Bool} : R2D (rI0 fun i j => .bl (f i j)) (zB f) := fun F H x y dx dy k Q e r1 r2 ⟨i, j, h1, h2, hk⟩ q => by
  subst h1 h2
  exact ⟨i, j, r1, r2, q _ _ F H (Gr.refl e) (by unfold Rp; rfl) hk⟩
/-- // by any number but 0 below 2 ^ 9000 -/
def CDivWN (_ j : Int) : Prop := j ≠ 0 ∧ j.natAbs.log2 < 9000
theorem op_fdivWN {X : Cx} : OpR X (binaryOp .FloorDiv) (rI CDivWN fun i j => .int (i.fdiv j)) := opI fun _ _ _ _ _ _ _ hc q => floordiv_int hc.1 q (.inl (PyProof.noPylong_of_log2 hc.2))
/-- == and != of ints, texts, bools, pairs of ints -/
def eqD : Dat → Dat → Bool → Prop
  | .int i, .int j, b => b = decide (i = j)
  | .str x, .str y, b => b = decide (x = y)
  | .bl x, .bl y, b => b = decide (x = y)
  | .tup [.int i, .int j], .tup [.int m, .int n], b => b = decide (i = m ∧ j = n)
  | _, _, _ => False
def zEq (neg : Bool) : ZD := fun x y k => ∃ b, eqD x y b ∧ k (.bl (neg ^^ b))
def pairD (i j : Int) : PyData := .tuple [.int i, .int j]
theorem pairD_shaped (i j : Int) : SeqAt.shaped (pairD i j) = true := by
  have h : (pairD i j).depth ≤ 64 := by simp [pairD, PyData.depth, PyData.depthAll]
  show ((pairD i j).canLay0 && decide ((pairD i j).depth ≤ 64)) = true
  rw [Bool.and_eq_true]
  exact ⟨by simp [pairD, PyData.canLay0, PyData.canLayAll0], decide_eq_true h⟩
theorem pairD_eqv (i j m n : Int) : PyData.eqv (pairD i j) (pairD m n) = decide (i = m ∧ j = n) := by
  have e : PyData.eqv (pairD i j) (pairD m n) = ((i == m) && ((j == n) && true)) := by simp only [pairD, PyData.eqv, PyData.eqvAll]
  rw [e]
  by_cases h1 : i = m <;> by_cases h2 : j = n <;> simp [h1, h2]
theorem rp_pair {F : Hp} {i j : Int} {v : V} (r : Rp F (.tup [.int i, .int j]) v) : ∃ a, v = .ref a ∧ F a = some (.tup [.int i, .int j]) := by
  obtain ⟨a, vs, h1, h2, h3⟩ := r
  obtain ⟨u, w, h4, h5, h6⟩ := rpl2 h3
  rw [show u = V.int i from h5, show w = V.int j from h6] at h4
  rw [h4] at h2
  exact ⟨a, h1, h2⟩
theorem dp_pair {K : PySem.W.Frag} {F H : Hp} (e : Ex F H) {i j : Int} {v : V} (r : Rp F (.tup [.int i, .int j]) v) : Dp K H v (pairD i j) := by
  obtain ⟨a, h1, h2⟩ := rp_pair r
  subst h1
  exact .tup (SqT.of (e _ _ h2)) (.cons (.int i) (.cons (.int j) .nil))
def rEqA (K : PySem.W.Frag) : R2 := fun x y H Q => rEq x y H Q ∨ rEqD K x y H Q
def rNeA (K : PySem.W.Frag) : R2 := fun x y H Q => rNe x y H Q ∨ rNeD K x y H Q
theorem op_eqA {X : Cx} (hu : X.A.units + 64 < cLine) : OpR X (compareOp .Eq) (rEqA X.K) := OpR.or op_eq (op_eqD hu)
theorem op_neA {X : Cx} (hu : X.A.units + 64 < cLine) : OpR X (compareOp .NotEq) (rNeA X.K) := OpR.or op_ne (op_neD hu)
theorem eqD_cases {P : Dat → Dat → Bool → Prop} (h1 : ∀ i j, P (.int i) (.int j) (decide (i = j))) (h2 : ∀ x y, P (.str x) (.str y) (decide (x = y))) (h3 : ∀ x y, P (.bl x) (.bl y) (decide (x = y)))
    (h4 : ∀ i j m n, P (.tup [.int i, .int j]) (.tup [.int m, .int n]) (decide (i = m ∧ j = n))) {x y : Dat} {b : Bool} (h : eqD x y b) : P x y b := by
  unfold eqD at h
  split at h
  · subst h; exact h1 _ _
  · subst h; exact h2 _ _
  · subst h; exact h3 _ _
  · subst h; exact h4 _ _ _ _
  · exact h.elim
theorem r2_eq {K : PySem.W.Frag} : R2D (rEqA K) (zEq false) := fun F H x y dx dy k Q e r1 r2 ⟨b, hb, hk⟩ q => by
  revert r1 r2 hk
  refine eqD_cases (P := fun dx dy b => Rp F dx x → Rp F dy y → k (.bl (false ^^ b)) → rEqA K x y H Q) ?_ ?_ ?_ ?_ hb
  · intro i j r1 r2 hk
    rw [show x = V.int i from r1, show y = V.int j from r2]
    exact .inl ⟨rfl, q _ _ F H (Gr.refl e) (by unfold Rp; simp) hk⟩
  · intro i j r1 r2 hk
    rw [show x = V.str i from r1, show y = V.str j from r2]
    exact .inl ⟨rfl, q _ _ F H (Gr.refl e) (by unfold Rp; simp) hk⟩
  · intro i j r1 r2 hk
    rw [show x = V.bl i from r1, show y = V.bl j from r2]
    exact .inl ⟨rfl, q _ _ F H (Gr.refl e) (by unfold Rp; simp) hk⟩
  · intro i j m n r1 r2 hk
    exact .inr ⟨_, _, dp_pair e r1, dp_pair e r2, pairD_shaped i j, pairD_shaped m n, by rw [pairD_eqv]; exact q _ _ F H (Gr.refl e) (by unfold Rp; simp) hk⟩
theorem r2_ne {K : PySem.W.Frag} : R2D (rNeA K) (zEq true) := fun F H x y dx dy k Q e r1 r2 ⟨b, hb, hk⟩ q => by
  revert r1 r2 hk
  refine eqD_cases (P := fun dx dy b => Rp F dx x → Rp F dy y → k (.bl (true ^^ b)) → rNeA K x y H Q) ?_ ?_ ?_ ?_ hb
  · intro i j r1 r2 hk
    rw [show x = V.int i from r1, show y = V.int j from r2]
    exact .inl ⟨rfl, q _ _ F H (Gr.refl e) (by unfold Rp; simp) hk⟩
  · intro i j r1 r2 hk
    rw [show x = V.str i from r1, show y = V.str j from r2]
    exact .inl ⟨rfl, q _ _ F H (Gr.refl e) (by unfold Rp; simp) hk⟩
  · intro i j r1 r2 hk
    rw [show x = V.bl i from r1, show y = V.bl j from r2]
    exact .inl ⟨rfl, q _ _ F H (Gr.refl e) (by unfold Rp; simp) hk⟩
  · intro i j m n r1 r2 hk
    exact .inr ⟨_, _, dp_pair e r1, dp_pair e r2, pairD_shaped i j, pairD_shaped m n, by rw [pairD_eqv]; exact q _ _ F H (Gr.refl e) (by unfold Rp; simp) hk⟩
/-- is None -/
def isNon : Dat → Bool
  | .non => true
  | _ => false
def zNon (neg : Bool) : ZD := fun x y k => y = .non ∧ k (.bl (neg ^^ isNon x))
theorem isNon_rp {F : Hp} {d : Dat} {v : V} (r : Rp F d v) : decide (v = .non) = isNon d := by
  cases d with
  | non => rw [show v = _ from r]; rfl
  | bl b => rw [show v = _ from r]; simp [isNon]
  | int i => rw [show v = _ from r]; simp [isNon]
  | str x => rw [show v = _ from r]; simp [isNon]
  | tup xs => obtain ⟨a, vs, h1, _⟩ := r; rw [h1]; simp [isNon]
  | lst xs => obtain ⟨a, vs, h1, _⟩ := r; rw [h1]; simp [isNon]
  | dct ks ds => obtain ⟨a, vs, h1, _⟩ := r; rw [h1]; simp [isNon]
  | obj C ns ds => obtain ⟨a, dx, vs, h1, _⟩ := r; rw [h1]; simp [isNon]
  | at_ a => rw [show v = _ from r]; simp [isNon]
theorem r2_isN : R2D (fun x y H Q => y = .non ∧ Q (.bl (decide (x = .non))) H) (zNon false) := fun F H x y dx dy k Q e r1 r2 ⟨hy, hk⟩ q => by
  subst hy
  exact ⟨r2, q _ _ F H (Gr.refl e) (by unfold Rp; rw [isNon_rp r1]; simp) hk⟩
theorem r2_notN : R2D (fun x y H Q => y = .non ∧ Q (.bl (!decide (x = .non))) H) (zNon true) := fun F H x y dx dy k Q e r1 r2 ⟨hy, hk⟩ q => by
  subst hy
  exact ⟨r2, q _ _ F H (Gr.refl e) (by unfold Rp; rw [isNon_rp r1]; simp) hk⟩
/-- xs[i], t[i] -/
def seqOf : Dat → Option (List Dat)
  | .tup xs => some xs
  | .lst xs => some xs
  | _ => none
def zIx : ZD := fun x y k => ∃ ds i d, seqOf x = some ds ∧ y = .int i ∧ atI ds i = some d ∧ k d
theorem r2_ix {K : PySem.W.Frag} : R2D (rIx K) zIx := fun F H x y dx dy k Q e r1 r2 ⟨ds, i, d, h1, h2, h3, hk⟩ q => by
  subst h2
  cases dx with
  | tup xs =>
    cases h1
    obtain ⟨a, vs, g1, g2, g3⟩ := r1
    obtain ⟨v, w1, w2⟩ := g3.at h3
    exact .inr (.inl ⟨a, vs, i, v, g1, r2, SqT.of (e _ _ g2), w1, q d v F H (Gr.refl e) w2 hk⟩)
  | lst xs =>
    cases h1
    obtain ⟨a, vs, g1, g2, g3⟩ := r1
    obtain ⟨v, w1, w2⟩ := g3.at h3
    exact .inl ⟨a, vs, i, v, g1, r2, SqL.of (e _ _ g2), w1, q d v F H (Gr.refl e) w2 hk⟩
  | _ => cases h1
/-- s in (texts) -/
def zInS : ZD := fun x y k => ∃ (s : Str) (ss : List Str), x = .str s ∧ y = .tup (ss.map .str) ∧ k (.bl (decide (s ∈ ss)))
theorem inV_strs (s : Str) : ∀ ss : List Str, inV (.str s) (ss.map V.str) = decide (s ∈ ss)
  | [] => rfl
  | x :: ss => by
    have ih := inV_strs s ss
    unfold inV at ih ⊢
    rw [List.map_cons, List.any_cons, ih]
    have e1 : eqV (V.str x) (V.str s) = decide (s = x) := by
      unfold eqV
      by_cases h : x = s
      · subst h; simp
      · have h' : ¬ s = x := fun z => h z.symm
        simp [h, h']
    rw [e1]
    by_cases h : s = x <;> by_cases h2 : s ∈ ss <;> simp [h, h2]
theorem r2_inS {K : PySem.W.Frag} : R2D (rIn K false) zInS := fun F H x y dx dy k Q e r1 r2 ⟨s, ss, h1, h2, hk⟩ q => by
  subst h1 h2
  obtain ⟨a, vs, g1, g2, g3⟩ := r2
  rw [RpL.strs_eq g3] at g2
  rw [show x = V.str s from r1]
  exact ⟨a, _, g1, .inr (SqT.of (e _ _ g2)), rfl, by simp [flatV], by
    rw [if_neg Bool.false_ne_true, inV_strs]
    exact q _ _ F H (Gr.refl e) (by unfold Rp; rfl) hk⟩
/-- t + u of tuples -/
def zCatT : ZD := fun x y k => ∃ xs ys, x = .tup xs ∧ y = .tup ys ∧ xs ≠ [] ∧ ys ≠ [] ∧ xs.length + ys.length ≤ 100000 ∧ k (.tup (xs ++ ys))
theorem r2_catT {K : PySem.W.Frag} : R2D (rCatA K) zCatT := fun F H x y dx dy k Q e r1 r2 ⟨xs, ys, h1, h2, hx, hy, hl, hk⟩ q => by
  subst h1 h2
  obtain ⟨a, vs, g1, g2, g3⟩ := r1
  obtain ⟨b, ws, k1, k2, k3⟩ := r2
  have nx : vs ≠ [] := fun z => hx (List.eq_nil_of_length_eq_zero (by rw [g3.length, z]; rfl))
  have ny : ws ≠ [] := fun z => hy (List.eq_nil_of_length_eq_zero (by rw [k3.length, z]; rfl))
  refine ⟨a, b, vs, ws, g1, k1, SqT.of (e _ _ g2), SqT.of (e _ _ k2), by rw [← g3.length, ← k3.length]; exact small_len hl, fun z => absurd z nx, fun _ z => absurd z ny, fun _ _ p hp => ?_⟩
  have g : Gr F H _ _ := Gr.laid (o := .tup (vs ++ ws)) e hp
  exact q _ _ _ _ g (rp_tup upd_same (RpL.mono g.eF _ (RpL.append g3 k3))) hk
section
variable {X : Cx} {pos : Pos} {a b e o c : Expr} {ta tb te to tc : TE} {p q s : ED}
/-! ### new lists -/
/-- xs + ys -/
def hCat (p q : ED) : EA := fun ρ k => p ρ fun x => q ρ fun y => ∃ xs ys, x = .lst xs ∧ y = .lst ys ∧ xs.length + ys.length ≤ 100000 ∧ k (xs ++ ys)
theorem pl_cat (ha : PD X a ta p) (hb : PD X b tb q) : PL X (.BinOp a .Add b pos) (tOp rCat ta tb) (hCat p q) :=
  ⟨pe_op op_cat ha.run hb.run, fun F0 H0 F H ρ σ k Q ok hp hq => ha.ev F0 H0 F H ρ σ _ _ ok hp fun x v F1 H1 g1 r1 hp1 => hb.ev F0 H0 F1 H1 ρ σ _ _ (ok.gr g1) hp1 fun y w F2 H2 g2 r2 ⟨xs, ys, h1, h2, hl, hk⟩ => by
    subst h1 h2
    obtain ⟨l, vs, e1, e2, e3⟩ := Rp.mono g2.eF _ r1
    obtain ⟨m, ws, k1, k2, k3⟩ := r2
    exact ⟨l, m, vs, ws, e1, k1, g2.fh _ _ e2, g2.fh _ _ k2, by rw [← e3.length, ← k3.length]; exact small_len hl, fun c hc => hq (xs ++ ys) c (vs ++ ws) F2 _ ((g1.trans g2).trans (Gr.made g2.fh hc)) (fresh_back (g1.trans g2).eH hc) (fresh_back g2.fh hc) upd_same (RpL.append e3 k3) hk⟩⟩
/-- xs * n -/
def repD (n : Nat) (xs : List Dat) : List Dat := (List.replicate n xs).flatten
theorem rpl_rep {F : Hp} {xs : List Dat} {vs : List V} (r : RpL F xs vs) : ∀ n, RpL F (repD n xs) (List.replicate n vs).flatten
  | 0 => rfl
  | n + 1 => by
    unfold repD
    rw [List.replicate_succ, List.replicate_succ, List.flatten_cons, List.flatten_cons]
    exact RpL.append r (rpl_rep r n)
def hRep (p q : ED) : EA := fun ρ k => p ρ fun x => q ρ fun y => ∃ xs n, x = .lst xs ∧ y = .int n ∧ n < 2 ^ 62 ∧ -(2 ^ 62) < n ∧ xs.length * n.toNat ≤ 100000 ∧ k (repD n.toNat xs)
theorem pl_rep (ha : PD X a ta p) (hb : PD X b tb q) : PL X (.BinOp a .Mult b pos) (tOp rRep ta tb) (hRep p q) :=
  ⟨pe_op op_rep ha.run hb.run, fun F0 H0 F H ρ σ k Q ok hp hq => ha.ev F0 H0 F H ρ σ _ _ ok hp fun x v F1 H1 g1 r1 hp1 => hb.ev F0 H0 F1 H1 ρ σ _ _ (ok.gr g1) hp1 fun y w F2 H2 g2 r2 ⟨xs, n, h1, h2, b1, b2, hl, hk⟩ => by
    subst h1 h2
    obtain ⟨l, vs, e1, e2, e3⟩ := Rp.mono g2.eF _ r1
    exact ⟨l, n, vs, e1, r2, g2.fh _ _ e2, by omega, by omega, by rw [← e3.length]; exact small_len hl, fun c hc => hq _ c _ F2 _ ((g1.trans g2).trans (Gr.made g2.fh hc)) (fresh_back (g1.trans g2).eH hc) (fresh_back g2.fh hc) upd_same (rpl_rep e3 _) hk⟩⟩
/-- parts of slices -/
abbrev EO : Type := EnvD → (Option Int → Prop) → Prop
def EvO (to : TO) (p : EO) : Prop := ∀ (F0 H0 F H : Hp) (ρ : EnvD) (σ : L2.St) (k : Option Int → Prop) (Q : Option Int → Hp → Prop), Ok F0 H0 F H ρ σ → p ρ k → (∀ i F' H', Gr F H F' H' → k i → Q i H') → to σ H Q
structure PDO (X : Cx) (e : Option Expr) (t : TO) (p : EO) : Prop where
  run : PO X e t
  ev : EvO t p
def hNoPart : EO := fun _ k => k none
def hPart (p : ED) : EO := fun ρ k => p ρ fun d => ∃ i, d = .int i ∧ k (some i)
theorem pdo_none : PDO X none tNoPart hNoPart := ⟨po_none, fun F0 H0 F H ρ σ k Q ok hk q => q none F H (Gr.refl ok.fh) hk⟩
theorem pdo_some (h : PD X e te p) : PDO X (some e) (tPart te) (hPart p) := ⟨po_some h.run, fun F0 H0 F H ρ σ k Q ok hp q => h.ev F0 H0 F H ρ σ _ _ ok hp fun d v F1 H1 g1 r1 ⟨i, ei, hk⟩ => by
  subst ei
  exact ⟨i, r1, q (some i) F1 H1 g1 hk⟩⟩
def cutD (xs : List Dat) (lo hi : Option Int) : List Dat := (xs.drop (HT.sIx xs.length 0 lo)).take (HT.sIx xs.length xs.length hi - HT.sIx xs.length 0 lo)
theorem rpl_cut {F : Hp} {xs : List Dat} {vs : List V} (r : RpL F xs vs) (lo hi : Option Int) : RpL F (cutD xs lo hi) (cutV vs lo hi) := by
  unfold cutD cutV
  rw [r.length]
  exact RpL.take _ (RpL.drop _ r)
def hSlice (p : ED) (l u : EO) : EA := fun ρ k => p ρ fun x => l ρ fun lo => u ρ fun hi => ∃ xs, x = .lst xs ∧ k (cutD xs lo hi)
theorem pl_slice {lo hi : Option Expr} {tl th : TO} {l u : EO} {p2 : Pos} (h : PD X e te p) (hl : PDO X lo tl l) (hu : PDO X hi th u) : PL X (.Subscript e (.Slice lo hi none p2) pos) (tSl (rSlL X.K) te tl th) (hSlice p l u) :=
  ⟨pe_slice sl_list h.run hl.run hu.run, fun F0 H0 F H ρ σ k Q ok hp hq => h.ev F0 H0 F H ρ σ _ _ ok hp fun x v F1 H1 g1 r1 hp1 => hl.ev F0 H0 F1 H1 ρ σ _ _ (ok.gr g1) hp1 fun i F2 H2 g2 hp2 => hu.ev F0 H0 F2 H2 ρ σ _ _ (ok.gr (g1.trans g2)) hp2 fun j F3 H3 g3 ⟨xs, ex, hk⟩ => by
    subst ex
    obtain ⟨l, vs, e1, e2, e3⟩ := Rp.mono (g2.trans g3).eF _ r1
    have g := g1.trans (g2.trans g3)
    exact ⟨l, vs, e1, SqL.of (g.fh _ _ e2), fun c hc => hq _ c _ F3 _ (g.trans (Gr.made g.fh hc)) (fresh_back g.eH hc) (fresh_back g.fh hc) upd_same (rpl_cut e3 i j) hk⟩⟩
/-- xs[::-1] -/
def hRev (p : ED) : EA := fun ρ k => p ρ fun x => ∃ xs, x = .lst xs ∧ k xs.reverse
theorem pl_rev {j : Nat} {p1 p2 p3 : Pos} (h : PD X e te p) : PL X (.Subscript e (.Slice none none (some (.UnaryOp .USub (.Constant (.int 1) j p1) p2)) p3) pos) (tRevL X.K te) (hRev p) :=
  ⟨pe_revL h.run, fun F0 H0 F H ρ σ k Q ok hp hq => h.ev F0 H0 F H ρ σ _ _ ok hp fun x v F1 H1 g r1 ⟨xs, ex, hk⟩ => by
    subst ex
    obtain ⟨l, vs, e1, e2, e3⟩ := r1
    exact ⟨l, vs, e1, SqL.of (g.fh _ _ e2), fun c hc => hq _ c _ F1 _ (g.trans (Gr.made g.fh hc)) (fresh_back g.eH hc) (fresh_back g.fh hc) upd_same e3.reverse hk⟩⟩
/-- list(xs) -/
def hList (p : ED) : EA := fun ρ k => p ρ fun x => ∃ xs, x = .lst xs ∧ k xs
def rListOf (K : PySem.W.Frag) : List V → Hp → VK → Prop := fun xs H Q => ∃ p ys, xs = [.ref p] ∧ (SqL K H p ys ∨ SqT K H p ys) ∧ ∀ l, H l = none → Q (.ref l) (upd H l (.lst ys))
theorem pl_list {p2 : Pos} (hg : Gl X "list") (hm : X.mg "list" = none) (h : PD X e te p) (he : starEach [e] X.env = (false, eval e X.env) :: starEach [] X.env := by rfl) (hpl : (backTo pos (starEach [] X.env)).any (·.1) = false := by rfl) : PL X (.Call (.Name "list" p2) [e] [] pos) (tCB (rListOf X.K) (tCons te tNil)) (hList p) :=
  ⟨pe_callTy call_list_of hg hm (by decide +kernel) (pa_cons h.run pa_nil he) (by decide) (by decide) he hpl, fun F0 H0 F H ρ σ k Q ok hp hq => h.ev F0 H0 F H ρ σ _ _ ok hp fun x v F1 H1 g r1 ⟨xs, ex, hk⟩ => by
    subst ex
    obtain ⟨l, vs, e1, e2, e3⟩ := r1
    exact ⟨l, vs, by rw [e1], .inl (SqL.of (g.fh _ _ e2)), fun c hc => hq _ c _ F1 _ (g.trans (Gr.made g.fh hc)) (fresh_back g.eH hc) (fresh_back g.fh hc) upd_same e3 hk⟩⟩
/-- a chain of two comparisons -/
theorem ev_chain {r r' : R2} {z z' : ZD} (hr : R2D r z) (hr' : R2D r' z') (ha : EvD ta p) (hb : EvD tb q) (hc : EvD tc s) : EvD (tChain r r' ta tb tc) (hChain z z' p q s) := fun F0 H0 F H ρ σ k Q ok hp hq =>
  ha F0 H0 F H ρ σ _ _ ok hp fun x v F1 H1 g1 r1 hp1 => hb F0 H0 F1 H1 ρ σ _ _ (ok.gr g1) hp1 fun y w F2 H2 g2 r2 hp2 =>
    hr F2 H2 v w x y _ _ g2.fh (Rp.mono g2.eF _ r1) r2 hp2 fun d u F3 H3 g3 r3 ⟨b, eb, hp3⟩ => by
      subst eb
      refine ⟨b, r3, ?_⟩
      cases b with
      | true => exact hc F0 H0 F3 H3 ρ σ _ _ (ok.gr (g1.trans (g2.trans g3))) hp3 fun w' u' F4 H4 g4 r4 hp4 => hr' F4 H4 w u' y w' _ _ g4.fh (Rp.mono (g3.trans g4).eF _ r2) r4 hp4 fun d v F5 H5 g5 r5 hk => hq d v F5 H5 (g1.trans (g2.trans (g3.trans (g4.trans g5)))) r5 hk
      | false => exact hq _ _ F3 H3 (g1.trans (g2.trans g3)) (by unfold Rp; rfl) hp3
theorem pd_chain {op op' : CmpOp} {r r' : R2} {z z' : ZD} (ho : OpR X (compareOp op) r) (ho' : OpR X (compareOp op') r') (hr : R2D r z) (hr' : R2D r' z') (ha : PD X a ta p) (hb : PD X b tb q) (hc : PD X c tc s) (hm : lastMarks [op, op'] [b, c] = false := by with_unfolding_all rfl) :
    PD X (.Compare a [op, op'] [b, c] pos) (tChain r r' ta tb tc) (hChain z z' p q s) := ⟨pe_chain ho ho' ha.run hb.run hc.run hm, ev_chain hr hr' ha.ev hb.ev hc.ev⟩
theorem pdt_chain {op op' : CmpOp} {r r' : R2} {z z' : ZD} (ho : OpR X (compareOp op) r) (ho' : OpR X (compareOp op') r') (hr : R2D r z) (hr' : R2D r' z') (ha : PD X a ta p) (hb : PD X b tb q) (hc : PD X c tc s) (hm : lastMarks [op, op'] [b, c] = false := by with_unfolding_all rfl) :
    PDT X (.Compare a [op, op'] [b, c] pos) (tTest (tChain r r' ta tb tc)) (hB (hChain z z' p q s)) := ⟨pt_chain ho ho' ha.run hb.run hc.run hm, ev_B (ev_chain hr hr' ha.ev hb.ev hc.ev)⟩
end
/-! ### a def -/
section
variable {P : Program} {w : World} {K : PySem.W.Frag} {mg : Str → Option Value} {base : Heap}
theorem fn_ok {x qual : Str} {params : Arguments} {body : List Stmt} {scope : Scope} {dvs : List V} {f : Addr} {fd : FuncData} {N ps : List Str} {k : Nat} {R : Tr} (F : FunD K x qual params body scope dvs [] f fd) (S : FnScope N ps scope) (len : ∀ ds k, R ds k → ds.length = ps.length)
    (hbody : ∀ (cdv : Value) (A : Around) (outer : List Env) (s : Shared) (H : Hp) (E : XK), Room k (A.deeper (envOfC qual scope s.heap.objs.size f cdv)) →
      ∃ t p, PBd (cxOf CX0 P w K mg base N qual scope f cdv A outer s H E).nox body t p ∧ ∀ ds k, R ds k → p { nx := fun _ => k .non, rt := k } (startD N.length ds)) : FnOk P w K mg base CX0 (k + 1) f fd ps (Pr R) := by
  refine F.ok S (fun vs H Q E ⟨F1, ds, k, _, r, hR, _⟩ => by rw [← r.length]; exact len ds k hR) fun cdv A outer s H vs Q E hr ⟨F1, ds, k, e, r, hR, hq⟩ => ?_
  obtain ⟨t, p, hp, hd⟩ := hbody cdv A outer s H E hr
  refine ⟨t, PSs.nox hp.run, hp.ev F1 H F1 H _ _ { nx := fun _ => k .non, rt := k } _ (Ok.start e r) ⟨fun F' H' ρ σ ok hk => ?_, fun F' H' d v g rr hk => hq d v F' H' hk g rr, fun _ _ _ _ _ z => z.elim, fun _ _ _ _ _ z => z.elim⟩ (hd ds k hR)⟩
  exact hq .non .non F' H' hk ok.toGr (by unfold Rp; rfl)
theorem kept_of {x : Str} {params : Arguments} {body : List Stmt} {scope : Scope} {f : Addr} {fd : FuncData} {N ps : List Str} {k : Nat} {R : Tr} (F : FunD K x x params body scope [] [] f fd) (m : mg x = some (.ref f)) (S : FnScope N ps scope) (len : ∀ ds k, R ds k → ds.length = ps.length)
    (hb : ∀ (kV doc pm : Value) (an : Option Addr) (cdv ct : Value) (us : List Value), us.length = ps.length → bindArgs (PySem.W.fnOf x x params body scope .none kV doc pm an cdv ct) ⟨us, []⟩ = pure (ps.zip us))
    (hbody : ∀ (cdv : Value) (A : Around) (outer : List Env) (s : Shared) (H : Hp) (E : XK), Room k (A.deeper (envOfC x scope s.heap.objs.size f cdv)) →
      ∃ t p, PBd (cxOf CX0 P w K mg base N x scope f cdv A outer s H E).nox body t p ∧ ∀ ds k, R ds k → p { nx := fun _ => k .non, rt := k } (startD N.length ds)) : Kept P w K mg base x ps [] (k + 1) R :=
  ⟨⟨f, fd, [], m, fn_ok F S len hbody, F.kp, F.bindsN hb, .nil⟩, rfl⟩
end
end DL
/-! the text's facts by names -/
namespace G
open PySem PySem.Spec PyProof.Rows L2 DL
structure Txt (K : PySem.W.Frag) (mg : Str → Option Value) : Prop where
  says : He.SaysD fa fn K
  glo : ∀ x, (He.Fa.glo x).ok K = true → mg x = some (.ref (He.ga K x))
  free : ∀ x, (He.Fa.free x).ok K = true → mg x = none
section
variable {K : PySem.W.Frag} {mg : Str → Option Value}
theorem g_is_whole (T : Txt K mg) : mg "is_whole" = some (.ref (He.ga K "is_whole")) := T.glo _ (T.says.fact 0 (f := .glo "is_whole") rfl)
theorem g_divisor (T : Txt K mg) : mg "divisor" = some (.ref (He.ga K "divisor")) := T.glo _ (T.says.fact 1 (f := .glo "divisor") rfl)
theorem g_ratio (T : Txt K mg) : mg "ratio" = some (.ref (He.ga K "ratio")) := T.glo _ (T.says.fact 2 (f := .glo "ratio") rfl)
theorem g_is_ratio (T : Txt K mg) : mg "is_ratio" = some (.ref (He.ga K "is_ratio")) := T.glo _ (T.says.fact 3 (f := .glo "is_ratio") rfl)
theorem g_plus (T : Txt K mg) : mg "plus" = some (.ref (He.ga K "plus")) := T.glo _ (T.says.fact 4 (f := .glo "plus") rfl)
theorem g_minus (T : Txt K mg) : mg "minus" = some (.ref (He.ga K "minus")) := T.glo _ (T.says.fact 5 (f := .glo "minus") rfl)
theorem g_times (T : Txt K mg) : mg "times" = some (.ref (He.ga K "times")) := T.glo _ (T.says.fact 6 (f := .glo "times") rfl)
theorem g_over (T : Txt K mg) : mg "over" = some (.ref (He.ga K "over")) := T.glo _ (T.says.fact 7 (f := .glo "over") rfl)
theorem g_less (T : Txt K mg) : mg "less" = some (.ref (He.ga K "less")) := T.glo _ (T.says.fact 8 (f := .glo "less") rfl)
theorem g_floor_of (T : Txt K mg) : mg "floor_of" = some (.ref (He.ga K "floor_of")) := T.glo _ (T.says.fact 9 (f := .glo "floor_of") rfl)
theorem g_stretched (T : Txt K mg) : mg "stretched" = some (.ref (He.ga K "stretched")) := T.glo _ (T.says.fact 10 (f := .glo "stretched") rfl)
theorem g_curve_of (T : Txt K mg) : mg "curve_of" = some (.ref (He.ga K "curve_of")) := T.glo _ (T.says.fact 11 (f := .glo "curve_of") rfl)
theorem g_worth (T : Txt K mg) : mg "worth" = some (.ref (He.ga K "worth")) := T.glo _ (T.says.fact 12 (f := .glo "worth") rfl)
theorem g_nearest_part (T : Txt K mg) : mg "nearest_part" = some (.ref (He.ga K "nearest_part")) := T.glo _ (T.says.fact 13 (f := .glo "nearest_part") rfl)
theorem g_least_worth (T : Txt K mg) : mg "least_worth" = some (.ref (He.ga K "least_worth")) := T.glo _ (T.says.fact 14 (f := .glo "least_worth") rfl)
theorem g_meeting_part (T : Txt K mg) : mg "meeting_part" = some (.ref (He.ga K "meeting_part")) := T.glo _ (T.says.fact 15 (f := .glo "meeting_part") rfl)
theorem g_crossing (T : Txt K mg) : mg "crossing" = some (.ref (He.ga K "crossing")) := T.glo _ (T.says.fact 16 (f := .glo "crossing") rfl)
theorem g_barred (T : Txt K mg) : mg "barred" = some (.ref (He.ga K "barred")) := T.glo _ (T.says.fact 17 (f := .glo "barred") rfl)
theorem g_greater (T : Txt K mg) : mg "greater" = some (.ref (He.ga K "greater")) := T.glo _ (T.says.fact 18 (f := .glo "greater") rfl)
theorem g_lesser (T : Txt K mg) : mg "lesser" = some (.ref (He.ga K "lesser")) := T.glo _ (T.says.fact 19 (f := .glo "lesser") rfl)
theorem g_look_at_square (T : Txt K mg) : mg "look_at_square" = some (.ref (He.ga K "look_at_square")) := T.glo _ (T.says.fact 20 (f := .glo "look_at_square") rfl)
theorem g_last_of (T : Txt K mg) : mg "last_of" = some (.ref (He.ga K "last_of")) := T.glo _ (T.says.fact 21 (f := .glo "last_of") rfl)
theorem g_is_place (T : Txt K mg) : mg "is_place" = some (.ref (He.ga K "is_place")) := T.glo _ (T.says.fact 22 (f := .glo "is_place") rfl)
theorem g_look_at_place (T : Txt K mg) : mg "look_at_place" = some (.ref (He.ga K "look_at_place")) := T.glo _ (T.says.fact 23 (f := .glo "look_at_place") rfl)
theorem g_ends_of (T : Txt K mg) : mg "ends_of" = some (.ref (He.ga K "ends_of")) := T.glo _ (T.says.fact 24 (f := .glo "ends_of") rfl)
theorem g_point_at (T : Txt K mg) : mg "point_at" = some (.ref (He.ga K "point_at")) := T.glo _ (T.says.fact 25 (f := .glo "point_at") rfl)
theorem g_square_between (T : Txt K mg) : mg "square_between" = some (.ref (He.ga K "square_between")) := T.glo _ (T.says.fact 26 (f := .glo "square_between") rfl)
theorem g_square_of (T : Txt K mg) : mg "square_of" = some (.ref (He.ga K "square_of")) := T.glo _ (T.says.fact 27 (f := .glo "square_of") rfl)
theorem g_foot_on (T : Txt K mg) : mg "foot_on" = some (.ref (He.ga K "foot_on")) := T.glo _ (T.says.fact 28 (f := .glo "foot_on") rfl)
theorem g_least_along (T : Txt K mg) : mg "least_along" = some (.ref (He.ga K "least_along")) := T.glo _ (T.says.fact 29 (f := .glo "least_along") rfl)
theorem g_is_barred (T : Txt K mg) : mg "is_barred" = some (.ref (He.ga K "is_barred")) := T.glo _ (T.says.fact 30 (f := .glo "is_barred") rfl)
theorem g_least_up (T : Txt K mg) : mg "least_up" = some (.ref (He.ga K "least_up")) := T.glo _ (T.says.fact 31 (f := .glo "least_up") rfl)
theorem g_least_right (T : Txt K mg) : mg "least_right" = some (.ref (He.ga K "least_right")) := T.glo _ (T.says.fact 32 (f := .glo "least_right") rfl)
theorem g_barred_spots (T : Txt K mg) : mg "barred_spots" = some (.ref (He.ga K "barred_spots")) := T.glo _ (T.says.fact 33 (f := .glo "barred_spots") rfl)
theorem g_bars_of (T : Txt K mg) : mg "bars_of" = some (.ref (He.ga K "bars_of")) := T.glo _ (T.says.fact 34 (f := .glo "bars_of") rfl)
theorem g_way_back (T : Txt K mg) : mg "way_back" = some (.ref (He.ga K "way_back")) := T.glo _ (T.says.fact 35 (f := .glo "way_back") rfl)
theorem g_fence_freely (T : Txt K mg) : mg "fence_freely" = some (.ref (He.ga K "fence_freely")) := T.glo _ (T.says.fact 36 (f := .glo "fence_freely") rfl)
theorem g_gates_from (T : Txt K mg) : mg "gates_from" = some (.ref (He.ga K "gates_from")) := T.glo _ (T.says.fact 37 (f := .glo "gates_from") rfl)
theorem g_fields_come_to (T : Txt K mg) : mg "fields_come_to" = some (.ref (He.ga K "fields_come_to")) := T.glo _ (T.says.fact 38 (f := .glo "fields_come_to") rfl)
theorem g_walk_freely (T : Txt K mg) : mg "walk_freely" = some (.ref (He.ga K "walk_freely")) := T.glo _ (T.says.fact 39 (f := .glo "walk_freely") rfl)
theorem g_go_free (T : Txt K mg) : mg "go_free" = some (.ref (He.ga K "go_free")) := T.glo _ (T.says.fact 40 (f := .glo "go_free") rfl)
theorem g_lets_by (T : Txt K mg) : mg "lets_by" = some (.ref (He.ga K "lets_by")) := T.glo _ (T.says.fact 41 (f := .glo "lets_by") rfl)
theorem g_parts_of (T : Txt K mg) : mg "parts_of" = some (.ref (He.ga K "parts_of")) := T.glo _ (T.says.fact 42 (f := .glo "parts_of") rfl)
theorem g_place_of (T : Txt K mg) : mg "place_of" = some (.ref (He.ga K "place_of")) := T.glo _ (T.says.fact 43 (f := .glo "place_of") rfl)
theorem g_told_way (T : Txt K mg) : mg "told_way" = some (.ref (He.ga K "told_way")) := T.glo _ (T.says.fact 44 (f := .glo "told_way") rfl)
theorem g_fence_of (T : Txt K mg) : mg "fence_of" = some (.ref (He.ga K "fence_of")) := T.glo _ (T.says.fact 45 (f := .glo "fence_of") rfl)
theorem g_upright_run (T : Txt K mg) : mg "upright_run" = some (.ref (He.ga K "upright_run")) := T.glo _ (T.says.fact 46 (f := .glo "upright_run") rfl)
theorem g_level_run (T : Txt K mg) : mg "level_run" = some (.ref (He.ga K "level_run")) := T.glo _ (T.says.fact 47 (f := .glo "level_run") rfl)
theorem g_way_into (T : Txt K mg) : mg "way_into" = some (.ref (He.ga K "way_into")) := T.glo _ (T.says.fact 48 (f := .glo "way_into") rfl)
theorem g_walk_on (T : Txt K mg) : mg "walk_on" = some (.ref (He.ga K "walk_on")) := T.glo _ (T.says.fact 49 (f := .glo "walk_on") rfl)
theorem g_walk_part (T : Txt K mg) : mg "walk_part" = some (.ref (He.ga K "walk_part")) := T.glo _ (T.says.fact 50 (f := .glo "walk_part") rfl)
theorem g_on_walk (T : Txt K mg) : mg "on_walk" = some (.ref (He.ga K "on_walk")) := T.glo _ (T.says.fact 51 (f := .glo "on_walk") rfl)
theorem g_on_fence (T : Txt K mg) : mg "on_fence" = some (.ref (He.ga K "on_fence")) := T.glo _ (T.says.fact 52 (f := .glo "on_fence") rfl)
theorem g_part_walk (T : Txt K mg) : mg "part_walk" = some (.ref (He.ga K "part_walk")) := T.glo _ (T.says.fact 53 (f := .glo "part_walk") rfl)
theorem g_part_fence (T : Txt K mg) : mg "part_fence" = some (.ref (He.ga K "part_fence")) := T.glo _ (T.says.fact 54 (f := .glo "part_fence") rfl)
theorem g_go_on (T : Txt K mg) : mg "go_on" = some (.ref (He.ga K "go_on")) := T.glo _ (T.says.fact 55 (f := .glo "go_on") rfl)
theorem g_go_part (T : Txt K mg) : mg "go_part" = some (.ref (He.ga K "go_part")) := T.glo _ (T.says.fact 56 (f := .glo "go_part") rfl)
theorem g_squares_of (T : Txt K mg) : mg "squares_of" = some (.ref (He.ga K "squares_of")) := T.glo _ (T.says.fact 57 (f := .glo "squares_of") rfl)
theorem g_reached (T : Txt K mg) : mg "reached" = some (.ref (He.ga K "reached")) := T.glo _ (T.says.fact 58 (f := .glo "reached") rfl)
theorem g_traced (T : Txt K mg) : mg "traced" = some (.ref (He.ga K "traced")) := T.glo _ (T.says.fact 59 (f := .glo "traced") rfl)
theorem g_far_pairs (T : Txt K mg) : mg "far_pairs" = some (.ref (He.ga K "far_pairs")) := T.glo _ (T.says.fact 60 (f := .glo "far_pairs") rfl)
theorem g_may_follow (T : Txt K mg) : mg "may_follow" = some (.ref (He.ga K "may_follow")) := T.glo _ (T.says.fact 61 (f := .glo "may_follow") rfl)
theorem g_fence_among (T : Txt K mg) : mg "fence_among" = some (.ref (He.ga K "fence_among")) := T.glo _ (T.says.fact 62 (f := .glo "fence_among") rfl)
theorem g_hop_walk (T : Txt K mg) : mg "hop_walk" = some (.ref (He.ga K "hop_walk")) := T.glo _ (T.says.fact 63 (f := .glo "hop_walk") rfl)
theorem g_hop_fence (T : Txt K mg) : mg "hop_fence" = some (.ref (He.ga K "hop_fence")) := T.glo _ (T.says.fact 64 (f := .glo "hop_fence") rfl)
theorem g_go_hops (T : Txt K mg) : mg "go_hops" = some (.ref (He.ga K "go_hops")) := T.glo _ (T.says.fact 65 (f := .glo "go_hops") rfl)
theorem g_is_way (T : Txt K mg) : mg "is_way" = some (.ref (He.ga K "is_way")) := T.glo _ (T.says.fact 66 (f := .glo "is_way") rfl)
theorem g_look_at_way (T : Txt K mg) : mg "look_at_way" = some (.ref (He.ga K "look_at_way")) := T.glo _ (T.says.fact 67 (f := .glo "look_at_way") rfl)
theorem g_merged (T : Txt K mg) : mg "merged" = some (.ref (He.ga K "merged")) := T.glo _ (T.says.fact 68 (f := .glo "merged") rfl)
theorem g_rising (T : Txt K mg) : mg "rising" = some (.ref (He.ga K "rising")) := T.glo _ (T.says.fact 69 (f := .glo "rising") rfl)
theorem g_corner_squares (T : Txt K mg) : mg "corner_squares" = some (.ref (He.ga K "corner_squares")) := T.glo _ (T.says.fact 70 (f := .glo "corner_squares") rfl)
theorem g_stretch_squares (T : Txt K mg) : mg "stretch_squares" = some (.ref (He.ga K "stretch_squares")) := T.glo _ (T.says.fact 71 (f := .glo "stretch_squares") rfl)
theorem g_candidates (T : Txt K mg) : mg "candidates" = some (.ref (He.ga K "candidates")) := T.glo _ (T.says.fact 72 (f := .glo "candidates") rfl)
theorem g_go_by (T : Txt K mg) : mg "go_by" = some (.ref (He.ga K "go_by")) := T.glo _ (T.says.fact 73 (f := .glo "go_by") rfl)
theorem g_fence_by (T : Txt K mg) : mg "fence_by" = some (.ref (He.ga K "fence_by")) := T.glo _ (T.says.fact 74 (f := .glo "fence_by") rfl)
theorem g_leash (T : Txt K mg) : mg "leash" = some (.ref (He.ga K "leash")) := T.glo _ (T.says.fact 75 (f := .glo "leash") rfl)
theorem g__law_pool (T : Txt K mg) : mg "_law_pool" = some (.ref (He.ga K "_law_pool")) := T.glo _ (T.says.fact 76 (f := .glo "_law_pool") rfl)
theorem g__law_take (T : Txt K mg) : mg "_law_take" = some (.ref (He.ga K "_law_take")) := T.glo _ (T.says.fact 77 (f := .glo "_law_take") rfl)
theorem g__law_corner (T : Txt K mg) : mg "_law_corner" = some (.ref (He.ga K "_law_corner")) := T.glo _ (T.says.fact 78 (f := .glo "_law_corner") rfl)
theorem g__law_line (T : Txt K mg) : mg "_law_line" = some (.ref (He.ga K "_law_line")) := T.glo _ (T.says.fact 79 (f := .glo "_law_line") rfl)
theorem g__law_second (T : Txt K mg) : mg "_law_second" = some (.ref (He.ga K "_law_second")) := T.glo _ (T.says.fact 80 (f := .glo "_law_second") rfl)
theorem g__law_whole (T : Txt K mg) : mg "_law_whole" = some (.ref (He.ga K "_law_whole")) := T.glo _ (T.says.fact 81 (f := .glo "_law_whole") rfl)
theorem g__law_shared (T : Txt K mg) : mg "_law_shared" = some (.ref (He.ga K "_law_shared")) := T.glo _ (T.says.fact 82 (f := .glo "_law_shared") rfl)
theorem g__law_is_fraction (T : Txt K mg) : mg "_law_is_fraction" = some (.ref (He.ga K "_law_is_fraction")) := T.glo _ (T.says.fact 83 (f := .glo "_law_is_fraction") rfl)
theorem g__law_not_longer (T : Txt K mg) : mg "_law_not_longer" = some (.ref (He.ga K "_law_not_longer")) := T.glo _ (T.says.fact 84 (f := .glo "_law_not_longer") rfl)
theorem g__law_three (T : Txt K mg) : mg "_law_three" = some (.ref (He.ga K "_law_three")) := T.glo _ (T.says.fact 85 (f := .glo "_law_three") rfl)
theorem g_law (T : Txt K mg) : mg "law" = some (.ref (He.ga K "law")) := T.glo _ (T.says.fact 86 (f := .glo "law") rfl)
theorem g_Cells (T : Txt K mg) : mg "Cells" = some (.ref (He.ga K "Cells")) := T.glo _ (T.says.fact 87 (f := .glo "Cells") rfl)
theorem c_Cells (T : Txt K mg) : Cls K (He.ga K "Cells") := He.cls_ok (T.says.fact 88 (f := .cls "Cells") rfl)
theorem r_Cells (T : Txt K mg) : Mk K (He.ga K "Cells") (He.ma K (He.ga K "Cells") "__init__") := He.mkr_ok (T.says.fact 89 (f := .mkr "Cells") rfl)
theorem n_Cells_alone (T : Txt K mg) : NoAttr K (He.ga K "Cells") "alone" := He.noat_ok (T.says.fact 90 (f := .noat "Cells" "alone") rfl)
theorem n_Cells_here (T : Txt K mg) : NoAttr K (He.ga K "Cells") "here" := He.noat_ok (T.says.fact 91 (f := .noat "Cells" "here") rfl)
theorem n_Cells_high (T : Txt K mg) : NoAttr K (He.ga K "Cells") "high" := He.noat_ok (T.says.fact 92 (f := .noat "Cells" "high") rfl)
theorem n_Cells_level (T : Txt K mg) : NoAttr K (He.ga K "Cells") "level" := He.noat_ok (T.says.fact 93 (f := .noat "Cells" "level") rfl)
theorem n_Cells_there (T : Txt K mg) : NoAttr K (He.ga K "Cells") "there" := He.noat_ok (T.says.fact 94 (f := .noat "Cells" "there") rfl)
theorem n_Cells_upright (T : Txt K mg) : NoAttr K (He.ga K "Cells") "upright" := He.noat_ok (T.says.fact 95 (f := .noat "Cells" "upright") rfl)
theorem n_Cells_wide (T : Txt K mg) : NoAttr K (He.ga K "Cells") "wide" := He.noat_ok (T.says.fact 96 (f := .noat "Cells" "wide") rfl)
theorem m_Cells_apart (T : Txt K mg) : Meth K (He.ga K "Cells") "apart" (He.ma K (He.ga K "Cells") "apart") := He.meth_ok (T.says.fact 97 (f := .meth "Cells" "apart") rfl)
theorem m_Cells_pair_told (T : Txt K mg) : Meth K (He.ga K "Cells") "pair_told" (He.ma K (He.ga K "Cells") "pair_told") := He.meth_ok (T.says.fact 98 (f := .meth "Cells" "pair_told") rfl)
theorem m_Cells_row_of (T : Txt K mg) : Meth K (He.ga K "Cells") "row_of" (He.ma K (He.ga K "Cells") "row_of") := He.meth_ok (T.says.fact 99 (f := .meth "Cells" "row_of") rfl)
theorem m_Cells_column_of (T : Txt K mg) : Meth K (He.ga K "Cells") "column_of" (He.ma K (He.ga K "Cells") "column_of") := He.meth_ok (T.says.fact 100 (f := .meth "Cells" "column_of") rfl)
theorem g_Barrier (T : Txt K mg) : mg "Barrier" = some (.ref (He.ga K "Barrier")) := T.glo _ (T.says.fact 101 (f := .glo "Barrier") rfl)
theorem c_Barrier (T : Txt K mg) : Cls K (He.ga K "Barrier") := He.cls_ok (T.says.fact 102 (f := .cls "Barrier") rfl)
theorem r_Barrier (T : Txt K mg) : Mk K (He.ga K "Barrier") (He.ma K (He.ga K "Barrier") "__init__") := He.mkr_ok (T.says.fact 103 (f := .mkr "Barrier") rfl)
theorem n_Barrier_also (T : Txt K mg) : NoAttr K (He.ga K "Barrier") "also" := He.noat_ok (T.says.fact 104 (f := .noat "Barrier" "also") rfl)
theorem n_Barrier_cells (T : Txt K mg) : NoAttr K (He.ga K "Barrier") "cells" := He.noat_ok (T.says.fact 105 (f := .noat "Barrier" "cells") rfl)
theorem n_Barrier_square (T : Txt K mg) : NoAttr K (He.ga K "Barrier") "square" := He.noat_ok (T.says.fact 106 (f := .noat "Barrier" "square") rfl)
theorem m_Barrier_is_far (T : Txt K mg) : Meth K (He.ga K "Barrier") "is_far" (He.ma K (He.ga K "Barrier") "is_far") := He.meth_ok (T.says.fact 107 (f := .meth "Barrier" "is_far") rfl)
theorem m_Barrier_is_pair (T : Txt K mg) : Meth K (He.ga K "Barrier") "is_pair" (He.ma K (He.ga K "Barrier") "is_pair") := He.meth_ok (T.says.fact 108 (f := .meth "Barrier" "is_pair") rfl)
theorem m_Barrier_steps (T : Txt K mg) : Meth K (He.ga K "Barrier") "steps" (He.ma K (He.ga K "Barrier") "steps") := He.meth_ok (T.says.fact 109 (f := .meth "Barrier" "steps") rfl)
theorem m_Barrier_steps_down (T : Txt K mg) : Meth K (He.ga K "Barrier") "steps_down" (He.ma K (He.ga K "Barrier") "steps_down") := He.meth_ok (T.says.fact 110 (f := .meth "Barrier" "steps_down") rfl)
theorem m_Barrier_steps_over (T : Txt K mg) : Meth K (He.ga K "Barrier") "steps_over" (He.ma K (He.ga K "Barrier") "steps_over") := He.meth_ok (T.says.fact 111 (f := .meth "Barrier" "steps_over") rfl)
theorem m_Barrier_steps_back (T : Txt K mg) : Meth K (He.ga K "Barrier") "steps_back" (He.ma K (He.ga K "Barrier") "steps_back") := He.meth_ok (T.says.fact 112 (f := .meth "Barrier" "steps_back") rfl)
theorem g_Reach (T : Txt K mg) : mg "Reach" = some (.ref (He.ga K "Reach")) := T.glo _ (T.says.fact 113 (f := .glo "Reach") rfl)
theorem c_Reach (T : Txt K mg) : Cls K (He.ga K "Reach") := He.cls_ok (T.says.fact 114 (f := .cls "Reach") rfl)
theorem r_Reach (T : Txt K mg) : Mk K (He.ga K "Reach") (He.ma K (He.ga K "Reach") "__init__") := He.mkr_ok (T.says.fact 115 (f := .mkr "Reach") rfl)
theorem n_Reach_begins (T : Txt K mg) : NoAttr K (He.ga K "Reach") "begins" := He.noat_ok (T.says.fact 116 (f := .noat "Reach" "begins") rfl)
theorem n_Reach_cells (T : Txt K mg) : NoAttr K (He.ga K "Reach") "cells" := He.noat_ok (T.says.fact 117 (f := .noat "Reach" "cells") rfl)
theorem n_Reach_level (T : Txt K mg) : NoAttr K (He.ga K "Reach") "level" := He.noat_ok (T.says.fact 118 (f := .noat "Reach" "level") rfl)
theorem n_Reach_square (T : Txt K mg) : NoAttr K (He.ga K "Reach") "square" := He.noat_ok (T.says.fact 119 (f := .noat "Reach" "square") rfl)
theorem n_Reach_started (T : Txt K mg) : NoAttr K (He.ga K "Reach") "started" := He.noat_ok (T.says.fact 120 (f := .noat "Reach" "started") rfl)
theorem n_Reach_upright (T : Txt K mg) : NoAttr K (He.ga K "Reach") "upright" := He.noat_ok (T.says.fact 121 (f := .noat "Reach" "upright") rfl)
theorem m_Reach_starts_in (T : Txt K mg) : Meth K (He.ga K "Reach") "starts_in" (He.ma K (He.ga K "Reach") "starts_in") := He.meth_ok (T.says.fact 122 (f := .meth "Reach" "starts_in") rfl)
theorem m_Reach_go_right (T : Txt K mg) : Meth K (He.ga K "Reach") "go_right" (He.ma K (He.ga K "Reach") "go_right") := He.meth_ok (T.says.fact 123 (f := .meth "Reach" "go_right") rfl)
theorem m_Reach_go_up (T : Txt K mg) : Meth K (He.ga K "Reach") "go_up" (He.ma K (He.ga K "Reach") "go_up") := He.meth_ok (T.says.fact 124 (f := .meth "Reach" "go_up") rfl)
theorem m_Reach_comes_into (T : Txt K mg) : Meth K (He.ga K "Reach") "comes_into" (He.ma K (He.ga K "Reach") "comes_into") := He.meth_ok (T.says.fact 125 (f := .meth "Reach" "comes_into") rfl)
theorem f_isinstance (T : Txt K mg) : mg "isinstance" = none := T.free _ (T.says.fact 126 (f := .free "isinstance") rfl)
theorem f_int (T : Txt K mg) : mg "int" = none := T.free _ (T.says.fact 127 (f := .free "int") rfl)
theorem f_bool (T : Txt K mg) : mg "bool" = none := T.free _ (T.says.fact 128 (f := .free "bool") rfl)
theorem f_abs (T : Txt K mg) : mg "abs" = none := T.free _ (T.says.fact 129 (f := .free "abs") rfl)
theorem f_tuple (T : Txt K mg) : mg "tuple" = none := T.free _ (T.says.fact 130 (f := .free "tuple") rfl)
theorem f_len (T : Txt K mg) : mg "len" = none := T.free _ (T.says.fact 131 (f := .free "len") rfl)
theorem f_range (T : Txt K mg) : mg "range" = none := T.free _ (T.says.fact 132 (f := .free "range") rfl)
theorem f_min (T : Txt K mg) : mg "min" = none := T.free _ (T.says.fact 133 (f := .free "min") rfl)
theorem f_max (T : Txt K mg) : mg "max" = none := T.free _ (T.says.fact 134 (f := .free "max") rfl)
theorem f_list (T : Txt K mg) : mg "list" = none := T.free _ (T.says.fact 135 (f := .free "list") rfl)
theorem f_enumerate (T : Txt K mg) : mg "enumerate" = none := T.free _ (T.says.fact 136 (f := .free "enumerate") rfl)
theorem f_reversed (T : Txt K mg) : mg "reversed" = none := T.free _ (T.says.fact 137 (f := .free "reversed") rfl)
theorem f_all (T : Txt K mg) : mg "all" = none := T.free _ (T.says.fact 138 (f := .free "all") rfl)
theorem f_str (T : Txt K mg) : mg "str" = none := T.free _ (T.says.fact 139 (f := .free "str") rfl)
end
end G
namespace DL
open PySem PySem.Spec PyProof.Rows L2 Evl
theorem ru_I {f : Int → Int} : RuD (rU fun i => .int (f i)) (fun x k => ∃ i, x = .int i ∧ k (.int (f i))) := fun F H x dx k Q e r ⟨i, h, hk⟩ q => by
  subst h
  exact ⟨i, r, q _ _ F H (Gr.refl e) (by unfold Rp; rfl) hk⟩
theorem psd_retN {X : Cx} {pos : Pos} : PSd X (.Return none pos) tRetN (fun D _ => D.rt .non) := ⟨ps_retN, fun F0 H0 F H ρ σ D E ok L h => L.rt F H .non .non ok.toGr (by unfold Rp; rfl) h⟩
section
variable {P : Program} {w : World} {K : PySem.W.Frag} {mg : Str → Option Value} {base : Heap}
theorem keptM_of {x qual : Str} {C : Addr} {params : Arguments} {body : List Stmt} {scope : Scope} {f : Addr} {fd : FuncData} {N ps : List Str} {k : Nat} {R : Tr} (F : FunD K x qual params body scope [] [] f fd) (c : Cls K C) (m : Meth K C x f) (S : FnScope N ps scope) (len : ∀ ds k, R ds k → ds.length = ps.length)
    (hb : ∀ (kV doc pm : Value) (an : Option Addr) (cdv ct : Value) (us : List Value), us.length = ps.length → bindArgs (PySem.W.fnOf x qual params body scope .none kV doc pm an cdv ct) ⟨us, []⟩ = pure (ps.zip us))
    (hbody : ∀ (cdv : Value) (A : Around) (outer : List Env) (s : Shared) (H : Hp) (E : XK), Room k (A.deeper (envOfC qual scope s.heap.objs.size f cdv)) →
      ∃ t p, PBd (cxOf CX0 P w K mg base N qual scope f cdv A outer s H E).nox body t p ∧ ∀ ds k, R ds k → p { nx := fun _ => k .non, rt := k } (startD N.length ds)) : KeptM P w K mg base C x ps (k + 1) R :=
  ⟨c, f, fd, m, fn_ok F S len hbody, F.bindsN hb⟩
end
end DL
/-! An instance while its __init__ runs; making one. -/
namespace DL
open PySem PySem.Spec PyProof.Rows L2 Evl
section
variable {X : Cx} {pos : Pos} {e a b o : Expr} {te ta tb : TE} {p q : ED}
/-- self.f -/
def hFldO (C : Addr) (i : Nat) (f : Str) : ED := fun ρ k => ∃ l ns vs d, ρ[i]? = some (some (.oi l C ns vs)) ∧ lookD ns vs f = some d ∧ k d
theorem pd_fldO {C : Addr} {i : Nat} {f : Str} (hv : PE X o (tVar i)) (cl : Cls X.K C) (na : NoAttr X.K C f) (hb : attributeBase o f X.env (eval o X.env) = eval o X.env := by rfl) : PD X (.Attribute o f pos) (tFld X.K (tVar i) f) (hFldO C i f) :=
  ⟨pe_fld hv hb, fun F0 H0 F H ρ σ k Q ok ⟨l, ns, vs, d, hi, hd, hk⟩ hq => by
    obtain ⟨dx, ws, h1, h2, h3, h4, h5, h6, h7⟩ := ok.slot i _ hi
    obtain ⟨w, w1, w2⟩ := look_get h5 h6 hd
    exact ⟨.ref l, h1, l, C, dx, ws, w, rfl, h4, cl, na, w1, hq d w F H (Gr.refl ok.fh) w2 hk⟩⟩
theorem putF_new {f : Str} {v : V} : ∀ {fs : List (Str × V)}, f ∉ fs.map (·.1) → putF f v fs = fs ++ [(f, v)]
  | [], _ => rfl
  | (g, w) :: fs, h => by
    rw [List.map_cons, List.mem_cons, not_or] at h
    show (if g = f then (g, v) :: fs else (g, w) :: putF f v fs) = _
    rw [if_neg (fun z => h.1 z.symm), putF_new h.2]
    rfl
/-- self.f = e, a new name -/
def sFldO (C : Addr) (i : Nat) (f : Str) (p : ED) : TSD := fun D ρ => ∃ l ns vs, ρ[i]? = some (some (.oi l C ns vs)) ∧ f ∉ ns ∧ ns.length < 400 ∧ p ρ fun d => D.nx (ρ.set i (some (.oi l C (ns ++ [f]) (vs ++ [d]))))
theorem psd_fldO {C : Addr} {i : Nat} {f : Str} {pos' : Pos} (hv : PE X o (tVar i)) (cl : Cls X.K C) (na : NoAttr X.K C f) (h : PD X e te p) (hs : swapsWith e (some (.Attribute o f pos')) pos.line X.env = pure false := by rfl) :
    PSd X (.Assign [.Attribute o f pos'] e pos) (sFld X.K (tVar i) te f) (sFldO C i f p) :=
  ⟨ps_fld hv h.run hs, fun F0 H0 F H ρ σ D E ok L ⟨l, ns, vs, hi, hf, hl, hp⟩ => h.ev F0 H0 F H ρ σ _ _ ok hp fun d v F1 H1 g1 r1 hk => by
    obtain ⟨dx, ws, h1, h2, h3, h4, h5, h6, h7⟩ := (ok.gr g1).slot i _ hi
    have hw : ws.length < 400 := by rw [← List.length_map (f := (·.1)) (as := ws), h5]; exact hl
    refine ⟨.ref l, h1, l, C, dx, ws, rfl, h4, cl, na, by omega, ?_⟩
    rw [putF_new (by rw [h5]; exact hf)]
    refine L.nx _ _ _ _ ((ok.gr g1).change (s := .oi l C ns vs) (t := .oi l C (ns ++ [f]) (vs ++ [d])) hi h1 rfl ⟨dx, _, rfl, h2, h3, upd_same, ?_, ?_, ?_⟩) hk
    · rw [List.map_append, h5]; rfl
    · rw [List.map_append]; exact RpL.append h6 (RpL.one r1)
    · rw [List.length_append]; simp; omega⟩
/-- a slot that no name of the def has -/
theorem ghost {pins : List (Addr × Obj)} {σ : L2.St} {H : Hp} {s : Shared} {g : Nat} {v : V} (I : Inv X pins σ H s) (hg : ∀ x, X.N[g]? = some x → ¬ Vis X.env.scope x) : Inv X pins (σ.set g (some v)) H s :=
  ⟨I.ok, I.os, I.bare, I.base, let ⟨m, hn, hl⟩ := I.loc; ⟨m, hn, fun i x v' e1 e2 e3 => by
    by_cases hi : g = i
    · subst hi; exact absurd e3 (hg x e1)
    · rw [List.getElem?_set_ne hi] at e2
      exact hl i x v' e1 e2 e3⟩, I.cell, I.free, I.freeC, I.pin, I.hok, by rw [List.length_set]; exact I.len⟩
/-- self.f = [], the list told at the slot g, which no name has -/
def tFldL (K : PySem.W.Frag) (i g : Nat) (f : Str) : TS := fun D σ H => ∀ l, H l = none → ∃ a C dx fs, σ[i]? = some (some (.ref a)) ∧ (upd H l (.lst [])) a = some (.ins C dx fs) ∧ Cls K C ∧ NoAttr K C f ∧ fs.length < 1000 ∧
  D.nx (σ.set g (some (.ref l))) (upd (upd H l (.lst [])) a (.ins C dx (putF f (.ref l) fs)))
def sFldL (C : Addr) (i g : Nat) (f : Str) : TSD := fun D ρ => ∃ a ns vs, ρ[i]? = some (some (.oi a C ns vs)) ∧ f ∉ ns ∧ ns.length < 400 ∧ i ≠ g ∧ ∀ l, D.nx ((ρ.set i (some (.oi a C (ns ++ [f]) (vs ++ [.at_ l])))).set g (some (.la l [])))
theorem psd_fldL {C : Addr} {i g : Nat} {f : Str} {pos' p2 : Pos} (hv : PE X o (tVar i)) (cl : Cls X.K C) (na : NoAttr X.K C f) (hg : ∀ x, X.N[g]? = some x → ¬ Vis X.env.scope x) (hs : swapsWith (.List [] p2) (some (.Attribute o f pos')) pos.line X.env = pure false := by rfl) :
    PSd X (.Assign [.Attribute o f pos'] (.List [] p2) pos) (tFldL X.K i g f) (sFldL C i g f) := by
  refine ⟨⟨fun pins s σ H D I h => ?_⟩, fun F0 H0 F H ρ σ D E ok L ⟨a, ns, vs, hi, hf, hl, hne, hp⟩ l hl0 => ?_⟩
  · have run := (ps_fld (X := X) (pos := pos) (f := f) (pos' := pos') hv (pe_lst (pos := p2) pa_nil) hs).run pins s σ H { D with nx := fun σ' H' => ∃ l, σ' = σ ∧ D.nx (σ.set g (some (.ref l))) H' } I
      ⟨Nat.zero_le _, fun l hl0 => by
        obtain ⟨a, C, dx, fs, h1, h2, h3, h4, h5, h6⟩ := h l hl0
        exact ⟨.ref a, h1, a, C, dx, fs, rfl, h2, h3, h4, h5, l, rfl, h6⟩⟩
    refine thn run fun fl s' q => ?_
    cases fl with
    | next =>
      obtain ⟨σ', H', I', l, e, q⟩ := q
      subst e
      exact ⟨_, H', ghost I' hg, q⟩
    | ret v => exact q
    | brk => exact q
    | cont => exact q
  · have g1 : Gr F H F (upd H l (.lst [])) := Gr.made ok.fh hl0
    obtain ⟨dx, ws, h1, h2, h3, h4, h5, h6, h7⟩ := (ok.gr g1).slot i _ hi
    have hw : ws.length < 400 := by rw [← List.length_map (f := (·.1)) (as := ws), h5]; exact hl
    refine ⟨a, C, dx, ws, h1, h4, cl, na, by omega, ?_⟩
    rw [putF_new (by rw [h5]; exact hf)]
    have ok1 : Ok F0 H0 F _ (ρ.set i (some (.oi a C (ns ++ [f]) (vs ++ [.at_ l])))) σ := (ok.gr g1).change (o := .ins C dx (ws ++ [(f, V.ref l)])) (s := .oi a C ns vs) (t := .oi a C (ns ++ [f]) (vs ++ [.at_ l])) hi h1 rfl ⟨dx, _, rfl, h2, h3, upd_same, by rw [List.map_append, h5]; rfl, by rw [List.map_append]; exact RpL.append h6 (RpL.one (by unfold Rp; rfl)), by rw [List.length_append]; simp; omega⟩
    -- the new list goes to g: the slots that own anything know it not
    have hal : a ≠ l := by
      intro z
      subst z
      rw [upd_same] at h4
      cases h4
    have hFl : F l = none := fresh_back ok.fh hl0
    have hHl : (upd (upd H l (.lst [])) a (.ins C dx (ws ++ [(f, V.ref l)]))) l = some (.lst []) := by rw [upd_ne (Ne.symm hal), upd_same]
    refine L.nx _ _ _ _ (Ok.setFar ok1 (s := .la l []) (a := l) ?_ ⟨[], rfl, hFl, fresh_back ok.eH hl0, hHl, rfl⟩ g) (hp l)
    intro j t hj ho hx
    by_cases hij : i = j
    · subst hij
      rw [h1] at hx
      cases hx
      exact hal rfl
    · rw [List.getElem?_set_ne hij] at hj
      obtain ⟨c, u2, q1, _, _, q4, _⟩ := (ok.slot j t hj).addr ho
      rw [q1] at hx
      cases hx
      rw [hl0] at q4
      cases q4
/-- self.f.append(e) -/
def sAppF (C : Addr) (i g : Nat) (f : Str) (p : ED) : TSD := fun D ρ => ∃ a ns vs l xs, ρ[i]? = some (some (.oi a C ns vs)) ∧ lookD ns vs f = some (.at_ l) ∧ ρ[g]? = some (some (.la l xs)) ∧ xs.length < 100000 ∧ p ρ fun d => D.nx (ρ.set g (some (.la l (xs ++ [d]))))
theorem psd_appF {C : Addr} {i g : Nat} {f : Str} {apos pos2 p3 : Pos} (hv : PE X o (tVar i)) (cl : Cls X.K C) (na : NoAttr X.K C f) (h : PD X e te p)
    (hrun : PE X (.Call (.Attribute (.Attribute o f p3) "append" apos) [e] [] pos2) (tBM X.K "list" rAppend (tFld X.K (tVar i) f) (tCons te tNil)))
    (hs : swapsWith (.Call (.Attribute (.Attribute o f p3) "append" apos) [e] [] pos2) none pos.line X.env = pure false := by rfl) : PSd X (.Expr (.Call (.Attribute (.Attribute o f p3) "append" apos) [e] [] pos2) pos) (tDrop (tBM X.K "list" rAppend (tFld X.K (tVar i) f) (tCons te tNil))) (sAppF C i g f p) :=
  ⟨ps_expr hrun hs, fun F0 H0 F H ρ σ D E ok L ⟨a, ns, vs, l, xs, hi, hf, hgs, hl, hp⟩ => by
    obtain ⟨dx, ws, h1, h2, h3, h4, h5, h6, h7⟩ := ok.slot i _ hi
    obtain ⟨us, k1, k2, k3, k4, k5⟩ := ok.slot g _ hgs
    obtain ⟨w, w1, w2⟩ := look_get h5 h6 hf
    rw [show w = V.ref l from w2] at w1
    refine ⟨.ref a, h1, a, C, dx, ws, _, rfl, h4, cl, na, w1, Or.inl ⟨rfl, us, SqL.of k4⟩, h.ev F0 H0 F H ρ σ _ _ ok hp fun d v F' H' gr r hk => ?_⟩
    obtain ⟨m1, m2⟩ := gr.out k2 k4
    refine ⟨l, us, v, rfl, rfl, m2, by rw [← k5.length]; exact small_lt hl, ?_⟩
    exact L.nx _ _ _ _ ((ok.gr gr).change (s := .la l xs) (t := .la l (xs ++ [d])) hgs k1 rfl ⟨_, rfl, m1, k3, upd_same, RpL.append (RpL.mono gr.eF xs k5) (RpL.one r)⟩) hk⟩
end
end DL
/-! What is owned is shared at the end; a class's call. -/
namespace DL
open PySem PySem.Spec PyProof.Rows L2 Evl
def OwnedAt (ρ : EnvD) (σ : L2.St) (b : Addr) : Prop := ∃ (g : Nat) (s : Slot), ρ[g]? = some (some s) ∧ s.own = true ∧ σ[g]? = some (some (.ref b))
open Classical in
/-- all that is owned, shared -/
noncomputable def closeF (F H : Hp) (ρ : EnvD) (σ : L2.St) : Hp := fun b => if OwnedAt ρ σ b then H b else F b
section
variable {F0 H0 F H : Hp} {ρ : EnvD} {σ : L2.St}
theorem close_at {b : Addr} (h : OwnedAt ρ σ b) : closeF F H ρ σ b = H b := by unfold closeF; rw [if_pos h]
theorem close_not {b : Addr} (h : ¬ OwnedAt ρ σ b) : closeF F H ρ σ b = F b := by unfold closeF; rw [if_neg h]
theorem Ok.owned (ok : Ok F0 H0 F H ρ σ) {b : Addr} (h : OwnedAt ρ σ b) : F b = none ∧ H0 b = none := by
  obtain ⟨g, s, h1, h2, h3⟩ := h
  obtain ⟨a, u, q1, q2, q3, q4, _⟩ := (ok.slot g s h1).addr h2
  rw [h3] at q1
  cases q1
  exact ⟨q2, q3⟩
theorem Ok.closeEx (ok : Ok F0 H0 F H ρ σ) : Ex F (closeF F H ρ σ) := fun b o h => by
  have : ¬ OwnedAt ρ σ b := fun z => by rw [(ok.owned z).1] at h; cases h
  rw [close_not this]
  exact h
theorem Ok.close (ok : Ok F0 H0 F H ρ σ) : Gr F0 H0 (closeF F H ρ σ) H := by
  refine ⟨ok.eF.trans ok.closeEx, ok.eH, fun b o h => ?_, fun b o h => ?_⟩
  · by_cases z : OwnedAt ρ σ b
    · rw [close_at z] at h; exact h
    · rw [close_not z] at h; exact ok.fh b o h
  · by_cases z : OwnedAt ρ σ b
    · exact .inr (.inl (ok.owned z).2)
    · rw [close_not z] at h; exact ok.new b o h
/-- the fields, with the lists that they hold told -/
def Closes (ρ : EnvD) : List Dat → List Dat → Prop
  | [], [] => True
  | v :: vs, w :: ws => (v = w ∨ ∃ (l : Addr) (xs : List Dat) (g : Nat), v = .at_ l ∧ w = .lst xs ∧ ρ[g]? = some (some (Slot.la l xs))) ∧ Closes ρ vs ws
  | _, _ => False
theorem closes_rp (ok : Ok F0 H0 F H ρ σ) : ∀ {vs ws : List Dat} {us : List V}, Closes ρ vs ws → RpL F vs us → RpL (closeF F H ρ σ) ws us
  | [], [], _, _, h => h
  | [], _ :: _, _, h, _ => h.elim
  | _ :: _, [], _, h, _ => h.elim
  | v :: vs, w :: ws, _, ⟨h1, h2⟩, ⟨u, r, e, r1, r2⟩ => by
    subst e
    refine ⟨u, r, rfl, ?_, closes_rp ok h2 r2⟩
    rcases h1 with h1 | ⟨l, xs, g, e1, e2, e3⟩
    · subst h1; exact Rp.mono ok.closeEx _ r1
    · subst e1 e2
      obtain ⟨ys, q1, q2, q3, q4, q5⟩ := ok.slot g _ e3
      refine ⟨l, ys, r1, ?_, RpL.mono ok.closeEx xs q5⟩
      rw [close_at ⟨g, _, e3, rfl, q1⟩]
      exact q4
end
/-- the promise of an __init__, the instance's fields told -/
def PrI (C : Addr) (R : Tr) : Sp := fun vs H Q _ => ∃ (F : Hp) (ds : List Dat) (k : Dat → Prop) (x dx : Addr) (rest : List V), vs = .ref x :: rest ∧ H x = some (.ins C dx []) ∧ Ex F H ∧ F x = none ∧ RpL F ds rest ∧ R ds k ∧
  ∀ d F' H', k d → Gr F (fun b => if b = x then none else H b) F' H' → Rp F' d (.ref x) → Q .non H'
structure KeptC (P : Program) (w : World) (K : PySem.W.Frag) (mg : Str → Option Value) (base : Heap) (x : Str) (C : Addr) (ps : List Str) (k : Nat) (R : Tr) : Prop where
  mg_ : mg x = some (.ref C)
  ex : ∃ f fd, Mk K C f ∧ FnOk P w K mg base CX0 k f fd ps (PrI C R) ∧ Binds K fd ps []
section
variable {X : Cx} {pos : Pos} {e : Expr}
def hMake (R : Tr) (r : EA) : ED := fun ρ k => r ρ fun ds => R ds k
theorem pd_make {x : Str} {C : Addr} {p2 : Pos} {ps : List Str} {k : Nat} {R : Tr} {es : List Expr} {tA : TA} {r : EA} (G : KeptC X.prog X.w X.K X.mg X.base x C ps k R) (hr : Room (k + 1) X.A) (hg : Gl X x) (ha : PDA X (e :: es) tA r)
    (hdb : (x == ("__debug__" : Str)) = false := by decide) (he : starEach (e :: es) X.env = (false, eval e X.env) :: starEach es X.env := by rfl) (hpl : (backTo pos (starEach es X.env)).any (·.1) = false := by rfl) :
    PD X (.Call (.Name x p2) (e :: es) [] pos) (tMake C (PrI C R) [] E0 tA) (hMake R r) := by
  obtain ⟨hm, f, fd, h1, h2, h3⟩ := G
  refine ⟨pe_make h1 h2 hr hg hm h3 .nil pass0 ha.run hdb he hpl, fun F0 H0 F H ρ σ kk Q ok hp hq => ha.ev F0 H0 F H ρ σ _ _ ok hp fun ds vs F1 H1 g1 r1 hR x dx hx hdx hne => ?_⟩
  have nb : ∀ b o, H1 b = some o → b ≠ x ∧ b ≠ dx := fun b o q => ⟨ne_of_none q hx, ne_of_none q hdx⟩
  rw [List.append_nil]
  refine ⟨F1, ds, kk, x, dx, vs, rfl, upd_same, fun b o q => ?_, fresh_back g1.fh hx, r1, hR, fun d F' H' hk g rd => ⟨rfl, ?_⟩⟩
  · obtain ⟨n1, n2⟩ := nb b o (g1.fh b o q)
    rw [upd_ne n1, upd_ne n2]
    exact g1.fh b o q
  · refine hq d _ F' H' (g1.trans ⟨g.eF, fun b o q => ?_, g.fh, fun b o q => ?_⟩) rd hk
    · obtain ⟨n1, n2⟩ := nb b o q
      refine g.eH b o ?_
      rw [if_neg n1, upd_ne n1, upd_ne n2]
      exact q
    · rcases g.new b o q with z | z | z
      · exact .inl z
      · refine .inr (.inl ?_)
        by_cases e1 : b = x
        · rw [e1]; exact hx
        · by_cases e2 : b = dx
          · rw [e2]; exact hdx
          · rw [if_neg e1, upd_ne e1, upd_ne e2] at z
            exact z
      · exact .inr (.inr z)
end
section
variable {P : Program} {w : World} {K : PySem.W.Frag} {mg : Str → Option Value} {base : Heap}
def startI (x C : Addr) (n : Nat) (ds : List Dat) : EnvD := some (.oi x C [] []) :: startD (n - 1) ds
theorem init_ok {x qual : Str} {C : Addr} {params : Arguments} {body : List Stmt} {scope : Scope} {f : Addr} {fd : FuncData} {N ps : List Str} {k : Nat} {R : Tr} (F : FunD K x qual params body scope [] [] f fd) (S : FnScope N ps scope) (len : ∀ ds k, R ds k → ds.length + 1 = ps.length) (hN : ∀ ds k, R ds k → ds.length + 1 ≤ N.length)
    (hbody : ∀ (cdv : Value) (A : Around) (outer : List Env) (s : Shared) (H : Hp) (E : XK), Room k (A.deeper (envOfC qual scope s.heap.objs.size f cdv)) →
      ∃ t p, PBd (cxOf CX0 P w K mg base N qual scope f cdv A outer s H E).nox body t p ∧ ∀ x ds kk, R ds kk → p { nx := fun ρ => ∃ ns vs ws, ρ[0]? = some (some (.oi x C ns vs)) ∧ Closes ρ vs ws ∧ kk (.obj C ns ws), rt := fun _ => False } (startI x C N.length ds)) : FnOk P w K mg base CX0 (k + 1) f fd ps (PrI C R) := by
  refine F.ok S (fun vs H Q E ⟨F1, ds, kk, x, dx, rest, e, _, _, _, r, hR, _⟩ => by rw [e, List.length_cons, ← r.length]; exact len ds kk hR) fun cdv A outer s H vs Q E hr ⟨F1, ds, kk, x, dx, rest, e, hx, hF, hFx, r, hR, hq⟩ => ?_
  subst e
  obtain ⟨t, p, hp, hd⟩ := hbody cdv A outer s H E hr
  have hn := hN ds kk hR
  have nx : ∀ b o, F1 b = some o → b ≠ x := fun b o q z => by rw [z, hFx] at q; cases q
  have okR : ∀ (N' : List Str), Ok F1 (fun b => if b = x then none else H b) F1 H (startD N'.length ds) (start N' rest) := fun N' => by
    have o1 := Ok.start (N := N') hF r
    refine ⟨o1.len, fun b o q => ?_, Ex.refl F1, hF, fun _ _ q => .inl q, fun i s hs => ?_, fun i j s t' h1 h2 o1' o2 e => ?_⟩
    · by_cases z : b = x
      · rw [if_pos z] at q; cases q
      · rw [if_neg z] at q; exact q
    · have own0 := o1.slot i s hs
      cases s with
      | sh d => exact own0
      | ol xs => obtain ⟨a, _, _, q2, q3, q4, _⟩ := own0; rw [q3] at q4; cases q4
      | od ks vs => obtain ⟨a, _, _, q2, q3, q4, _⟩ := own0; rw [q3] at q4; cases q4
      | oi a C ns vs => obtain ⟨dx, _, _, q2, q3, q4, _⟩ := own0; rw [q3] at q4; cases q4
      | la a xs => obtain ⟨_, _, q2, q3, q4, _⟩ := own0; rw [q3] at q4; cases q4
    · exact o1.inj i j s t' h1 h2 o1' o2 e
  have hst : start N (.ref x :: rest) = some (.ref x) :: start (N.drop 1) rest := by
    unfold L2.start
    simp only [List.map_cons, List.length_cons, List.cons_append, List.length_drop]
    congr 3
    omega
  have okS : Ok F1 (fun b => if b = x then none else H b) F1 H (startI x C N.length ds) (start N (.ref x :: rest)) := by
    have o1 := okR (N.drop 1)
    rw [hst]
    unfold startI
    rw [List.length_drop] at o1
    have noOwn : ∀ (i : Nat) (s : Slot), (startD (N.length - 1) ds)[i]? = some (some s) → s.own = false := fun i s hs => by
      unfold startD at hs
      by_cases hi : i < ds.length
      · rw [List.getElem?_append_left (by simpa using hi), List.getElem?_map] at hs
        cases e : ds[i]? with
        | none => rw [e] at hs; cases hs
        | some d => rw [e] at hs; cases hs; rfl
      · rw [List.getElem?_append_right (by simpa using hi), List.getElem?_replicate] at hs
        split at hs <;> cases hs
    refine ⟨by simpa using o1.len, o1.eH, o1.eF, o1.fh, o1.new, fun i s hs => ?_, fun i j s t' h1 h2 o1' o2 e => ?_⟩
    · cases i with
      | zero =>
        simp only [List.getElem?_cons_zero, Option.some.injEq] at hs
        subst hs
        exact ⟨dx, [], rfl, hFx, by simp, hx, rfl, rfl, by simp⟩
      | succ i =>
        rw [List.getElem?_cons_succ] at hs ⊢
        exact o1.slot i s hs
    · cases i with
      | zero =>
        cases j with
        | zero => rfl
        | succ j =>
          rw [List.getElem?_cons_succ] at h2
          rw [noOwn j t' h2] at o2
          cases o2
      | succ i =>
        rw [List.getElem?_cons_succ] at h1
        rw [noOwn i s h1] at o1'
        cases o1'
  refine ⟨t, PSs.nox hp.run, hp.ev F1 (fun b => if b = x then none else H b) F1 H _ _ { nx := fun ρ => ∃ ns vs ws, ρ[0]? = some (some (.oi x C ns vs)) ∧ Closes ρ vs ws ∧ kk (.obj C ns ws), rt := fun _ => False } _ okS ⟨fun F' H' ρ σ ok hk => ?_, fun F' H' d v g rr hk => False.elim hk, fun _ _ _ _ _ z => False.elim z, fun _ _ _ _ _ z => False.elim z⟩ (hd x ds kk hR)⟩
  obtain ⟨ns, vs, ws, h1, h2, h3⟩ := hk
  obtain ⟨dx', us, q1, q2, q3, q4, q5, q6, q7⟩ := ok.slot 0 _ h1
  refine hq _ _ H' h3 ok.close ⟨x, dx', us, rfl, ?_, q5, closes_rp ok h2 q6⟩
  rw [close_at ⟨0, _, h1, rfl, q1⟩]
  exact q4
end
section
variable {X : Cx} {pos : Pos} {o a b : Expr} {te ta tb : TE} {p q : ED} {K : PySem.W.Frag}
theorem pd_fldK {C : Addr} {f : Str} (hK : X.K = K) (ho : PD X o te p) (cl : Cls K C) (na : NoAttr K C f) (hb : attributeBase o f X.env (eval o X.env) = eval o X.env := by rfl) : PD X (.Attribute o f pos) (tFld K te f) (hFld C f p) := by
  subst hK
  exact pd_fld ho cl na hb
theorem pd_ixK (hK : X.K = K) (ha : PD X a ta p) (hb : PD X b tb q) (hs : PlainIx b := by exact fun _ _ => rfl) : PD X (.Subscript a b pos) (tOp (rIx K) ta tb) (hOp zIx p q) := by
  subst hK
  exact pd_ix ix_seq r2_ix ha hb hs
end
end DL
/-! Sizes of whole numbers and fractions. -/
namespace M
def Sz (n : Nat) (i : Int) : Prop := i.natAbs < 2 ^ n
def Fz (n : Nat) (q : Rat) : Prop := Sz n q.num ∧ Sz n (q.den : Int)
theorem pow_mono {n m : Nat} (h : n ≤ m) : 2 ^ n ≤ 2 ^ m := Nat.pow_le_pow_right (by decide) h
theorem Sz.mono {n m : Nat} {i : Int} (h : Sz n i) (le : n ≤ m) : Sz m i := Nat.lt_of_lt_of_le h (pow_mono le)
theorem Fz.mono {n m : Nat} {q : Rat} (h : Fz n q) (le : n ≤ m) : Fz m q := ⟨h.1.mono le, h.2.mono le⟩
theorem Sz.add {n : Nat} {i j : Int} (h : Sz n i) (g : Sz n j) : Sz (n + 1) (i + j) := by
  unfold Sz at *
  have := Int.natAbs_add_le i j
  rw [Nat.pow_succ]
  omega
theorem Sz.sub {n : Nat} {i j : Int} (h : Sz n i) (g : Sz n j) : Sz (n + 1) (i - j) := by
  unfold Sz at *
  have := Int.natAbs_sub_le i j
  rw [Nat.pow_succ]
  omega
theorem Sz.neg {n : Nat} {i : Int} (h : Sz n i) : Sz n (-i) := by
  unfold Sz at *
  rw [Int.natAbs_neg]
  exact h
theorem Sz.mul {n m : Nat} {i j : Int} (h : Sz n i) (g : Sz m j) : Sz (n + m) (i * j) := by
  unfold Sz at *
  rw [Int.natAbs_mul, Nat.pow_add]
  exact Nat.mul_lt_mul'' h g
theorem Sz.abs {n : Nat} {i : Int} (h : Sz n i) : Sz n (i.natAbs : Int) := by
  unfold Sz at *
  simpa using h
theorem Sz.log {n : Nat} {i : Int} (h : Sz n i) (h0 : 0 < n) : i.natAbs.log2 < n := by
  unfold Sz at h
  by_cases e : i.natAbs = 0
  · rw [e]; simpa using h0
  · exact (Nat.log2_lt e).mpr h
theorem Sz.of_le {n : Nat} {i j : Int} (h : Sz n j) (le : i.natAbs ≤ j.natAbs) : Sz n i := Nat.lt_of_le_of_lt le h
/-- a written number -/
theorem Sz.lit {n : Nat} {i : Int} (h : i.natAbs < 2 ^ 200) (hn : 200 ≤ n) : Sz n i := Nat.lt_of_lt_of_le h (pow_mono hn)
theorem Fz.divInt {n : Nat} {a b : Int} (ha : Sz n a) (hb : Sz n b) (h0 : b ≠ 0) (h1 : 0 < n) : Fz n (Rat.divInt a b) := by
  refine ⟨?_, ?_⟩
  · rw [Rat.num_divInt]
    refine ha.of_le ?_
    have e : (b.sign * a).natAbs = a.natAbs := by
      rw [Int.natAbs_mul, Int.natAbs_sign_of_ne_zero h0, Nat.one_mul]
    rw [Int.natAbs_ediv_of_dvd]
    · rw [e]
      exact Nat.div_le_self _ _
    · exact Int.dvd_trans (Int.gcd_dvd_right ..) (Int.dvd_mul_left _ _)
  · rw [Rat.den_divInt, if_neg h0]
    refine hb.of_le ?_
    simp only [Int.natAbs_natCast]
    exact Nat.div_le_self _ _
theorem Fz.ofInt {n : Nat} {a : Int} (ha : Sz n a) (h1 : 0 < n) : Fz n (a : Rat) := by
  refine ⟨ha, ?_⟩
  unfold Sz
  rw [Rat.den_intCast]
  have : 2 ^ 1 ≤ 2 ^ n := pow_mono h1
  simp
  omega
theorem den_pos (q : Rat) : 0 < (q.den : Int) := by have := q.den_pos; omega
theorem num_div_den (q : Rat) : (q.num : Rat) / (q.den : Rat) = q := by
  have := Rat.num_divInt_den q
  rw [Rat.divInt_eq_div] at this
  exact this
end M
/-! Curves: the squares along a stretch. -/
namespace M
abbrev Pt : Type := Int × Int
abbrev Cv : Type := Int × Int × Int
def crv (c b e : Pt) : Cv :=
  ((e.1 - b.1) * (e.1 - b.1) + (e.2 - b.2) * (e.2 - b.2), (b.1 - c.1) * (e.1 - b.1) + (b.2 - c.2) * (e.2 - b.2), (b.1 - c.1) * (b.1 - c.1) + (b.2 - c.2) * (b.2 - c.2))
def wv (c : Cv) (t : Rat) : Rat := (c.1 : Rat) * t * t + 2 * (c.2.1 : Rat) * t + (c.2.2 : Rat)
def near (c : Cv) : Rat := if c.1 = 0 ∨ 0 ≤ c.2.1 then 0 else if c.1 ≤ -c.2.1 then 1 else Rat.divInt (-c.2.1) c.1
def lw (c : Cv) : Rat := wv c (near c)
def meet (f l : Cv) : Option Rat := if 2 * (f.2.1 - l.2.1) = 0 then none else some (Rat.divInt (l.2.2 - f.2.2) (2 * (f.2.1 - l.2.1)))
def crs (f l : Cv) : Option Rat := if near l < near f then (match meet f l with
  | none => none
  | some m => if m < near l ∨ near f < m then none else some m) else none
def rmax (a b : Rat) : Rat := if a < b then b else a
def rmin (a b : Rat) : Rat := if b < a then b else a
def bar (f l : Cv) : Rat × Rat := if near l < near f then (match crs f l with
    | some m => (m, wv f m)
    | none => if wv l (near f) < wv f (near f) then (near f, wv f (near f)) else (near l, wv l (near l)))
  else (near f, rmax (wv f (near f)) (wv l (near l)))
def Pz (p : Pt) : Prop := Sz 60 p.1 ∧ Sz 60 p.2
def Cz (c : Cv) : Prop := Sz 130 c.1 ∧ Sz 130 c.2.1 ∧ Sz 130 c.2.2
theorem crv_sz {c b e : Pt} (hc : Pz c) (hb : Pz b) (he : Pz e) : Cz (crv c b e) :=
  ⟨(((he.1.sub hb.1).mul (he.1.sub hb.1)).add ((he.2.sub hb.2).mul (he.2.sub hb.2))).mono (by decide),
   (((hb.1.sub hc.1).mul (he.1.sub hb.1)).add ((hb.2.sub hc.2).mul (he.2.sub hb.2))).mono (by decide),
   (((hb.1.sub hc.1).mul (hb.1.sub hc.1)).add ((hb.2.sub hc.2).mul (hb.2.sub hc.2))).mono (by decide)⟩
theorem sz01 {n : Nat} : Sz n 0 := by
  unfold Sz
  exact Nat.two_pow_pos n
theorem sz1 {n : Nat} (h : 0 < n) : Sz n 1 := by
  unfold Sz
  have : 2 ^ 1 ≤ 2 ^ n := pow_mono h
  simp
  omega
theorem sz2 {n : Nat} (h : 1 < n) : Sz n 2 := by
  unfold Sz
  have : 2 ^ 2 ≤ 2 ^ n := pow_mono h
  simp
  omega
theorem fz0 {n : Nat} (h : 0 < n) : Fz n 0 := ⟨sz01, sz1 h⟩
theorem fz1 {n : Nat} (h : 0 < n) : Fz n 1 := ⟨sz1 h, sz1 h⟩
theorem near_sz {c : Cv} (h : Cz c) : Fz 140 (near c) := by
  unfold near
  split
  · exact fz0 (by decide)
  · split
    · exact fz1 (by decide)
    · rename_i h1 h2
      exact Fz.divInt (h.2.1.neg.mono (by decide)) (h.1.mono (by decide)) (fun z => h1 (.inl z)) (by decide)
theorem meet_top {f l : Cv} (hf : Cz f) (hl : Cz l) : Sz 140 (l.2.2 - f.2.2) := (hl.2.2.sub hf.2.2).mono (by decide)
theorem meet_bot {f l : Cv} (hf : Cz f) (hl : Cz l) : Sz 140 (2 * (f.2.1 - l.2.1)) := ((sz2 (n := 2) (by decide)).mul (hf.2.1.sub hl.2.1)).mono (by decide)
theorem meet_sz {f l : Cv} (hf : Cz f) (hl : Cz l) {m : Rat} (h : meet f l = some m) : Fz 140 m := by
  unfold meet at h
  split at h
  · cases h
  · rename_i h1
    cases h
    exact Fz.divInt (meet_top hf hl) (meet_bot hf hl) h1 (by decide)
theorem crs_sz {f l : Cv} (hf : Cz f) (hl : Cz l) {m : Rat} (h : crs f l = some m) : Fz 140 m := by
  unfold crs at h
  split at h
  · split at h
    · cases h
    · rename_i h1
      split at h
      · cases h
      · cases h
        exact meet_sz hf hl h1
  · cases h
theorem wv_top {c : Cv} {t : Rat} (h : Cz c) (ht : Fz 140 t) : Sz 420 (c.1 * t.num * t.num + 2 * c.2.1 * t.num * t.den + c.2.2 * t.den * t.den) :=
  ((((h.1.mul ht.1).mul ht.1).mono (m := 415) (by decide)).add (((((sz2 (n := 2) (by decide)).mul h.2.1).mul ht.1).mul ht.2).mono (by decide)) |>.add ((((h.2.2.mul ht.2).mul ht.2)).mono (by decide))).mono (by decide)
theorem wv_eq (c : Cv) (t : Rat) : Rat.divInt (c.1 * t.num * t.num + 2 * c.2.1 * t.num * t.den + c.2.2 * t.den * t.den) ((t.den : Int) * t.den) = wv c t := by
  have hm : ((t.den : Nat) : Rat) ≠ 0 := by
    intro z
    have := Rat.natCast_eq_zero_iff.mp z
    exact t.den_nz this
  have hN : (t.num : Rat) = t * (t.den : Rat) := by
    have e := num_div_den t
    have e2 := Rat.div_mul_cancel (a := (t.num : Rat)) hm
    rw [e] at e2
    exact e2.symm
  rw [Rat.divInt_eq_div]
  simp only [Rat.intCast_add, Rat.intCast_mul, Rat.intCast_natCast, Rat.intCast_ofNat]
  rw [hN]
  have e3 : (c.1 : Rat) * (t * (t.den : Rat)) * (t * (t.den : Rat)) + 2 * (c.2.1 : Rat) * (t * (t.den : Rat)) * (t.den : Rat) + (c.2.2 : Rat) * (t.den : Rat) * (t.den : Rat) = wv c t * ((t.den : Rat) * (t.den : Rat)) := by
    unfold wv
    grind
  rw [e3, Rat.mul_div_cancel]
  intro z
  rcases Rat.mul_eq_zero.mp z with z | z <;> exact hm z
theorem wv_sz {c : Cv} {t : Rat} (h : Cz c) (ht : Fz 140 t) : Fz 420 (wv c t) := by
  rw [← wv_eq]
  refine Fz.divInt (wv_top h ht) ((ht.2.mul ht.2).mono (by decide)) (Int.mul_ne_zero (Int.ne_of_gt (den_pos t)) (Int.ne_of_gt (den_pos t))) (by decide)
theorem lw_sz {c : Cv} (h : Cz c) : Fz 420 (lw c) := wv_sz h (near_sz h)
theorem rmax_sz {n : Nat} {a b : Rat} (ha : Fz n a) (hb : Fz n b) : Fz n (rmax a b) := by
  unfold rmax
  split <;> assumption
theorem rmin_sz {n : Nat} {a b : Rat} (ha : Fz n a) (hb : Fz n b) : Fz n (rmin a b) := by
  unfold rmin
  split <;> assumption
theorem bar_sz {f l : Cv} (hf : Cz f) (hl : Cz l) : Fz 140 (bar f l).1 ∧ Fz 420 (bar f l).2 := by
  unfold bar
  split
  · split
    · rename_i m hm
      exact ⟨crs_sz hf hl hm, wv_sz hf (crs_sz hf hl hm)⟩
    · split
      · exact ⟨near_sz hf, wv_sz hf (near_sz hf)⟩
      · exact ⟨near_sz hl, wv_sz hl (near_sz hl)⟩
  · exact ⟨near_sz hf, rmax_sz (wv_sz hf (near_sz hf)) (wv_sz hl (near_sz hl))⟩
def ap (p q : Pt) : Rat := (((p.1 - q.1) * (p.1 - q.1) + (p.2 - q.2) * (p.2 - q.2) : Int) : Rat)
theorem ap_sz0 {p q : Pt} (hp : Pz p) (hq : Pz q) : Sz 420 ((p.1 - q.1) * (p.1 - q.1) + (p.2 - q.2) * (p.2 - q.2)) :=
  (((hp.1.sub hq.1).mul (hp.1.sub hq.1)).add ((hp.2.sub hq.2).mul (hp.2.sub hq.2))).mono (by decide)
theorem ap_sz {p q : Pt} (hp : Pz p) (hq : Pz q) : Fz 420 (ap p q) := Fz.ofInt (ap_sz0 hp hq) (by decide)
theorem divInt_one (a : Int) : Rat.divInt a 1 = (a : Rat) := by
  exact Rat.num_divInt_den (a : Rat)
end M
/-! How the data of this program are told. -/
namespace G
open PySem PySem.Spec PyProof.Rows L2 DL M
def fr (q : Rat) : Dat := .tup [.int q.num, .int (q.den : Int)]
def ofr : Option Rat → Dat
  | none => .non
  | some q => fr q
def pt (p : Pt) : Dat := .tup [.int p.1, .int p.2]
def cv (c : Cv) : Dat := .tup [.int c.1, .int c.2.1, .int c.2.2]
def ln (l : List Pt) : Dat := .lst (l.map pt)
/-- multiplication's and division's leave -/
theorem mulok {n m : Nat} {i j : Int} (h : Sz n i) (g : Sz m j) (h0 : 0 < n) (h1 : 0 < m) (le : n + m ≤ 1000000) : CMulW i j := by
  have a := h.log h0
  have b := g.log h1
  unfold CMulW
  omega
theorem mulok9 {i j : Int} (h : Sz 400000 i) (g : Sz 400000 j) : CMulW i j := mulok h g (by decide) (by decide) (by decide)
theorem divok {n : Nat} {i j : Int} (h : Sz n j) (h0 : 0 < n) (le : n ≤ 9000) (z : j ≠ 0) : CDivWN i j := ⟨z, Nat.lt_of_lt_of_le (h.log h0) le⟩
theorem keptD {P : Program} {w : World} {K : PySem.W.Frag} {mg : Str → Option Value} {base : Heap} {x : Str} {params : Arguments} {body : List Stmt} {scope : Scope} {dvs : List V} {f : Addr} {fd : FuncData} {ps : List Str} {k : Nat} {R : Tr} (dds : List Dat) (n j : Nat)
    (F : FunD K x x params body scope dvs [] f fd) (m : mg x = some (.ref f)) (G : FnOk P w K mg base CX0 k f fd ps (Pr R)) (hd : dvs ≠ []) (hn : n + (dvs.length - j) = ps.length) (hdd : dds.map toV = dvs.drop j) (hc : dds.all isC = true)
    (h : ∀ (T : Addr) (kV doc pm : Value) (an : Option Addr) (cdv ct : Value) (us its : List Value), us.length = n → its.length = dvs.length →
      ∃ k, bindArgs (PySem.W.fnOf x x params body scope (.ref T) kV doc pm an cdv ct) ⟨us, []⟩ = seqItems? (.ref T) >>= k ∧ k (some its.toArray) = pure (ps.zip (us ++ its.drop j))) : Kept P w K mg base x ps dds k R := by
  obtain ⟨ds, h1, h2⟩ := F.binds1 n j hd hn h
  exact ⟨⟨f, fd, ds, m, G, F.kp, h2, by rw [hdd]; exact h1⟩, hc⟩
theorem rng_get {n : Nat} {lo : Int} {i : Nat} {d : Dat} (h : ((List.range n).map fun i => Dat.int (lo + (i : Nat)))[i]? = some d) : i < n ∧ d = .int (lo + (i : Nat)) := by
  rw [List.getElem?_map] at h
  by_cases hi : i < n
  · rw [List.getElem?_range hi] at h
    cases h
    exact ⟨hi, rfl⟩
  · rw [List.getElem?_eq_none (by simpa using hi)] at h
    cases h
theorem rng0_get {n : Nat} {i : Nat} {d : Dat} (h : ((List.range n).map fun i => Dat.int ((0 : Int) + (i : Nat)))[i]? = some d) : i < n ∧ d = .int (i : Int) := by
  obtain ⟨h1, h2⟩ := rng_get h
  exact ⟨h1, by rw [h2, Int.zero_add]⟩
theorem rng_len {n : Nat} {lo : Int} : ((List.range n).map fun i => Dat.int (lo + (i : Nat))).length = n := by simp
theorem cut_from (xs : List Dat) (n : Nat) : DL.cutD xs (some (n : Int)) none = xs.drop n := by
  unfold DL.cutD
  rw [HT.sIx_nat, HT.sIx_none]
  by_cases h : n ≤ xs.length
  · rw [Nat.min_eq_left h]
    exact List.take_of_length_le (by simp)
  · have h' : xs.length ≤ n := by omega
    rw [Nat.min_eq_right h', List.drop_of_length_le (Nat.le_refl _), List.drop_of_length_le h']
    simp
theorem cut_to (xs : List Dat) (n : Nat) : DL.cutD xs none (some (n : Int)) = xs.take n := by
  unfold DL.cutD
  rw [HT.sIx_nat, HT.sIx_none, Nat.sub_zero, List.drop_zero]
  by_cases h : n ≤ xs.length
  · rw [Nat.min_eq_left h]
  · have h' : xs.length ≤ n := by omega
    rw [Nat.min_eq_right h', List.take_of_length_le (Nat.le_refl _), List.take_of_length_le h']
theorem atm {α : Type} {f : α → Dat} {l : List α} {i : Nat} {c : α} (h : l[i]? = some c) : atI (l.map f) (i : Int) = some (f c) := atI_nat (by rw [List.getElem?_map, h]; rfl)
theorem atm2 {α : Type} {f : α → Dat} {l : List α} {i : Nat} {c : α} {j : Int} (h : l[i]? = some c) (e : j = (i : Int)) : atI (l.map f) j = some (f c) := by
  subst e
  exact atm h
theorem noVis {sc : Scope} {x : Str} (h : sc.names.lookup x = none) : ¬ Vis sc x := by
  rintro (z | z | z) <;> rw [h] at z <;> cases z
theorem len62 {n : Nat} (h : n ≤ 1000000) : -(2 ^ 62) ≤ (n : Int) ∧ (n : Int) < 2 ^ 62 := ⟨by omega, by omega⟩
theorem tl1 {a : Dat} : [a].length ≤ 100000 := Nat.le_of_ble_eq_true rfl
theorem tl2 {a b : Dat} : [a, b].length ≤ 100000 := Nat.le_of_ble_eq_true rfl
theorem tl3 {a b c : Dat} : [a, b, c].length ≤ 100000 := Nat.le_of_ble_eq_true rfl
theorem tl4 {a b c d : Dat} : [a, b, c, d].length ≤ 100000 := Nat.le_of_ble_eq_true rfl
theorem kit_ii : kitB "int" "int" = some true := by decide +kernel
theorem kit_ib : kitB "int" "bool" = some false := by decide +kernel
theorem kit_tt : kitB "tuple" "tuple" = some true := by decide +kernel
theorem kit_ss : kitB "str" "str" = some true := by decide +kernel
end G
namespace G
open PySem PySem.Spec PyProof.Rows L2 DL M
section
variable {P : Program} {w : World} {K : PySem.W.Frag} {mg : Str → Option Value} {base : Heap}
def t_is_whole : Tr := fun ds k => ∃ i : Int, ds = [.int i] ∧ k (.bl true)
theorem len_is_whole : ∀ ds k, t_is_whole ds k → ds.length = 1 := by
  rintro ds k ⟨_, rfl, _⟩
  rfl
abbrev nm_is_whole : List Str := ["thing"]
theorem sc_is_whole : FnScope nm_is_whole ["thing"] (defScope s_is_whole) := ⟨rfl, rfl, rfl, by decide +kernel, rfl, by decide +kernel, by decide +kernel⟩
theorem k_is_whole (T : Txt K mg) : Kept P w K mg base "is_whole" ["thing"] [] 1 t_is_whole := by
  obtain ⟨fd, F⟩ := T.says.def_ 0 (d := d_is_whole) rfl
  refine kept_of (N := nm_is_whole) (body := defBody s_is_whole) (scope := defScope s_is_whole) (params := defArgs s_is_whole) F (g_is_whole T) sc_is_whole len_is_whole (fun _ _ _ _ _ _ us hl => match us, hl with | [_], _ => rfl) (fun cdv A outer s H E hr => ⟨_, _,
      (pbd_one (psd_ret (pd_and (pd_isi (T := "int") (by rfl) (f_isinstance T) (pdv 0) (pe_bltn (by rfl) (f_int T) (by decide +kernel) rfl)) (pd_one (pd_not (pd_isi (T := "bool") (by rfl) (f_isinstance T) (pdv 0) (pe_bltn (by rfl) (f_bool T) (by decide +kernel) rfl))))))), ?_⟩)
  rintro ds k ⟨i, rfl, hk⟩
  refine ⟨_, rfl, true, rfl, kit_ii, true, rfl, ?_⟩
  refine iteT ⟨_, rfl, false, rfl, kit_ib, false, rfl, hk⟩
def t_divisor : Tr := fun ds k => ∃ i j : Int, ds = [.int i, .int j] ∧ 0 < j ∧ k (.int (Nat.gcd i.natAbs j.natAbs : Nat))
theorem len_divisor : ∀ ds k, t_divisor ds k → ds.length = 2 := by
  rintro ds k ⟨_, _, rfl, _⟩
  rfl
abbrev nm_divisor : List Str := ["one", "other"]
theorem sc_divisor : FnScope nm_divisor ["one", "other"] (defScope s_divisor) := ⟨rfl, rfl, rfl, by decide +kernel, rfl, by decide +kernel, by decide +kernel⟩
theorem k_divisor (T : Txt K mg) : Kept P w K mg base "divisor" ["one", "other"] [] 1 t_divisor := by
  obtain ⟨fd, F⟩ := T.says.def_ 1 (d := d_divisor) rfl
  refine kept_of (N := nm_divisor) (body := defBody s_divisor) (scope := defScope s_divisor) (params := defArgs s_divisor) F (g_divisor T) sc_divisor len_divisor (fun _ _ _ _ _ _ us hl => match us, hl with | [_, _], _ => rfl) (fun cdv A outer s H E hr => ⟨_, _,
      (pbd_cons (psd_set (i := 0) sc_divisor.nd rfl (by first | exact .inl rfl | exact .inr rfl) (pd_bi call_abs rc_abs (by rfl) (f_abs T) (by decide +kernel) (pda_cons (pdv 0) pda_nil)))
      (pbd_cons (psd_while PassesOwn.never (pdt_cmp op_gt r2_B (pdv 0) pd_int)
      (pbd_one (psd_par rfl sc_divisor.nd (i := 0) (j := 1) rfl rfl (by decide) rfl rfl (pda_cons (pd_op op_mod r2_Ic (pdv 1) (pdv 0)) (pda_cons (pdv 0) pda_nil)))))
      (pbd_one (psd_ret (pdv 1))))), ?_⟩)
  rintro ds k ⟨i, j, rfl, hj, hk⟩
  refine ⟨_, rfl, _, rfl, fun m ρ => ∃ a b : Int, ρ = [some (.sh (.int a)), some (.sh (.int b))] ∧ 0 ≤ a ∧ 0 < b ∧ Nat.gcd a.natAbs b.natAbs = Nat.gcd i.natAbs j.natAbs ∧ m = a.toNat, ⟨_, _, _, rfl, by show (0 : Int) ≤ (i.natAbs : Int); omega, hj, by simp, rfl⟩, ?_⟩
  rintro m ρ ⟨a, b, rfl, ha, hb, hg, rfl⟩
  refine ⟨_, rfl, _, _, rfl, rfl, _, rfl, ?_⟩
  refine ite2 (fun h => ?_) (fun h => ?_)
  · have h' : 0 < a := by simpa using h
    refine ⟨_, rfl, _, rfl, _, _, rfl, rfl, h', _, rfl, _, _, rfl, ?_⟩
    have h1 := Int.emod_nonneg b (Int.ne_of_gt h')
    have h2 := Int.emod_lt_of_pos b h'
    refine ⟨_, by omega, _, _, rfl, h1, h', ?_, rfl⟩
    rw [← hg]
    have e : (b % a).natAbs = b.natAbs % a.natAbs := by
      obtain ⟨a, rfl⟩ := Int.eq_ofNat_of_zero_le ha
      obtain ⟨b, rfl⟩ := Int.eq_ofNat_of_zero_le (Int.le_of_lt hb)
      rw [← Int.natCast_emod]
      simp only [Int.natAbs_natCast]
    rw [e, Nat.gcd_comm a.natAbs b.natAbs, ← Nat.gcd_rec, Nat.gcd_comm]
  · have h' : a = 0 := by
      have : ¬ 0 < a := by simpa using h
      omega
    subst h'
    refine ⟨_, rfl, ?_⟩
    have : b = (Nat.gcd i.natAbs j.natAbs : Nat) := by
      rw [← hg]
      simp
      omega
    rw [this]
    exact hk
theorem ratio_eq {a b : Int} (h0 : b ≠ 0) : (b < 0 → a.fdiv (0 - (Nat.gcd a.natAbs b.natAbs : Nat)) = (Rat.divInt a b).num ∧ b.fdiv (0 - (Nat.gcd a.natAbs b.natAbs : Nat)) = ((Rat.divInt a b).den : Int)) ∧
    (0 < b → a.fdiv (Nat.gcd a.natAbs b.natAbs : Nat) = (Rat.divInt a b).num ∧ b.fdiv (Nat.gcd a.natAbs b.natAbs : Nat) = ((Rat.divInt a b).den : Int)) := by
  have hg : Int.gcd b a = Nat.gcd a.natAbs b.natAbs := by
    unfold Int.gcd
    exact Nat.gcd_comm _ _
  have g0 : 0 < Nat.gcd a.natAbs b.natAbs := Nat.gcd_pos_of_pos_right _ (by omega)
  have da : ((Nat.gcd a.natAbs b.natAbs : Nat) : Int) ∣ a := Int.ofNat_dvd_left.mpr (Nat.gcd_dvd_left _ _)
  have db : ((Nat.gcd a.natAbs b.natAbs : Nat) : Int) ∣ b := Int.ofNat_dvd_left.mpr (Nat.gcd_dvd_right _ _)
  rw [Rat.num_divInt, Rat.den_divInt, if_neg h0, hg]
  generalize Nat.gcd a.natAbs b.natAbs = g at *
  obtain ⟨x, hx⟩ := da
  obtain ⟨y, hy⟩ := db
  have gi : (g : Int) ≠ 0 := by omega
  refine ⟨fun h => ?_, fun h => ?_⟩
  · have hy0 : y < 0 := by
      rcases Int.lt_or_le y 0 with z | z
      · exact z
      · exfalso
        have : 0 ≤ (g : Int) * y := Int.mul_nonneg (by omega) z
        omega
    refine ⟨?_, ?_⟩
    · rw [Int.sign_eq_neg_one_of_neg h, hx]
      have e1 : (g : Int) * x = (0 - (g : Int)) * (-x) := by rw [Int.zero_sub, Int.neg_mul_neg]
      have e2 : -1 * ((g : Int) * x) = (g : Int) * (-x) := by rw [Int.neg_mul, Int.one_mul, Int.mul_neg]
      rw [e1, Int.mul_fdiv_cancel_left _ (by omega), ← e1, e2, Int.mul_ediv_cancel_left _ gi]
    · rw [hy]
      have e1 : (g : Int) * y = (0 - (g : Int)) * (-y) := by rw [Int.zero_sub, Int.neg_mul_neg]
      rw [e1, Int.mul_fdiv_cancel_left _ (by omega), ← e1, Int.natAbs_mul, Int.natAbs_natCast, Nat.mul_div_cancel_left _ g0]
      omega
  · have hy0 : 0 < y := by
      rcases Int.lt_or_le 0 y with z | z
      · exact z
      · exfalso
        have : (g : Int) * y ≤ 0 := Int.mul_nonpos_of_nonneg_of_nonpos (by omega) z
        omega
    refine ⟨?_, ?_⟩
    · rw [Int.sign_eq_one_of_pos h, hx, Int.one_mul, Int.mul_fdiv_cancel_left _ gi, Int.mul_ediv_cancel_left _ gi]
    · rw [hy, Int.mul_fdiv_cancel_left _ gi, Int.natAbs_mul, Int.natAbs_natCast, Nat.mul_div_cancel_left _ g0]
      omega
theorem gcd_sz {n : Nat} {a b : Int} (hb : Sz n b) (h0 : b ≠ 0) : Sz n (Nat.gcd a.natAbs b.natAbs : Nat) := hb.of_le (by
  rw [Int.natAbs_natCast]
  exact Nat.gcd_le_right _ (by omega))
def t_ratio : Tr := fun ds k => ∃ a b : Int, ds = [.int a, .int b] ∧ b ≠ 0 ∧ Sz 8900 a ∧ Sz 8900 b ∧ k (fr (Rat.divInt a b))
theorem len_ratio : ∀ ds k, t_ratio ds k → ds.length = 2 := by
  rintro ds k ⟨_, _, rfl, _⟩
  rfl
abbrev nm_ratio : List Str := ["top", "bottom", "by"]
theorem sc_ratio : FnScope nm_ratio ["top", "bottom"] (defScope s_ratio) := ⟨rfl, rfl, rfl, by decide +kernel, rfl, by decide +kernel, by decide +kernel⟩
theorem fn_ratio (T : Txt K mg) : ∃ fd, FunD K "ratio" "ratio" (defArgs s_ratio) (defBody s_ratio) (defScope s_ratio) [.int 1] [] (He.ga K "ratio") fd ∧ FnOk P w K mg base CX0 2 (He.ga K "ratio") fd ["top", "bottom"] (Pr t_ratio) := by
  obtain ⟨fd, F⟩ := T.says.def_ 2 (d := d_ratio) rfl
  refine ⟨fd, F, fn_ok (N := nm_ratio) (body := defBody s_ratio) (scope := defScope s_ratio) (params := defArgs s_ratio) (x := "ratio") (qual := "ratio") F sc_ratio len_ratio (fun cdv A outer s H E hr => ⟨_, _,
      (pbd_cons (psd_if (pdw_or (pdt_not (pdt_val (pd_call (k_is_whole T) (hr.mono (by decide)) (by rfl) (pda_cons (pdv 0) pda_nil)))) (pdw_or (pdt_not (pdt_val (pd_call (k_is_whole T) (hr.mono (by decide)) (by rfl) (pda_cons (pdv 1) pda_nil)))) (pdw_or1 (pdt_cmp (op_eqA hr.units) r2_eq (pdv 1) pd_int)))).t (pbd_one psd_never) pbd_nil)
      (pbd_cons (psd_set (i := 2) sc_ratio.nd rfl (by first | exact .inl rfl | exact .inr rfl) (pd_call (k_divisor T) (hr.mono (by decide)) (by rfl) (pda_cons (pdv 0) (pda_cons (pd_bi call_abs rc_abs (by rfl) (f_abs T) (by decide +kernel) (pda_cons (pdv 1) pda_nil)) pda_nil))))
      (pbd_cons (psd_if (pdt_cmp op_lt r2_B (pdv 1) pd_int) (pbd_one (psd_set (i := 2) sc_ratio.nd rfl (by first | exact .inl rfl | exact .inr rfl) (pd_op op_sub r2_I pd_int (pdv 2)))) pbd_nil)
      (pbd_one (psd_ret (pd_tup (pda_cons (pd_op op_fdivWN r2_Ic (pdv 0) (pdv 2)) (pda_cons (pd_op op_fdivWN r2_Ic (pdv 1) (pdv 2)) pda_nil)))))))), ?_⟩)⟩
  rintro ds k ⟨a, b, rfl, h0, ha, hb, hk⟩
  have hg : 0 < Nat.gcd a.natAbs b.natAbs := Nat.gcd_pos_of_pos_right _ (by omega)
  have hz := gcd_sz (a := a) hb h0
  obtain ⟨e1, e2⟩ := ratio_eq (a := a) h0
  refine ⟨_, rfl, _, rfl, true, rfl, ?_⟩
  refine iteF ⟨_, rfl, _, rfl, true, rfl, ?_⟩
  refine iteF ⟨_, rfl, _, rfl, _, rfl, ?_⟩
  refine ite2 (fun h => ?_) (fun _ => ?_)
  · exact h0 (by simpa using h)
  refine ⟨_, rfl, _, rfl, _, rfl, _, _, rfl, ?_, ?_⟩
  · show (0 : Int) < (b.natAbs : Int)
    omega
  show sSeq _ _ _ _
  have e3 : Nat.gcd a.natAbs (b.natAbs : Int).natAbs = Nat.gcd a.natAbs b.natAbs := by rw [Int.natAbs_natCast]
  rw [e3]
  refine ⟨_, rfl, _, _, rfl, rfl, _, rfl, ?_⟩
  refine ite2 (fun h => ?_) (fun h => ?_)
  · have h' : b < 0 := by simpa using h
    obtain ⟨q1, q2⟩ := e1 h'
    refine ⟨_, rfl, _, _, rfl, rfl, _, rfl, _, rfl, _, _, rfl, rfl, divok (n := 8900) ?_ (by decide) (by decide) (by omega), _, rfl, _, rfl, _, _, rfl, rfl, divok (n := 8900) ?_ (by decide) (by decide) (by omega), tl2, ?_⟩
    · have := hz.neg; simpa using this
    · have := hz.neg; simpa using this
    rw [q1, q2]
    exact hk
  · have h' : 0 < b := by
      have : ¬ b < 0 := by simpa using h
      omega
    obtain ⟨q1, q2⟩ := e2 h'
    refine ⟨_, rfl, _, rfl, _, _, rfl, rfl, divok (n := 8900) hz (by decide) (by decide) (by omega), _, rfl, _, rfl, _, _, rfl, rfl, divok (n := 8900) hz (by decide) (by decide) (by omega), tl2, ?_⟩
    rw [q1, q2]
    exact hk
theorem k_ratio1 (T : Txt K mg) : Kept P w K mg base "ratio" ["top", "bottom"] [.int 1] 2 t_ratio := by
  obtain ⟨fd, F, G⟩ := fn_ratio (P := P) (w := w) (base := base) T
  exact keptD [.int 1] 1 0 F (g_ratio T) G (by simp) rfl rfl rfl (fun T kV doc pm an cdv ct us its h1 h2 => match us, its, h1, h2 with | [_], [_], _, _ => ⟨_, rfl, rfl⟩)
theorem k_ratio2 (T : Txt K mg) : Kept P w K mg base "ratio" ["top", "bottom"] [] 2 t_ratio := by
  obtain ⟨fd, F, G⟩ := fn_ratio (P := P) (w := w) (base := base) T
  exact keptD [] 2 1 F (g_ratio T) G (by simp) rfl rfl rfl (fun T kV doc pm an cdv ct us its h1 h2 => match us, its, h1, h2 with | [_, _], [_], _, _ => ⟨_, rfl, rfl⟩)
def t_is_ratio : Tr := fun ds k => ∃ q : Rat, ds = [fr q] ∧ k (.bl true)
theorem len_is_ratio : ∀ ds k, t_is_ratio ds k → ds.length = 1 := by
  rintro ds k ⟨_, rfl, _⟩
  rfl
abbrev nm_is_ratio : List Str := ["thing"]
theorem sc_is_ratio : FnScope nm_is_ratio ["thing"] (defScope s_is_ratio) := ⟨rfl, rfl, rfl, by decide +kernel, rfl, by decide +kernel, by decide +kernel⟩
theorem k_is_ratio (T : Txt K mg) : Kept P w K mg base "is_ratio" ["thing"] [] 2 t_is_ratio := by
  obtain ⟨fd, F⟩ := T.says.def_ 3 (d := d_is_ratio) rfl
  refine kept_of (N := nm_is_ratio) (body := defBody s_is_ratio) (scope := defScope s_is_ratio) (params := defArgs s_is_ratio) F (g_is_ratio T) sc_is_ratio len_is_ratio (fun _ _ _ _ _ _ us hl => match us, hl with | [_], _ => rfl) (fun cdv A outer s H E hr => ⟨_, _,
      (pbd_cons (psd_if (pdw_or (pdt_not (pdt_val (pd_isi (T := "tuple") (by rfl) (f_isinstance T) (pdv 0) (pe_bltn (by rfl) (f_tuple T) (by decide +kernel) rfl)))) (pdw_or1 (pdt_cmp (op_neA hr.units) r2_ne (pd_bi call_len_seq rc_len (by rfl) (f_len T) PySem.boot_len (pda_cons (pdv 0) pda_nil)) pd_int))).t (pbd_one (psd_ret pd_bl)) pbd_nil)
      (pbd_cons (psd_if (pdw_or (pdt_not (pdt_val (pd_call (k_is_whole T) (hr.mono (by decide)) (by rfl) (pda_cons (pd_ixK (K := K) rfl (pdv 0) pd_int) pda_nil)))) (pdw_or (pdt_not (pdt_val (pd_call (k_is_whole T) (hr.mono (by decide)) (by rfl) (pda_cons (pd_ixK (K := K) rfl (pdv 0) pd_int) pda_nil)))) (pdw_or1 (pdt_cmp op_lt r2_B (pd_ixK (K := K) rfl (pdv 0) pd_int) pd_int)))).t (pbd_one (psd_ret pd_bl)) pbd_nil)
      (pbd_one (psd_ret (pd_cmp (op_eqA hr.units) r2_eq (pd_call (k_divisor T) (hr.mono (by decide)) (by rfl) (pda_cons (pd_ixK (K := K) rfl (pdv 0) pd_int) (pda_cons (pd_ixK (K := K) rfl (pdv 0) pd_int) pda_nil))) pd_int))))), ?_⟩)
  rintro ds k ⟨q, rfl, hk⟩
  refine ⟨_, rfl, true, rfl, kit_tt, _, rfl, ?_⟩
  refine iteF ⟨_, rfl, _, .inr rfl, _, rfl, _, rfl, ?_⟩
  refine iteF ?_
  refine ⟨_, rfl, _, _, _, rfl, rfl, rfl, _, rfl, true, rfl, ?_⟩
  refine iteF ⟨_, rfl, _, _, _, rfl, rfl, rfl, _, rfl, true, rfl, ?_⟩
  refine iteF ⟨_, rfl, _, _, _, rfl, rfl, rfl, _, _, rfl, rfl, _, rfl, ?_⟩
  have hd := den_pos q
  refine ite2 (fun h => ?_) (fun _ => ?_)
  · have h' : (q.den : Int) < 1 := by simpa using h
    omega
  refine ⟨_, rfl, _, _, _, rfl, rfl, rfl, _, rfl, _, _, _, rfl, rfl, rfl, _, _, rfl, hd, _, rfl, ?_⟩
  have e : Nat.gcd q.num.natAbs (q.den : Int).natAbs = 1 := by
    rw [Int.natAbs_natCast]
    exact q.reduced
  rw [e]
  exact hk
def t_plus : Tr := fun ds k => ∃ a b : Rat, ds = [fr a, fr b] ∧ Fz 4000 a ∧ Fz 4000 b ∧ k (fr (a + b))
theorem len_plus : ∀ ds k, t_plus ds k → ds.length = 2 := by
  rintro ds k ⟨_, _, rfl, _⟩
  rfl
abbrev nm_plus : List Str := ["a", "b"]
theorem sc_plus : FnScope nm_plus ["a", "b"] (defScope s_plus) := ⟨rfl, rfl, rfl, by decide +kernel, rfl, by decide +kernel, by decide +kernel⟩
theorem k_plus (T : Txt K mg) : Kept P w K mg base "plus" ["a", "b"] [] 3 t_plus := by
  obtain ⟨fd, F⟩ := T.says.def_ 4 (d := d_plus) rfl
  refine kept_of (N := nm_plus) (body := defBody s_plus) (scope := defScope s_plus) (params := defArgs s_plus) F (g_plus T) sc_plus len_plus (fun _ _ _ _ _ _ us hl => match us, hl with | [_, _], _ => rfl) (fun cdv A outer s H E hr => ⟨_, _,
      (pbd_one (psd_ret (pd_call (k_ratio2 T) (hr.mono (by decide)) (by rfl) (pda_cons (pd_op op_add r2_I (pd_op op_mulW r2_Ic (pd_ixK (K := K) rfl (pdv 0) pd_int) (pd_ixK (K := K) rfl (pdv 1) pd_int)) (pd_op op_mulW r2_Ic (pd_ixK (K := K) rfl (pdv 1) pd_int) (pd_ixK (K := K) rfl (pdv 0) pd_int))) (pda_cons (pd_op op_mulW r2_Ic (pd_ixK (K := K) rfl (pdv 0) pd_int) (pd_ixK (K := K) rfl (pdv 1) pd_int)) pda_nil))))), ?_⟩)
  rintro ds k ⟨a, b, rfl, ha, hb, hk⟩
  have ka : ∀ {i}, Sz 4000 i → Sz 400000 i := fun h => h.mono (by decide)
  refine ⟨_, rfl, _, _, _, rfl, rfl, rfl, _, rfl, _, _, _, rfl, rfl, rfl, _, _, rfl, rfl, mulok9 (ka ha.1) (ka hb.2), ?_⟩
  refine ⟨_, rfl, _, _, _, rfl, rfl, rfl, _, rfl, _, _, _, rfl, rfl, rfl, _, _, rfl, rfl, mulok9 (ka hb.1) (ka ha.2), _, _, rfl, rfl, ?_⟩
  refine ⟨_, rfl, _, _, _, rfl, rfl, rfl, _, rfl, _, _, _, rfl, rfl, rfl, _, _, rfl, rfl, mulok9 (ka ha.2) (ka hb.2), ?_⟩
  have h0 : (a.den : Int) * (b.den : Int) ≠ 0 := Int.mul_ne_zero (Int.ne_of_gt (den_pos a)) (Int.ne_of_gt (den_pos b))
  refine ⟨_, _, rfl, h0, ((ha.1.mul hb.2).add (hb.1.mul ha.2)).mono (by decide), (ha.2.mul hb.2).mono (by decide), ?_⟩
  have e : Rat.divInt (a.num * b.den + b.num * a.den) (a.den * b.den) = a + b := by
    rw [Rat.add_def', ← Rat.divInt_ofNat, Int.natCast_mul]
  rw [e]
  exact hk
def t_minus : Tr := fun ds k => ∃ a b : Rat, ds = [fr a, fr b] ∧ Fz 4000 a ∧ Fz 4000 b ∧ k (fr (a - b))
theorem len_minus : ∀ ds k, t_minus ds k → ds.length = 2 := by
  rintro ds k ⟨_, _, rfl, _⟩
  rfl
abbrev nm_minus : List Str := ["a", "b"]
theorem sc_minus : FnScope nm_minus ["a", "b"] (defScope s_minus) := ⟨rfl, rfl, rfl, by decide +kernel, rfl, by decide +kernel, by decide +kernel⟩
theorem k_minus (T : Txt K mg) : Kept P w K mg base "minus" ["a", "b"] [] 3 t_minus := by
  obtain ⟨fd, F⟩ := T.says.def_ 5 (d := d_minus) rfl
  refine kept_of (N := nm_minus) (body := defBody s_minus) (scope := defScope s_minus) (params := defArgs s_minus) F (g_minus T) sc_minus len_minus (fun _ _ _ _ _ _ us hl => match us, hl with | [_, _], _ => rfl) (fun cdv A outer s H E hr => ⟨_, _,
      (pbd_one (psd_ret (pd_call (k_ratio2 T) (hr.mono (by decide)) (by rfl) (pda_cons (pd_op op_sub r2_I (pd_op op_mulW r2_Ic (pd_ixK (K := K) rfl (pdv 0) pd_int) (pd_ixK (K := K) rfl (pdv 1) pd_int)) (pd_op op_mulW r2_Ic (pd_ixK (K := K) rfl (pdv 1) pd_int) (pd_ixK (K := K) rfl (pdv 0) pd_int))) (pda_cons (pd_op op_mulW r2_Ic (pd_ixK (K := K) rfl (pdv 0) pd_int) (pd_ixK (K := K) rfl (pdv 1) pd_int)) pda_nil))))), ?_⟩)
  rintro ds k ⟨a, b, rfl, ha, hb, hk⟩
  have ka : ∀ {i}, Sz 4000 i → Sz 400000 i := fun h => h.mono (by decide)
  refine ⟨_, rfl, _, _, _, rfl, rfl, rfl, _, rfl, _, _, _, rfl, rfl, rfl, _, _, rfl, rfl, mulok9 (ka ha.1) (ka hb.2), ?_⟩
  refine ⟨_, rfl, _, _, _, rfl, rfl, rfl, _, rfl, _, _, _, rfl, rfl, rfl, _, _, rfl, rfl, mulok9 (ka hb.1) (ka ha.2), _, _, rfl, rfl, ?_⟩
  refine ⟨_, rfl, _, _, _, rfl, rfl, rfl, _, rfl, _, _, _, rfl, rfl, rfl, _, _, rfl, rfl, mulok9 (ka ha.2) (ka hb.2), ?_⟩
  have h0 : (a.den : Int) * (b.den : Int) ≠ 0 := Int.mul_ne_zero (Int.ne_of_gt (den_pos a)) (Int.ne_of_gt (den_pos b))
  refine ⟨_, _, rfl, h0, ((ha.1.mul hb.2).sub (hb.1.mul ha.2)).mono (by decide), (ha.2.mul hb.2).mono (by decide), ?_⟩
  have e : Rat.divInt (a.num * b.den - b.num * a.den) (a.den * b.den) = a - b := by
    rw [Rat.sub_def', ← Rat.divInt_ofNat, Int.natCast_mul]
  rw [e]
  exact hk
def t_times : Tr := fun ds k => ∃ a b : Rat, ds = [fr a, fr b] ∧ Fz 4000 a ∧ Fz 4000 b ∧ k (fr (a * b))
theorem len_times : ∀ ds k, t_times ds k → ds.length = 2 := by
  rintro ds k ⟨_, _, rfl, _⟩
  rfl
abbrev nm_times : List Str := ["a", "b"]
theorem sc_times : FnScope nm_times ["a", "b"] (defScope s_times) := ⟨rfl, rfl, rfl, by decide +kernel, rfl, by decide +kernel, by decide +kernel⟩
theorem k_times (T : Txt K mg) : Kept P w K mg base "times" ["a", "b"] [] 3 t_times := by
  obtain ⟨fd, F⟩ := T.says.def_ 6 (d := d_times) rfl
  refine kept_of (N := nm_times) (body := defBody s_times) (scope := defScope s_times) (params := defArgs s_times) F (g_times T) sc_times len_times (fun _ _ _ _ _ _ us hl => match us, hl with | [_, _], _ => rfl) (fun cdv A outer s H E hr => ⟨_, _,
      (pbd_one (psd_ret (pd_call (k_ratio2 T) (hr.mono (by decide)) (by rfl) (pda_cons (pd_op op_mulW r2_Ic (pd_ixK (K := K) rfl (pdv 0) pd_int) (pd_ixK (K := K) rfl (pdv 1) pd_int)) (pda_cons (pd_op op_mulW r2_Ic (pd_ixK (K := K) rfl (pdv 0) pd_int) (pd_ixK (K := K) rfl (pdv 1) pd_int)) pda_nil))))), ?_⟩)
  rintro ds k ⟨a, b, rfl, ha, hb, hk⟩
  have ka : ∀ {i}, Sz 4000 i → Sz 400000 i := fun h => h.mono (by decide)
  refine ⟨_, rfl, _, _, _, rfl, rfl, rfl, _, rfl, _, _, _, rfl, rfl, rfl, _, _, rfl, rfl, mulok9 (ka ha.1) (ka hb.1), ?_⟩
  refine ⟨_, rfl, _, _, _, rfl, rfl, rfl, _, rfl, _, _, _, rfl, rfl, rfl, _, _, rfl, rfl, mulok9 (ka ha.2) (ka hb.2), ?_⟩
  have h0 : (a.den : Int) * (b.den : Int) ≠ 0 := Int.mul_ne_zero (Int.ne_of_gt (den_pos a)) (Int.ne_of_gt (den_pos b))
  refine ⟨_, _, rfl, h0, (ha.1.mul hb.1).mono (by decide), (ha.2.mul hb.2).mono (by decide), ?_⟩
  have e : Rat.divInt (a.num * b.num) (a.den * b.den) = a * b := by
    rw [Rat.mul_def', ← Rat.divInt_ofNat, Int.natCast_mul]
  rw [e]
  exact hk
def t_over : Tr := fun ds k => ∃ a b : Rat, ds = [fr a, fr b] ∧ b ≠ 0 ∧ Fz 4000 a ∧ Fz 4000 b ∧ k (fr (a / b))
theorem len_over : ∀ ds k, t_over ds k → ds.length = 2 := by
  rintro ds k ⟨_, _, rfl, _⟩
  rfl
abbrev nm_over : List Str := ["a", "b"]
theorem sc_over : FnScope nm_over ["a", "b"] (defScope s_over) := ⟨rfl, rfl, rfl, by decide +kernel, rfl, by decide +kernel, by decide +kernel⟩
theorem k_over (T : Txt K mg) : Kept P w K mg base "over" ["a", "b"] [] 3 t_over := by
  obtain ⟨fd, F⟩ := T.says.def_ 7 (d := d_over) rfl
  refine kept_of (N := nm_over) (body := defBody s_over) (scope := defScope s_over) (params := defArgs s_over) F (g_over T) sc_over len_over (fun _ _ _ _ _ _ us hl => match us, hl with | [_, _], _ => rfl) (fun cdv A outer s H E hr => ⟨_, _,
      (pbd_one (psd_ret (pd_call (k_ratio2 T) (hr.mono (by decide)) (by rfl) (pda_cons (pd_op op_mulW r2_Ic (pd_ixK (K := K) rfl (pdv 0) pd_int) (pd_ixK (K := K) rfl (pdv 1) pd_int)) (pda_cons (pd_op op_mulW r2_Ic (pd_ixK (K := K) rfl (pdv 0) pd_int) (pd_ixK (K := K) rfl (pdv 1) pd_int)) pda_nil))))), ?_⟩)
  rintro ds k ⟨a, b, rfl, nz, ha, hb, hk⟩
  have ka : ∀ {i}, Sz 4000 i → Sz 400000 i := fun h => h.mono (by decide)
  refine ⟨_, rfl, _, _, _, rfl, rfl, rfl, _, rfl, _, _, _, rfl, rfl, rfl, _, _, rfl, rfl, mulok9 (ka ha.1) (ka hb.2), ?_⟩
  refine ⟨_, rfl, _, _, _, rfl, rfl, rfl, _, rfl, _, _, _, rfl, rfl, rfl, _, _, rfl, rfl, mulok9 (ka ha.2) (ka hb.1), ?_⟩
  have h0 : (a.den : Int) * b.num ≠ 0 := Int.mul_ne_zero (Int.ne_of_gt (den_pos a)) (fun z => nz (Rat.num_eq_zero.mp z))
  refine ⟨_, _, rfl, h0, (ha.1.mul hb.2).mono (by decide), (ha.2.mul hb.1).mono (by decide), ?_⟩
  have e : Rat.divInt (a.num * b.den) (a.den * b.num) = a / b := by
    rw [Rat.div_def, Rat.inv_def, ← Rat.num_divInt_den a, Rat.divInt_mul_divInt, Rat.num_divInt_den]
  rw [e]
  exact hk
def t_less : Tr := fun ds k => ∃ a b : Rat, ds = [fr a, fr b] ∧ Fz 4000 a ∧ Fz 4000 b ∧ k (.bl (decide (a < b)))
theorem len_less : ∀ ds k, t_less ds k → ds.length = 2 := by
  rintro ds k ⟨_, _, rfl, _⟩
  rfl
abbrev nm_less : List Str := ["a", "b"]
theorem sc_less : FnScope nm_less ["a", "b"] (defScope s_less) := ⟨rfl, rfl, rfl, by decide +kernel, rfl, by decide +kernel, by decide +kernel⟩
theorem k_less (T : Txt K mg) : Kept P w K mg base "less" ["a", "b"] [] 1 t_less := by
  obtain ⟨fd, F⟩ := T.says.def_ 8 (d := d_less) rfl
  refine kept_of (N := nm_less) (body := defBody s_less) (scope := defScope s_less) (params := defArgs s_less) F (g_less T) sc_less len_less (fun _ _ _ _ _ _ us hl => match us, hl with | [_, _], _ => rfl) (fun cdv A outer s H E hr => ⟨_, _,
      (pbd_one (psd_ret (pd_cmp op_lt r2_B (pd_op op_mulW r2_Ic (pd_ixK (K := K) rfl (pdv 0) pd_int) (pd_ixK (K := K) rfl (pdv 1) pd_int)) (pd_op op_mulW r2_Ic (pd_ixK (K := K) rfl (pdv 1) pd_int) (pd_ixK (K := K) rfl (pdv 0) pd_int))))), ?_⟩)
  rintro ds k ⟨a, b, rfl, ha, hb, hk⟩
  have ka : ∀ {i}, Sz 4000 i → Sz 400000 i := fun h => h.mono (by decide)
  refine ⟨_, rfl, _, _, _, rfl, rfl, rfl, _, rfl, _, _, _, rfl, rfl, rfl, _, _, rfl, rfl, mulok9 (ka ha.1) (ka hb.2), ?_⟩
  refine ⟨_, rfl, _, _, _, rfl, rfl, rfl, _, rfl, _, _, _, rfl, rfl, rfl, _, _, rfl, rfl, mulok9 (ka hb.1) (ka ha.2), _, _, rfl, rfl, ?_⟩
  have e : decide (a.num * (b.den : Int) < b.num * (a.den : Int)) = decide (a < b) := decide_eq_decide.mpr (Rat.lt_iff a b).symm
  show k (.bl (decide (a.num * (b.den : Int) < b.num * (a.den : Int))))
  rw [e]
  exact hk
def t_floor_of : Tr := fun ds k => ∃ a : Rat, ds = [fr a] ∧ Fz 8900 a ∧ k (.int a.floor)
theorem len_floor_of : ∀ ds k, t_floor_of ds k → ds.length = 1 := by
  rintro ds k ⟨_, rfl, _⟩
  rfl
abbrev nm_floor_of : List Str := ["a"]
theorem sc_floor_of : FnScope nm_floor_of ["a"] (defScope s_floor_of) := ⟨rfl, rfl, rfl, by decide +kernel, rfl, by decide +kernel, by decide +kernel⟩
theorem k_floor_of (T : Txt K mg) : Kept P w K mg base "floor_of" ["a"] [] 1 t_floor_of := by
  obtain ⟨fd, F⟩ := T.says.def_ 9 (d := d_floor_of) rfl
  refine kept_of (N := nm_floor_of) (body := defBody s_floor_of) (scope := defScope s_floor_of) (params := defArgs s_floor_of) F (g_floor_of T) sc_floor_of len_floor_of (fun _ _ _ _ _ _ us hl => match us, hl with | [_], _ => rfl) (fun cdv A outer s H E hr => ⟨_, _,
      (pbd_one (psd_ret (pd_op op_fdivWN r2_Ic (pd_ixK (K := K) rfl (pdv 0) pd_int) (pd_ixK (K := K) rfl (pdv 0) pd_int)))), ?_⟩)
  rintro ds k ⟨a, rfl, ha, hk⟩
  refine ⟨_, rfl, _, _, _, rfl, rfl, rfl, _, rfl, _, _, _, rfl, rfl, rfl, _, _, rfl, rfl, divok ha.2 (by decide) (by decide) (Int.ne_of_gt (den_pos a)), ?_⟩
  have e : a.num.fdiv (a.den : Int) = a.floor := by
    rw [Rat.floor_def, Int.fdiv_eq_ediv_of_nonneg _ (Int.le_of_lt (den_pos a))]
  rw [e]
  exact hk
end
end G
namespace G
open PySem PySem.Spec PyProof.Rows L2 DL M
section
variable {P : Program} {w : World} {K : PySem.W.Frag} {mg : Str → Option Value} {base : Heap}
theorem cut1 {a : Int} : (Rat.divInt a 1) = (a : Rat) := divInt_one a
/-- shortcuts: what a fraction's two numbers are -/
theorem ix0 {a b : Dat} : atI [a, b] 0 = some a := rfl
def t_stretched : Tr := fun ds k => ∃ l : List Pt, ds = [ln l] ∧ l ≠ [] ∧ k (ln (if l.length = 1 then [l.headD (0, 0), l.headD (0, 0)] else l))
theorem len_stretched : ∀ ds k, t_stretched ds k → ds.length = 1 := by
  rintro ds k ⟨_, rfl, _⟩
  rfl
abbrev nm_stretched : List Str := ["line"]
theorem sc_stretched : FnScope nm_stretched ["line"] (defScope s_stretched) := ⟨rfl, rfl, rfl, by decide +kernel, rfl, by decide +kernel, by decide +kernel⟩
theorem k_stretched (T : Txt K mg) : Kept P w K mg base "stretched" ["line"] [] 1 t_stretched := by
  obtain ⟨fd, F⟩ := T.says.def_ 10 (d := d_stretched) rfl
  refine kept_of (N := nm_stretched) (body := defBody s_stretched) (scope := defScope s_stretched) (params := defArgs s_stretched) F (g_stretched T) sc_stretched len_stretched (fun _ _ _ _ _ _ us hl => match us, hl with | [_], _ => rfl) (fun cdv A outer s H E hr => ⟨_, _,
      (pbd_cons (psd_if (pdt_cmp (op_eqA hr.units) r2_eq (pd_bi call_len_seq rc_len (by rfl) (f_len T) PySem.boot_len (pda_cons (pdv 0) pda_nil)) pd_int) (pbd_one (psd_ret (pd_sh (pl_lst (pda_cons (pd_ixK (K := K) rfl (pdv 0) pd_int) (pda_cons (pd_ixK (K := K) rfl (pdv 0) pd_int) pda_nil)))))) pbd_nil)
      (pbd_one (psd_ret (pd_sh (pl_list (by rfl) (f_list T) (pdv 0)))))), ?_⟩)
  rintro ds k ⟨l, rfl, hl, hk⟩
  refine ⟨_, rfl, _, .inl rfl, _, rfl, _, rfl, ?_⟩
  refine ite2 (fun h => ?_) (fun h => ?_)
  · have h1 : l.length = 1 := by
      have h2 : (l.length : Int) = 1 := by simpa using h
      omega
    match l, h1 with
    | [p], _ => exact ⟨_, rfl, _, _, _, rfl, rfl, rfl, _, rfl, _, _, _, rfl, rfl, rfl, tl2, hk⟩
  · have h1 : ¬ l.length = 1 := fun z => h (by simp [z])
    rw [if_neg h1] at hk
    exact ⟨_, rfl, _, rfl, hk⟩
def t_curve_of : Tr := fun ds k => ∃ c b e : Pt, ds = [pt c, pt b, pt e] ∧ Pz c ∧ Pz b ∧ Pz e ∧ k (cv (crv c b e))
theorem len_curve_of : ∀ ds k, t_curve_of ds k → ds.length = 3 := by
  rintro ds k ⟨_, _, _, rfl, _⟩
  rfl
abbrev nm_curve_of : List Str := ["corner", "begin", "end", "wide", "high", "left", "down"]
theorem sc_curve_of : FnScope nm_curve_of ["corner", "begin", "end"] (defScope s_curve_of) := ⟨rfl, rfl, rfl, by decide +kernel, rfl, by decide +kernel, by decide +kernel⟩
theorem k_curve_of (T : Txt K mg) : Kept P w K mg base "curve_of" ["corner", "begin", "end"] [] 1 t_curve_of := by
  obtain ⟨fd, F⟩ := T.says.def_ 11 (d := d_curve_of) rfl
  refine kept_of (N := nm_curve_of) (body := defBody s_curve_of) (scope := defScope s_curve_of) (params := defArgs s_curve_of) F (g_curve_of T) sc_curve_of len_curve_of (fun _ _ _ _ _ _ us hl => match us, hl with | [_, _, _], _ => rfl) (fun cdv A outer s H E hr => ⟨_, _,
      (pbd_cons (psd_set (i := 3) sc_curve_of.nd rfl (by first | exact .inl rfl | exact .inr rfl) (pd_op op_sub r2_I (pd_ixK (K := K) rfl (pdv 2) pd_int) (pd_ixK (K := K) rfl (pdv 1) pd_int)))
      (pbd_cons (psd_set (i := 4) sc_curve_of.nd rfl (by first | exact .inl rfl | exact .inr rfl) (pd_op op_sub r2_I (pd_ixK (K := K) rfl (pdv 2) pd_int) (pd_ixK (K := K) rfl (pdv 1) pd_int)))
      (pbd_cons (psd_set (i := 5) sc_curve_of.nd rfl (by first | exact .inl rfl | exact .inr rfl) (pd_op op_sub r2_I (pd_ixK (K := K) rfl (pdv 1) pd_int) (pd_ixK (K := K) rfl (pdv 0) pd_int)))
      (pbd_cons (psd_set (i := 6) sc_curve_of.nd rfl (by first | exact .inl rfl | exact .inr rfl) (pd_op op_sub r2_I (pd_ixK (K := K) rfl (pdv 1) pd_int) (pd_ixK (K := K) rfl (pdv 0) pd_int)))
      (pbd_one (psd_ret (pd_tup (pda_cons (pd_op op_add r2_I (pd_op op_mulW r2_Ic (pdv 3) (pdv 3)) (pd_op op_mulW r2_Ic (pdv 4) (pdv 4))) (pda_cons (pd_op op_add r2_I (pd_op op_mulW r2_Ic (pdv 5) (pdv 3)) (pd_op op_mulW r2_Ic (pdv 6) (pdv 4))) (pda_cons (pd_op op_add r2_I (pd_op op_mulW r2_Ic (pdv 5) (pdv 5)) (pd_op op_mulW r2_Ic (pdv 6) (pdv 6))) pda_nil)))))))))), ?_⟩)
  rintro ds k ⟨c, b, e, rfl, hc, hb, he, hk⟩
  have m9 : ∀ {i}, Sz 61 i → Sz 400000 i := fun h => h.mono (by decide)
  refine ⟨_, rfl, _, _, _, rfl, rfl, rfl, _, rfl, _, _, _, rfl, rfl, rfl, _, _, rfl, rfl, ?_⟩
  refine ⟨_, rfl, _, _, _, rfl, rfl, rfl, _, rfl, _, _, _, rfl, rfl, rfl, _, _, rfl, rfl, ?_⟩
  refine ⟨_, rfl, _, _, _, rfl, rfl, rfl, _, rfl, _, _, _, rfl, rfl, rfl, _, _, rfl, rfl, ?_⟩
  refine ⟨_, rfl, _, _, _, rfl, rfl, rfl, _, rfl, _, _, _, rfl, rfl, rfl, _, _, rfl, rfl, ?_⟩
  refine ⟨_, rfl, _, rfl, _, _, rfl, rfl, mulok9 (m9 (he.1.sub hb.1)) (m9 (he.1.sub hb.1)), _, rfl, _, rfl, _, _, rfl, rfl, mulok9 (m9 (he.2.sub hb.2)) (m9 (he.2.sub hb.2)), _, _, rfl, rfl, ?_⟩
  refine ⟨_, rfl, _, rfl, _, _, rfl, rfl, mulok9 (m9 (hb.1.sub hc.1)) (m9 (he.1.sub hb.1)), _, rfl, _, rfl, _, _, rfl, rfl, mulok9 (m9 (hb.2.sub hc.2)) (m9 (he.2.sub hb.2)), _, _, rfl, rfl, ?_⟩
  refine ⟨_, rfl, _, rfl, _, _, rfl, rfl, mulok9 (m9 (hb.1.sub hc.1)) (m9 (hb.1.sub hc.1)), _, rfl, _, rfl, _, _, rfl, rfl, mulok9 (m9 (hb.2.sub hc.2)) (m9 (hb.2.sub hc.2)), _, _, rfl, rfl, tl3, hk⟩
def t_worth : Tr := fun ds k => ∃ (c : Cv) (t : Rat), ds = [cv c, fr t] ∧ Cz c ∧ Fz 140 t ∧ k (fr (wv c t))
theorem len_worth : ∀ ds k, t_worth ds k → ds.length = 2 := by
  rintro ds k ⟨_, _, rfl, _⟩
  rfl
abbrev nm_worth : List Str := ["curve", "part", "a", "b", "d", "top", "bottom"]
theorem sc_worth : FnScope nm_worth ["curve", "part"] (defScope s_worth) := ⟨rfl, rfl, rfl, by decide +kernel, rfl, by decide +kernel, by decide +kernel⟩
theorem k_worth (T : Txt K mg) : Kept P w K mg base "worth" ["curve", "part"] [] 3 t_worth := by
  obtain ⟨fd, F⟩ := T.says.def_ 12 (d := d_worth) rfl
  refine kept_of (N := nm_worth) (body := defBody s_worth) (scope := defScope s_worth) (params := defArgs s_worth) F (g_worth T) sc_worth len_worth (fun _ _ _ _ _ _ us hl => match us, hl with | [_, _], _ => rfl) (fun cdv A outer s H E hr => ⟨_, _,
      (pbd_cons (psd_asg (pdv 0) (pgd_tup rfl (pgds_cons (pgd_name (i := 2) sc_worth.nd rfl (by first | exact .inl rfl | exact .inr rfl)) (pgds_cons (pgd_name (i := 3) sc_worth.nd rfl (by first | exact .inl rfl | exact .inr rfl)) (pgds_cons (pgd_name (i := 4) sc_worth.nd rfl (by first | exact .inl rfl | exact .inr rfl)) pgds_nil)))))
      (pbd_cons (psd_asg (pdv 1) (pgd_tup rfl (pgds_cons (pgd_name (i := 5) sc_worth.nd rfl (by first | exact .inl rfl | exact .inr rfl)) (pgds_cons (pgd_name (i := 6) sc_worth.nd rfl (by first | exact .inl rfl | exact .inr rfl)) pgds_nil))))
      (pbd_one (psd_ret (pd_call (k_ratio2 T) (hr.mono (by decide)) (by rfl) (pda_cons (pd_op op_add r2_I (pd_op op_add r2_I (pd_op op_mulW r2_Ic (pd_op op_mulW r2_Ic (pdv 2) (pdv 5)) (pdv 5)) (pd_op op_mulW r2_Ic (pd_op op_mulW r2_Ic (pd_op op_mulW r2_Ic pd_int (pdv 3)) (pdv 5)) (pdv 6))) (pd_op op_mulW r2_Ic (pd_op op_mulW r2_Ic (pdv 4) (pdv 6)) (pdv 6))) (pda_cons (pd_op op_mulW r2_Ic (pdv 6) (pdv 6)) pda_nil))))))), ?_⟩)
  rintro ds k ⟨⟨a, b, d⟩, t, rfl, hc, ht, hk⟩
  have m9 : ∀ {n : Nat} {i}, Sz n i → n ≤ 400000 → Sz 400000 i := fun h g => h.mono g
  have h2 : Sz 2 (2 : Int) := sz2 (by decide)
  refine ⟨_, rfl, _, rfl, rfl, _, _, rfl, _, _, rfl, _, _, rfl, rfl, ?_⟩
  refine ⟨_, rfl, _, rfl, rfl, _, _, rfl, _, _, rfl, rfl, ?_⟩
  refine ⟨_, rfl, _, rfl, _, _, rfl, rfl, mulok9 (m9 hc.1 (by decide)) (m9 ht.1 (by decide)), _, rfl, _, _, rfl, rfl, mulok9 (m9 (hc.1.mul ht.1) (by decide)) (m9 ht.1 (by decide)), ?_⟩
  refine ⟨_, rfl, _, _, rfl, rfl, mulok9 (m9 h2 (by decide)) (m9 hc.2.1 (by decide)), _, rfl, _, _, rfl, rfl, mulok9 (m9 (h2.mul hc.2.1) (by decide)) (m9 ht.1 (by decide)), _, rfl, _, _, rfl, rfl, mulok9 (m9 ((h2.mul hc.2.1).mul ht.1) (by decide)) (m9 ht.2 (by decide)), _, _, rfl, rfl, ?_⟩
  refine ⟨_, rfl, _, rfl, _, _, rfl, rfl, mulok9 (m9 hc.2.2 (by decide)) (m9 ht.2 (by decide)), _, rfl, _, _, rfl, rfl, mulok9 (m9 (hc.2.2.mul ht.2) (by decide)) (m9 ht.2 (by decide)), _, _, rfl, rfl, ?_⟩
  refine ⟨_, rfl, _, rfl, _, _, rfl, rfl, mulok9 (m9 ht.2 (by decide)) (m9 ht.2 (by decide)), ?_⟩
  have e := wv_eq (a, b, d) t
  refine ⟨_, _, rfl, Int.mul_ne_zero (Int.ne_of_gt (den_pos t)) (Int.ne_of_gt (den_pos t)), (wv_top hc ht).mono (by decide), (ht.2.mul ht.2).mono (by decide), ?_⟩
  dsimp only at e
  rw [e]
  exact hk
def t_nearest_part : Tr := fun ds k => ∃ c : Cv, ds = [cv c] ∧ Cz c ∧ k (fr (near c))
theorem len_nearest_part : ∀ ds k, t_nearest_part ds k → ds.length = 1 := by
  rintro ds k ⟨_, rfl, _⟩
  rfl
abbrev nm_nearest_part : List Str := ["curve", "a", "b", "d"]
theorem sc_nearest_part : FnScope nm_nearest_part ["curve"] (defScope s_nearest_part) := ⟨rfl, rfl, rfl, by decide +kernel, rfl, by decide +kernel, by decide +kernel⟩
theorem k_nearest_part (T : Txt K mg) : Kept P w K mg base "nearest_part" ["curve"] [] 3 t_nearest_part := by
  obtain ⟨fd, F⟩ := T.says.def_ 13 (d := d_nearest_part) rfl
  refine kept_of (N := nm_nearest_part) (body := defBody s_nearest_part) (scope := defScope s_nearest_part) (params := defArgs s_nearest_part) F (g_nearest_part T) sc_nearest_part len_nearest_part (fun _ _ _ _ _ _ us hl => match us, hl with | [_], _ => rfl) (fun cdv A outer s H E hr => ⟨_, _,
      (pbd_cons (psd_asg (pdv 0) (pgd_tup rfl (pgds_cons (pgd_name (i := 1) sc_nearest_part.nd rfl (by first | exact .inl rfl | exact .inr rfl)) (pgds_cons (pgd_name (i := 2) sc_nearest_part.nd rfl (by first | exact .inl rfl | exact .inr rfl)) (pgds_cons (pgd_name (i := 3) sc_nearest_part.nd rfl (by first | exact .inl rfl | exact .inr rfl)) pgds_nil)))))
      (pbd_cons (psd_if (pdw_or (pdt_cmp (op_eqA hr.units) r2_eq (pdv 1) pd_int) (pdw_or1 (pdt_cmp op_ge r2_B (pdv 2) pd_int))).t (pbd_one (psd_ret (pd_tup (pda_cons pd_int (pda_cons pd_int pda_nil))))) pbd_nil)
      (pbd_cons (psd_if (pdt_cmp op_ge r2_B (pd_un un_neg ru_I (pdv 2)) (pdv 1)) (pbd_one (psd_ret (pd_tup (pda_cons pd_int (pda_cons pd_int pda_nil))))) pbd_nil)
      (pbd_one (psd_ret (pd_call (k_ratio2 T) (hr.mono (by decide)) (by rfl) (pda_cons (pd_un un_neg ru_I (pdv 2)) (pda_cons (pdv 1) pda_nil)))))))), ?_⟩)
  rintro ds k ⟨⟨a, b, d⟩, rfl, hc, hk⟩
  refine ⟨_, rfl, _, rfl, rfl, _, _, rfl, _, _, rfl, _, _, rfl, rfl, ?_⟩
  have z0 : a = 0 ∨ 0 ≤ b → k (fr 0) := fun h => by
    unfold near at hk
    rw [if_pos h] at hk
    exact hk
  refine ⟨_, rfl, _, rfl, _, rfl, ?_⟩
  refine ite2 (fun h => ?_) (fun h => ?_)
  · have h' : a = 0 := by simpa using h
    exact iteT ⟨tl2, z0 (.inl h')⟩
  have ha : ¬ a = 0 := by simpa using h
  refine ⟨_, rfl, _, _, rfl, rfl, _, rfl, ?_⟩
  refine ite2 (fun h => ?_) (fun h => ?_)
  · have h' : 0 ≤ b := by simpa using h
    exact ⟨tl2, z0 (.inr h')⟩
  have hb : ¬ 0 ≤ b := by simpa using h
  have hn : ¬ (a = 0 ∨ 0 ≤ b) := fun z => z.elim ha hb
  unfold near at hk
  rw [if_neg hn] at hk
  refine ⟨_, rfl, _, rfl, _, rfl, _, _, rfl, rfl, _, rfl, ?_⟩
  refine ite2 (fun h => ?_) (fun h => ?_)
  · have h' : a ≤ -b := by simpa using h
    rw [if_pos h'] at hk
    exact ⟨tl2, hk⟩
  · have h' : ¬ a ≤ -b := by simpa using h
    rw [if_neg h'] at hk
    exact ⟨_, rfl, _, rfl, _, rfl, _, _, rfl, ha, hc.2.1.neg.mono (by decide), hc.1.mono (by decide), hk⟩
def t_least_worth : Tr := fun ds k => ∃ c : Cv, ds = [cv c] ∧ Cz c ∧ k (fr (lw c))
theorem len_least_worth : ∀ ds k, t_least_worth ds k → ds.length = 1 := by
  rintro ds k ⟨_, rfl, _⟩
  rfl
abbrev nm_least_worth : List Str := ["curve"]
theorem sc_least_worth : FnScope nm_least_worth ["curve"] (defScope s_least_worth) := ⟨rfl, rfl, rfl, by decide +kernel, rfl, by decide +kernel, by decide +kernel⟩
theorem k_least_worth (T : Txt K mg) : Kept P w K mg base "least_worth" ["curve"] [] 4 t_least_worth := by
  obtain ⟨fd, F⟩ := T.says.def_ 14 (d := d_least_worth) rfl
  refine kept_of (N := nm_least_worth) (body := defBody s_least_worth) (scope := defScope s_least_worth) (params := defArgs s_least_worth) F (g_least_worth T) sc_least_worth len_least_worth (fun _ _ _ _ _ _ us hl => match us, hl with | [_], _ => rfl) (fun cdv A outer s H E hr => ⟨_, _,
      (pbd_one (psd_ret (pd_call (k_worth T) (hr.mono (by decide)) (by rfl) (pda_cons (pdv 0) (pda_cons (pd_call (k_nearest_part T) (hr.mono (by decide)) (by rfl) (pda_cons (pdv 0) pda_nil)) pda_nil))))), ?_⟩)
  rintro ds k ⟨c, rfl, hc, hk⟩
  exact ⟨_, rfl, _, rfl, _, rfl, hc, _, _, rfl, hc, near_sz hc, hk⟩
def t_meeting_part : Tr := fun ds k => ∃ f l : Cv, ds = [cv f, cv l] ∧ Cz f ∧ Cz l ∧ k (ofr (meet f l))
theorem len_meeting_part : ∀ ds k, t_meeting_part ds k → ds.length = 2 := by
  rintro ds k ⟨_, _, rfl, _⟩
  rfl
abbrev nm_meeting_part : List Str := ["one", "other", "slope"]
theorem sc_meeting_part : FnScope nm_meeting_part ["one", "other"] (defScope s_meeting_part) := ⟨rfl, rfl, rfl, by decide +kernel, rfl, by decide +kernel, by decide +kernel⟩
theorem k_meeting_part (T : Txt K mg) : Kept P w K mg base "meeting_part" ["one", "other"] [] 3 t_meeting_part := by
  obtain ⟨fd, F⟩ := T.says.def_ 15 (d := d_meeting_part) rfl
  refine kept_of (N := nm_meeting_part) (body := defBody s_meeting_part) (scope := defScope s_meeting_part) (params := defArgs s_meeting_part) F (g_meeting_part T) sc_meeting_part len_meeting_part (fun _ _ _ _ _ _ us hl => match us, hl with | [_, _], _ => rfl) (fun cdv A outer s H E hr => ⟨_, _,
      (pbd_cons (psd_set (i := 2) sc_meeting_part.nd rfl (by first | exact .inl rfl | exact .inr rfl) (pd_op op_mulW r2_Ic pd_int (pd_op op_sub r2_I (pd_ixK (K := K) rfl (pdv 0) pd_int) (pd_ixK (K := K) rfl (pdv 1) pd_int))))
      (pbd_cons (psd_if (pdt_cmp (op_eqA hr.units) r2_eq (pdv 2) pd_int) (pbd_one (psd_ret pd_non)) pbd_nil)
      (pbd_one (psd_ret (pd_call (k_ratio2 T) (hr.mono (by decide)) (by rfl) (pda_cons (pd_op op_sub r2_I (pd_ixK (K := K) rfl (pdv 1) pd_int) (pd_ixK (K := K) rfl (pdv 0) pd_int)) (pda_cons (pdv 2) pda_nil))))))), ?_⟩)
  rintro ds k ⟨⟨a, b, d⟩, ⟨a2, b2, d2⟩, rfl, hf, hl, hk⟩
  have h2 : Sz 2 (2 : Int) := sz2 (by decide)
  refine ⟨_, rfl, _, _, _, rfl, rfl, rfl, _, rfl, _, _, _, rfl, rfl, rfl, _, _, rfl, rfl, _, _, rfl, rfl, mulok9 (h2.mono (by decide)) ((hf.2.1.sub hl.2.1).mono (by decide)), ?_⟩
  refine ⟨_, rfl, _, rfl, _, rfl, ?_⟩
  unfold meet at hk
  refine ite2 (fun h => ?_) (fun h => ?_)
  · have h' : 2 * (b - b2) = 0 := by simpa using h
    rw [if_pos h'] at hk
    exact hk
  · have h' : ¬ 2 * (b - b2) = 0 := by simpa using h
    rw [if_neg h'] at hk
    exact ⟨_, rfl, _, _, _, rfl, rfl, rfl, _, rfl, _, _, _, rfl, rfl, rfl, _, _, rfl, rfl, _, rfl, _, _, rfl, h', (meet_top hf hl).mono (by decide), (meet_bot hf hl).mono (by decide), hk⟩
def t_crossing : Tr := fun ds k => ∃ f l : Cv, ds = [cv f, cv l] ∧ Cz f ∧ Cz l ∧ k (ofr (crs f l))
theorem len_crossing : ∀ ds k, t_crossing ds k → ds.length = 2 := by
  rintro ds k ⟨_, _, rfl, _⟩
  rfl
abbrev nm_crossing : List Str := ["first", "later", "low", "high", "meeting"]
theorem sc_crossing : FnScope nm_crossing ["first", "later"] (defScope s_crossing) := ⟨rfl, rfl, rfl, by decide +kernel, rfl, by decide +kernel, by decide +kernel⟩
theorem k_crossing (T : Txt K mg) : Kept P w K mg base "crossing" ["first", "later"] [] 4 t_crossing := by
  obtain ⟨fd, F⟩ := T.says.def_ 16 (d := d_crossing) rfl
  refine kept_of (N := nm_crossing) (body := defBody s_crossing) (scope := defScope s_crossing) (params := defArgs s_crossing) F (g_crossing T) sc_crossing len_crossing (fun _ _ _ _ _ _ us hl => match us, hl with | [_, _], _ => rfl) (fun cdv A outer s H E hr => ⟨_, _,
      (pbd_cons (psd_set (i := 2) sc_crossing.nd rfl (by first | exact .inl rfl | exact .inr rfl) (pd_call (k_nearest_part T) (hr.mono (by decide)) (by rfl) (pda_cons (pdv 1) pda_nil)))
      (pbd_cons (psd_set (i := 3) sc_crossing.nd rfl (by first | exact .inl rfl | exact .inr rfl) (pd_call (k_nearest_part T) (hr.mono (by decide)) (by rfl) (pda_cons (pdv 0) pda_nil)))
      (pbd_cons (psd_if (pdt_not (pdt_val (pd_call (k_less T) (hr.mono (by decide)) (by rfl) (pda_cons (pdv 2) (pda_cons (pdv 3) pda_nil))))) (pbd_one (psd_ret pd_non)) pbd_nil)
      (pbd_cons (psd_set (i := 4) sc_crossing.nd rfl (by first | exact .inl rfl | exact .inr rfl) (pd_call (k_meeting_part T) (hr.mono (by decide)) (by rfl) (pda_cons (pdv 0) (pda_cons (pdv 1) pda_nil))))
      (pbd_cons (psd_if (pdw_or (pdt_cmp op_isN r2_isN (pdv 4) pd_non) (pdw_or (pdt_val (pd_call (k_less T) (hr.mono (by decide)) (by rfl) (pda_cons (pdv 4) (pda_cons (pdv 2) pda_nil)))) (pdw_or1 (pdt_val (pd_call (k_less T) (hr.mono (by decide)) (by rfl) (pda_cons (pdv 3) (pda_cons (pdv 4) pda_nil))))))).t (pbd_one (psd_ret pd_non)) pbd_nil)
      (pbd_one (psd_ret (pdv 4)))))))), ?_⟩)
  rintro ds k ⟨f, l, rfl, hf, hl, hk⟩
  have nf := (near_sz hf).mono (m := 4000) (by decide)
  have nl := (near_sz hl).mono (m := 4000) (by decide)
  refine ⟨_, rfl, _, rfl, hl, _, rfl, _, rfl, hf, ?_⟩
  refine ⟨_, rfl, _, rfl, _, _, rfl, nl, nf, _, rfl, ?_⟩
  unfold crs at hk
  refine ite2 (fun h => ?_) (fun h => ?_)
  · have h' : ¬ near l < near f := by simpa using h
    rw [if_neg h'] at hk
    exact hk
  have h' : near l < near f := by simpa using h
  rw [if_pos h'] at hk
  refine ⟨_, rfl, _, rfl, _, _, rfl, hf, hl, ?_⟩
  cases hm : meet f l with
  | none =>
    rw [hm] at hk
    exact ⟨_, rfl, rfl, _, rfl, iteT hk⟩
  | some m =>
    rw [hm] at hk
    have nm := (meet_sz hf hl hm).mono (m := 4000) (by decide)
    refine ⟨_, rfl, rfl, _, rfl, iteF ⟨_, rfl, _, rfl, _, _, rfl, nm, nl, _, rfl, ?_⟩⟩
    dsimp only at hk
    refine ite2 (fun h => ?_) (fun h => ?_)
    · have h1 : m < near l := by simpa using h
      rw [if_pos (.inl h1)] at hk
      exact iteT hk
    have h1 : ¬ m < near l := by simpa using h
    refine ⟨_, rfl, _, rfl, _, _, rfl, nf, nm, _, rfl, ?_⟩
    refine ite2 (fun h => ?_) (fun h => ?_)
    · have h2 : near f < m := by simpa using h
      rw [if_pos (.inr h2)] at hk
      exact hk
    · have h2 : ¬ near f < m := by simpa using h
      rw [if_neg (fun z => z.elim h1 h2)] at hk
      exact ⟨_, rfl, hk⟩
def t_greater : Tr := fun ds k => ∃ a b : Rat, ds = [fr a, fr b] ∧ Fz 4000 a ∧ Fz 4000 b ∧ k (fr (rmax a b))
theorem len_greater : ∀ ds k, t_greater ds k → ds.length = 2 := by
  rintro ds k ⟨_, _, rfl, _⟩
  rfl
abbrev nm_greater : List Str := ["a", "b"]
theorem sc_greater : FnScope nm_greater ["a", "b"] (defScope s_greater) := ⟨rfl, rfl, rfl, by decide +kernel, rfl, by decide +kernel, by decide +kernel⟩
theorem k_greater (T : Txt K mg) : Kept P w K mg base "greater" ["a", "b"] [] 2 t_greater := by
  obtain ⟨fd, F⟩ := T.says.def_ 18 (d := d_greater) rfl
  refine kept_of (N := nm_greater) (body := defBody s_greater) (scope := defScope s_greater) (params := defArgs s_greater) F (g_greater T) sc_greater len_greater (fun _ _ _ _ _ _ us hl => match us, hl with | [_, _], _ => rfl) (fun cdv A outer s H E hr => ⟨_, _,
      (pbd_cons (psd_if (pdt_val (pd_call (k_less T) (hr.mono (by decide)) (by rfl) (pda_cons (pdv 0) (pda_cons (pdv 1) pda_nil)))) (pbd_one (psd_ret (pdv 1))) pbd_nil)
      (pbd_one (psd_ret (pdv 0)))), ?_⟩)
  rintro ds k ⟨a, b, rfl, ha, hb, hk⟩
  unfold rmax at hk
  refine ⟨_, rfl, _, rfl, _, _, rfl, ha, hb, _, rfl, ?_⟩
  refine ite2 (fun h => ?_) (fun h => ?_)
  · have h' : a < b := by simpa using h
    rw [if_pos h'] at hk
    exact ⟨_, rfl, hk⟩
  · have h' : ¬ a < b := by simpa using h
    rw [if_neg h'] at hk
    exact ⟨_, rfl, hk⟩
def t_lesser : Tr := fun ds k => ∃ a b : Rat, ds = [fr a, fr b] ∧ Fz 4000 a ∧ Fz 4000 b ∧ k (fr (rmin a b))
theorem len_lesser : ∀ ds k, t_lesser ds k → ds.length = 2 := by
  rintro ds k ⟨_, _, rfl, _⟩
  rfl
abbrev nm_lesser : List Str := ["a", "b"]
theorem sc_lesser : FnScope nm_lesser ["a", "b"] (defScope s_lesser) := ⟨rfl, rfl, rfl, by decide +kernel, rfl, by decide +kernel, by decide +kernel⟩
theorem k_lesser (T : Txt K mg) : Kept P w K mg base "lesser" ["a", "b"] [] 2 t_lesser := by
  obtain ⟨fd, F⟩ := T.says.def_ 19 (d := d_lesser) rfl
  refine kept_of (N := nm_lesser) (body := defBody s_lesser) (scope := defScope s_lesser) (params := defArgs s_lesser) F (g_lesser T) sc_lesser len_lesser (fun _ _ _ _ _ _ us hl => match us, hl with | [_, _], _ => rfl) (fun cdv A outer s H E hr => ⟨_, _,
      (pbd_cons (psd_if (pdt_val (pd_call (k_less T) (hr.mono (by decide)) (by rfl) (pda_cons (pdv 1) (pda_cons (pdv 0) pda_nil)))) (pbd_one (psd_ret (pdv 1))) pbd_nil)
      (pbd_one (psd_ret (pdv 0)))), ?_⟩)
  rintro ds k ⟨a, b, rfl, ha, hb, hk⟩
  unfold rmin at hk
  refine ⟨_, rfl, _, rfl, _, _, rfl, hb, ha, _, rfl, ?_⟩
  refine ite2 (fun h => ?_) (fun h => ?_)
  · have h' : b < a := by simpa using h
    rw [if_pos h'] at hk
    exact ⟨_, rfl, hk⟩
  · have h' : ¬ b < a := by simpa using h
    rw [if_neg h'] at hk
    exact ⟨_, rfl, hk⟩
def t_barred : Tr := fun ds k => ∃ f l : Cv, ds = [cv f, cv l] ∧ Cz f ∧ Cz l ∧ k (.tup [fr (bar f l).1, fr (bar f l).2])
theorem len_barred : ∀ ds k, t_barred ds k → ds.length = 2 := by
  rintro ds k ⟨_, _, rfl, _⟩
  rfl
abbrev nm_barred : List Str := ["first", "later", "low", "high", "meeting"]
theorem sc_barred : FnScope nm_barred ["first", "later"] (defScope s_barred) := ⟨rfl, rfl, rfl, by decide +kernel, rfl, by decide +kernel, by decide +kernel⟩
theorem k_barred (T : Txt K mg) : Kept P w K mg base "barred" ["first", "later"] [] 5 t_barred := by
  obtain ⟨fd, F⟩ := T.says.def_ 17 (d := d_barred) rfl
  refine kept_of (N := nm_barred) (body := defBody s_barred) (scope := defScope s_barred) (params := defArgs s_barred) F (g_barred T) sc_barred len_barred (fun _ _ _ _ _ _ us hl => match us, hl with | [_, _], _ => rfl) (fun cdv A outer s H E hr => ⟨_, _,
      (pbd_cons (psd_set (i := 2) sc_barred.nd rfl (by first | exact .inl rfl | exact .inr rfl) (pd_call (k_nearest_part T) (hr.mono (by decide)) (by rfl) (pda_cons (pdv 1) pda_nil)))
      (pbd_cons (psd_set (i := 3) sc_barred.nd rfl (by first | exact .inl rfl | exact .inr rfl) (pd_call (k_nearest_part T) (hr.mono (by decide)) (by rfl) (pda_cons (pdv 0) pda_nil)))
      (pbd_cons (psd_if (pdt_not (pdt_val (pd_call (k_less T) (hr.mono (by decide)) (by rfl) (pda_cons (pdv 2) (pda_cons (pdv 3) pda_nil))))) (pbd_one (psd_ret (pd_tup (pda_cons (pdv 3) (pda_cons (pd_call (k_greater T) (hr.mono (by decide)) (by rfl) (pda_cons (pd_call (k_worth T) (hr.mono (by decide)) (by rfl) (pda_cons (pdv 0) (pda_cons (pdv 3) pda_nil))) (pda_cons (pd_call (k_worth T) (hr.mono (by decide)) (by rfl) (pda_cons (pdv 1) (pda_cons (pdv 2) pda_nil))) pda_nil))) pda_nil))))) pbd_nil)
      (pbd_cons (psd_set (i := 4) sc_barred.nd rfl (by first | exact .inl rfl | exact .inr rfl) (pd_call (k_crossing T) (hr.mono (by decide)) (by rfl) (pda_cons (pdv 0) (pda_cons (pdv 1) pda_nil))))
      (pbd_cons (psd_if (pdt_cmp op_notN r2_notN (pdv 4) pd_non) (pbd_one (psd_ret (pd_tup (pda_cons (pdv 4) (pda_cons (pd_call (k_worth T) (hr.mono (by decide)) (by rfl) (pda_cons (pdv 0) (pda_cons (pdv 4) pda_nil))) pda_nil))))) pbd_nil)
      (pbd_cons (psd_if (pdt_val (pd_call (k_less T) (hr.mono (by decide)) (by rfl) (pda_cons (pd_call (k_worth T) (hr.mono (by decide)) (by rfl) (pda_cons (pdv 1) (pda_cons (pdv 3) pda_nil))) (pda_cons (pd_call (k_worth T) (hr.mono (by decide)) (by rfl) (pda_cons (pdv 0) (pda_cons (pdv 3) pda_nil))) pda_nil)))) (pbd_one (psd_ret (pd_tup (pda_cons (pdv 3) (pda_cons (pd_call (k_worth T) (hr.mono (by decide)) (by rfl) (pda_cons (pdv 0) (pda_cons (pdv 3) pda_nil))) pda_nil))))) pbd_nil)
      (pbd_one (psd_ret (pd_tup (pda_cons (pdv 2) (pda_cons (pd_call (k_worth T) (hr.mono (by decide)) (by rfl) (pda_cons (pdv 1) (pda_cons (pdv 2) pda_nil))) pda_nil))))))))))), ?_⟩)
  rintro ds k ⟨f, l, rfl, hf, hl, hk⟩
  have nf := (near_sz hf).mono (m := 4000) (by decide)
  have nl := (near_sz hl).mono (m := 4000) (by decide)
  have wff := (wv_sz hf (near_sz hf)).mono (m := 4000) (by decide)
  have wll := (wv_sz hl (near_sz hl)).mono (m := 4000) (by decide)
  have wlf := (wv_sz hl (near_sz hf)).mono (m := 4000) (by decide)
  refine ⟨_, rfl, _, rfl, hl, _, rfl, _, rfl, hf, ?_⟩
  refine ⟨_, rfl, _, rfl, _, _, rfl, nl, nf, _, rfl, ?_⟩
  unfold bar at hk
  refine ite2 (fun h => ?_) (fun h => ?_)
  · have h' : ¬ near l < near f := by simpa using h
    rw [if_neg h'] at hk
    exact ⟨_, rfl, _, rfl, _, rfl, _, _, rfl, hf, near_sz hf, _, rfl, _, rfl, _, _, rfl, hl, near_sz hl, _, _, rfl, wff, wll, tl2, hk⟩
  have h' : near l < near f := by simpa using h
  rw [if_pos h'] at hk
  refine ⟨_, rfl, _, rfl, _, _, rfl, hf, hl, _, rfl, rfl, _, rfl, ?_⟩
  cases hm : crs f l with
  | some m =>
    rw [hm] at hk
    exact iteT ⟨_, rfl, _, rfl, _, rfl, _, _, rfl, hf, crs_sz hf hl hm, tl2, hk⟩
  | none =>
    rw [hm] at hk
    dsimp only at hk
    refine iteF ⟨_, rfl, _, rfl, _, _, rfl, hl, near_sz hf, _, rfl, _, rfl, _, _, rfl, hf, near_sz hf, _, _, rfl, wlf, wff, _, rfl, ?_⟩
    refine ite2 (fun h => ?_) (fun h => ?_)
    · have h2 : wv l (near f) < wv f (near f) := by simpa using h
      rw [if_pos h2] at hk
      exact ⟨_, rfl, _, rfl, _, rfl, _, _, rfl, hf, near_sz hf, tl2, hk⟩
    · have h2 : ¬ wv l (near f) < wv f (near f) := by simpa using h
      rw [if_neg h2] at hk
      exact ⟨_, rfl, _, rfl, _, rfl, _, _, rfl, hl, near_sz hl, tl2, hk⟩
end
end G
namespace G
open PySem PySem.Spec PyProof.Rows L2 DL M
section
variable {P : Program} {w : World} {K : PySem.W.Frag} {mg : Str → Option Value} {base : Heap}
def t_look_at_square : Tr := fun ds k => ∃ q : Rat, ds = [fr q] ∧ 0 ≤ q ∧ k .non
theorem len_look_at_square : ∀ ds k, t_look_at_square ds k → ds.length = 1 := by
  rintro ds k ⟨_, rfl, _⟩
  rfl
abbrev nm_look_at_square : List Str := ["square"]
theorem sc_look_at_square : FnScope nm_look_at_square ["square"] (defScope s_look_at_square) := ⟨rfl, rfl, rfl, by decide +kernel, rfl, by decide +kernel, by decide +kernel⟩
theorem k_look_at_square (T : Txt K mg) : Kept P w K mg base "look_at_square" ["square"] [] 3 t_look_at_square := by
  obtain ⟨fd, F⟩ := T.says.def_ 20 (d := d_look_at_square) rfl
  refine kept_of (N := nm_look_at_square) (body := defBody s_look_at_square) (scope := defScope s_look_at_square) (params := defArgs s_look_at_square) F (g_look_at_square T) sc_look_at_square len_look_at_square (fun _ _ _ _ _ _ us hl => match us, hl with | [_], _ => rfl) (fun cdv A outer s H E hr => ⟨_, _,
      (pbd_one (psd_if (pdw_or (pdt_not (pdt_val (pd_call (k_is_ratio T) (hr.mono (by decide)) (by rfl) (pda_cons (pdv 0) pda_nil)))) (pdw_or1 (pdt_cmp op_lt r2_B (pd_ixK (K := K) rfl (pdv 0) pd_int) pd_int))).t (pbd_one psd_never) pbd_nil)), ?_⟩)
  rintro ds k ⟨q, rfl, hq, hk⟩
  refine ⟨_, rfl, _, rfl, true, rfl, ?_⟩
  refine iteF ⟨_, rfl, _, _, _, rfl, rfl, rfl, _, _, rfl, rfl, _, rfl, ?_⟩
  refine ite2 (fun h => ?_) (fun _ => hk)
  have h1 : q.num < 0 := by simpa using h
  have h2 := Rat.num_nonneg.mpr hq
  omega
def t_last_of : Tr := fun ds k => ∃ xs : List Dat, ds = [.lst xs] ∧ k (.int ((xs.length : Int) - 1))
theorem len_last_of : ∀ ds k, t_last_of ds k → ds.length = 1 := by
  rintro ds k ⟨_, rfl, _⟩
  rfl
abbrev nm_last_of : List Str := ["line"]
theorem sc_last_of : FnScope nm_last_of ["line"] (defScope s_last_of) := ⟨rfl, rfl, rfl, by decide +kernel, rfl, by decide +kernel, by decide +kernel⟩
theorem k_last_of (T : Txt K mg) : Kept P w K mg base "last_of" ["line"] [] 1 t_last_of := by
  obtain ⟨fd, F⟩ := T.says.def_ 21 (d := d_last_of) rfl
  refine kept_of (N := nm_last_of) (body := defBody s_last_of) (scope := defScope s_last_of) (params := defArgs s_last_of) F (g_last_of T) sc_last_of len_last_of (fun _ _ _ _ _ _ us hl => match us, hl with | [_], _ => rfl) (fun cdv A outer s H E hr => ⟨_, _,
      (pbd_one (psd_ret (pd_op op_sub r2_I (pd_bi call_len_seq rc_len (by rfl) (f_len T) PySem.boot_len (pda_cons (pdv 0) pda_nil)) pd_int))), ?_⟩)
  rintro ds k ⟨xs, rfl, hk⟩
  exact ⟨_, rfl, _, .inl rfl, _, _, rfl, rfl, hk⟩
def t_place_of : Tr := fun ds k => ∃ (i : Int) (t : Rat), ds = [.int i, fr t] ∧ Sz 3000 i ∧ Fz 3000 t ∧ k (fr ((i : Rat) + t))
theorem len_place_of : ∀ ds k, t_place_of ds k → ds.length = 2 := by
  rintro ds k ⟨_, _, rfl, _⟩
  rfl
abbrev nm_place_of : List Str := ["whole", "part"]
theorem sc_place_of : FnScope nm_place_of ["whole", "part"] (defScope s_place_of) := ⟨rfl, rfl, rfl, by decide +kernel, rfl, by decide +kernel, by decide +kernel⟩
theorem k_place_of (T : Txt K mg) : Kept P w K mg base "place_of" ["whole", "part"] [] 4 t_place_of := by
  obtain ⟨fd, F⟩ := T.says.def_ 48 (d := d_place_of) rfl
  refine kept_of (N := nm_place_of) (body := defBody s_place_of) (scope := defScope s_place_of) (params := defArgs s_place_of) F (g_place_of T) sc_place_of len_place_of (fun _ _ _ _ _ _ us hl => match us, hl with | [_, _], _ => rfl) (fun cdv A outer s H E hr => ⟨_, _,
      (pbd_one (psd_ret (pd_call (k_plus T) (hr.mono (by decide)) (by rfl) (pda_cons (pd_call (k_ratio1 T) (hr.mono (by decide)) (by rfl) (pda_cons (pdv 0) pda_nil)) (pda_cons (pdv 1) pda_nil))))), ?_⟩)
  rintro ds k ⟨i, t, rfl, hi, ht, hk⟩
  refine ⟨_, rfl, _, _, rfl, by decide, hi.mono (by decide), sz1 (by decide), ?_⟩
  rw [divInt_one]
  exact ⟨_, rfl, _, _, rfl, Fz.ofInt (hi.mono (by decide)) (by decide), ht.mono (by decide), hk⟩
theorem getv {f : Cv → Dat} {l : List Cv} {i : Nat} {d : Dat} (h : (l.map f)[i]? = some d) : ∃ c, l[i]? = some c ∧ d = f c := by
  rw [List.getElem?_map] at h
  cases e : l[i]? with
  | none => rw [e] at h; cases h
  | some c => rw [e] at h; cases h; exact ⟨c, rfl, rfl⟩
theorem getm {α : Type} {f : α → Dat} {l : List α} {i : Nat} {d : Dat} (h : (l.map f)[i]? = some d) : ∃ c, l[i]? = some c ∧ d = f c := by
  rw [List.getElem?_map] at h
  cases e : l[i]? with
  | none => rw [e] at h; cases h
  | some c => rw [e] at h; cases h; exact ⟨c, rfl, rfl⟩
theorem take_all {α : Type} {p : α → Bool} {l : List α} {i : Nat} {c : α} (h : l[i]? = some c) (g : (l.take i).all p = true) (hc : p c = true) : (l.take (i + 1)).all p = true := by
  rw [List.take_add_one, h, List.all_append, g]
  simp [hc]
theorem all_of {α : Type} {p : α → Bool} {l : List α} {i : Nat} {c : α} (h : l[i]? = some c) (hc : p c = false) : l.all p = false := by
  cases e : l.all p with
  | false => rfl
  | true =>
    have := List.all_eq_true.mp e c (List.mem_of_getElem? h)
    rw [hc] at this
    cases this
def t_lets_by : Tr := fun ds k => ∃ (cs : List Cv) (c : Cv) (s : Rat), ds = [.lst ((cs ++ [c]).map cv), fr s] ∧ (∀ x ∈ cs ++ [c], Cz x) ∧ Fz 4000 s ∧ k (.bl ((cs ++ [c]).all fun x => !decide (s < (bar x c).2)))
theorem len_lets_by : ∀ ds k, t_lets_by ds k → ds.length = 2 := by
  rintro ds k ⟨_, _, _, rfl, _⟩
  rfl
abbrev nm_lets_by : List Str := ["run", "square", "last", "curve"]
theorem sc_lets_by : FnScope nm_lets_by ["run", "square"] (defScope s_lets_by) := ⟨rfl, rfl, rfl, by decide +kernel, rfl, by decide +kernel, by decide +kernel⟩
theorem k_lets_by (T : Txt K mg) : Kept P w K mg base "lets_by" ["run", "square"] [] 6 t_lets_by := by
  obtain ⟨fd, F⟩ := T.says.def_ 46 (d := d_lets_by) rfl
  refine kept_of (N := nm_lets_by) (body := defBody s_lets_by) (scope := defScope s_lets_by) (params := defArgs s_lets_by) F (g_lets_by T) sc_lets_by len_lets_by (fun _ _ _ _ _ _ us hl => match us, hl with | [_, _], _ => rfl) (fun cdv A outer s H E hr => ⟨_, _,
      (pbd_cons (psd_set (i := 2) sc_lets_by.nd rfl (by first | exact .inl rfl | exact .inr rfl) (pd_ixK (K := K) rfl (pdv 0) (pd_un un_neg ru_I pd_int)))
      (pbd_cons (psd_for PassesOwn.never rfl (pid_list (pdv 0)) (pgd_name (i := 3) sc_lets_by.nd rfl (by first | exact .inl rfl | exact .inr rfl))
      (pbd_one (psd_if (pdt_val (pd_call (k_less T) (hr.mono (by decide)) (by rfl) (pda_cons (pdv 1) (pda_cons (pd_ixK (K := K) rfl (pd_call (k_barred T) (hr.mono (by decide)) (by rfl) (pda_cons (pdv 3) (pda_cons (pdv 2) pda_nil))) pd_int) pda_nil)))) (pbd_one (psd_ret pd_bl)) pbd_nil)))
      (pbd_one (psd_ret pd_bl)))), ?_⟩)
  rintro ds k ⟨cs, c, s, rfl, hz, hs, hk⟩
  refine ⟨_, rfl, _, rfl, _, _, _, rfl, rfl, by rw [List.map_append]; exact atI_last _ _, ?_⟩
  refine ⟨_, rfl, _, rfl, fun i ρ => ∃ x, ρ = [some (.sh (.lst ((cs ++ [c]).map cv))), some (.sh (fr s)), some (.sh (cv c)), x] ∧ ((cs ++ [c]).take i).all (fun x => !decide (s < (bar x c).2)) = true, ⟨_, rfl, rfl⟩, ?_, ?_⟩
  · rintro i d ρ hi ⟨x, rfl, ha⟩
    obtain ⟨e, he, rfl⟩ := getm hi
    have hm := List.mem_of_getElem? he
    refine ⟨_, rfl, _, rfl, _, rfl, _, _, rfl, hz _ hm, hz c (by simp), _, _, _, rfl, rfl, rfl, _, _, rfl, hs, (bar_sz (hz _ hm) (hz c (by simp))).2.mono (by decide), _, rfl, ?_⟩
    refine ite2 (fun h => ?_) (fun h => ?_)
    · have h' : (!decide (s < (bar e c).2)) = false := by simpa using h
      rw [all_of he h'] at hk
      exact hk
    · have h' : (!decide (s < (bar e c).2)) = true := by simpa using h
      exact ⟨_, rfl, take_all he ha h'⟩
  · rintro ρ ⟨x, rfl, ha⟩
    rw [List.length_map, List.take_length] at ha
    rw [ha] at hk
    exact hk
def t_parts_of : Tr := fun ds k => ∃ cs : List Cv, ds = [.lst (cs.map cv)] ∧ (∀ x ∈ cs, Cz x) ∧ cs.length ≤ 1000 ∧ ∀ ps : List Rat, ps.length = cs.length → (∀ p ∈ ps, Fz 140 p) → k (.lst (ps.map fr))
theorem len_parts_of : ∀ ds k, t_parts_of ds k → ds.length = 1 := by
  rintro ds k ⟨_, rfl, _⟩
  rfl
abbrev nm_parts_of : List Str := ["run", "found", "at", "best", "k", "low", "later"]
theorem sc_parts_of : FnScope nm_parts_of ["run"] (defScope s_parts_of) := ⟨rfl, rfl, rfl, by decide +kernel, rfl, by decide +kernel, by decide +kernel⟩
theorem k_parts_of (T : Txt K mg) : Kept P w K mg base "parts_of" ["run"] [] 6 t_parts_of := by
  obtain ⟨fd, F⟩ := T.says.def_ 47 (d := d_parts_of) rfl
  refine kept_of (N := nm_parts_of) (body := defBody s_parts_of) (scope := defScope s_parts_of) (params := defArgs s_parts_of) F (g_parts_of T) sc_parts_of len_parts_of (fun _ _ _ _ _ _ us hl => match us, hl with | [_], _ => rfl) (fun cdv A outer s H E hr => ⟨_, _,
      (pbd_cons (psd_own (i := 1) sc_parts_of.nd rfl (by first | exact .inl rfl | exact .inr rfl) (pl_lst pda_nil))
      (pbd_cons (psd_for PassesOwn.never rfl (pid_range1 (by rfl) (f_range T) (pda_cons (pd_bi call_len_seq rc_len (by rfl) (f_len T) PySem.boot_len (pda_cons (pdv 0) pda_nil)) pda_nil)) (pgd_name (i := 2) sc_parts_of.nd rfl (by first | exact .inl rfl | exact .inr rfl))
      (pbd_cons (psd_set (i := 3) sc_parts_of.nd rfl (by first | exact .inl rfl | exact .inr rfl) (pd_tup (pda_cons pd_int (pda_cons pd_int pda_nil))))
      (pbd_cons (psd_for PassesOwn.never rfl (pid_range1 (by rfl) (f_range T) (pda_cons (pd_op op_add r2_I (pdv 2) pd_int) pda_nil)) (pgd_name (i := 4) sc_parts_of.nd rfl (by first | exact .inl rfl | exact .inr rfl))
      (pbd_cons (psd_set (i := 5) sc_parts_of.nd rfl (by first | exact .inl rfl | exact .inr rfl) (pd_tup (pda_cons pd_int (pda_cons pd_int pda_nil))))
      (pbd_cons (psd_for PassesOwn.never rfl (pid_list (pd_sh (pl_slice (pdv 0) (pdo_some (pdv 2)) pdo_none))) (pgd_name (i := 6) sc_parts_of.nd rfl (by first | exact .inl rfl | exact .inr rfl))
      (pbd_one (psd_set (i := 5) sc_parts_of.nd rfl (by first | exact .inl rfl | exact .inr rfl) (pd_call (k_lesser T) (hr.mono (by decide)) (by rfl) (pda_cons (pdv 5) (pda_cons (pd_ixK (K := K) rfl (pd_call (k_barred T) (hr.mono (by decide)) (by rfl) (pda_cons (pd_ixK (K := K) rfl (pdv 0) (pdv 4)) (pda_cons (pdv 6) pda_nil))) pd_int) pda_nil))))))
      (pbd_one (psd_set (i := 3) sc_parts_of.nd rfl (by first | exact .inl rfl | exact .inr rfl) (pd_call (k_greater T) (hr.mono (by decide)) (by rfl) (pda_cons (pdv 3) (pda_cons (pdv 5) pda_nil))))))))
      (pbd_one (let ae := (pdv 3); psd_app (i := 1) rfl (by first | exact .inl rfl | exact .inr (.inl rfl)) ae (pe_bm PySem.F.plainAttrs_list PySem.F.slot_list_append PySem.F.type_list_append mt_append (pv 1) (pa_cons ae.run pa_nil)))))))
      (pbd_one (psd_frz 1 (psd_ret (pdv 1)))))), ?_⟩)
  rintro ds k ⟨cs, rfl, hz, hl, hk⟩
  refine ⟨by decide, ?_⟩
  refine ⟨_, rfl, _, .inl rfl, _, rfl, len62 (by rw [List.length_map]; omega), fun i ρ => ∃ (ps : List Rat) (a b c d e : Option Slot), ρ = [some (.sh (.lst (cs.map cv))), some (.ol (ps.map fr)), a, b, c, d, e] ∧ ps.length = i ∧ ∀ p ∈ ps, Fz 140 p, ⟨[], _, _, _, _, _, rfl, rfl, by simp⟩, ?_, ?_⟩
  · rintro i d ρ hi ⟨ps, a, b, c, d, e, rfl, rfl, hp⟩
    obtain ⟨h1, rfl⟩ := rng0_get hi
    have h2 : ps.length < cs.length := by simpa using h1
    refine ⟨tl2, ?_⟩
    refine ⟨_, rfl, _, _, rfl, rfl, _, rfl, ⟨by omega, by omega⟩, fun j ρ => ∃ (q : Rat) (c d e : Option Slot), ρ = [some (.sh (.lst (cs.map cv))), some (.ol (ps.map fr)), some (.sh (.int (ps.length : Int))), some (.sh (fr q)), c, d, e] ∧ Fz 140 q, ⟨0, _, _, _, rfl, fz0 (by decide)⟩, ?_, ?_⟩
    · rintro j d ρ hj ⟨q, c, d, e, rfl, hq⟩
      obtain ⟨h3, rfl⟩ := rng0_get hj
      have hj : j < cs.length := by omega
      refine ⟨tl2, ?_⟩
      refine ⟨_, rfl, _, rfl, _, rfl, _, rfl, _, rfl, fun m ρ => ∃ (r : Rat) (e : Option Slot), ρ = [some (.sh (.lst (cs.map cv))), some (.ol (ps.map fr)), some (.sh (.int (ps.length : Int))), some (.sh (fr q)), some (.sh (.int (j : Int))), some (.sh (fr r)), e] ∧ Fz 140 r, ⟨1, _, rfl, fz1 (by decide)⟩, ?_, ?_⟩
      · rintro m d ρ hm ⟨r, e, rfl, hr⟩
        rw [cut_from, ← List.map_drop] at hm
        obtain ⟨x, hx, rfl⟩ := getm hm
        have hx : Cz x := hz x (List.mem_of_mem_drop (List.mem_of_getElem? hx))
        have hj' : cs[j]? = some cs[j] := List.getElem?_eq_getElem hj
        have hy : Cz cs[j] := hz _ (List.getElem_mem hj)
        exact ⟨_, rfl, _, rfl, _, rfl, _, _, _, rfl, rfl, atm hj', _, rfl, _, _, rfl, hy, hx, _, _, _, rfl, rfl, rfl, _, _, rfl, hr.mono (by decide), (bar_sz hy hx).1.mono (by decide), _, _, rfl, rmin_sz hr (bar_sz hy hx).1⟩
      · rintro ρ ⟨r, e, rfl, hr⟩
        exact ⟨_, rfl, _, rfl, _, _, rfl, hq.mono (by decide), hr.mono (by decide), _, _, _, _, rfl, rmax_sz hq hr⟩
    · rintro ρ ⟨q, c, d, e, rfl, hq⟩
      refine ⟨_, rfl, by rw [List.length_map]; omega, _, rfl, ps ++ [q], _, _, _, _, _, by rw [List.map_append]; rfl, by simp, ?_⟩
      intro p hm
      rcases List.mem_append.mp hm with h | h
      · exact hp p h
      · rw [List.mem_singleton.mp h]
        exact hq
  · rintro ρ ⟨ps, a, b, c, d, e, rfl, hl2, hp⟩
    refine .inl ⟨_, rfl, _, rfl, hk ps ?_ hp⟩
    rw [hl2, rng_len, List.length_map]
    rfl
end
end G
/-! Lines, their tables of curves. -/
namespace M
def stl (l : List Pt) : List Pt := if l.length = 1 then [l.headD (0, 0), l.headD (0, 0)] else l
def gp (l : List Pt) (i : Nat) : Pt := l.getD i (0, 0)
def Lz (l : List Pt) : Prop := l ≠ [] ∧ l.length ≤ 20 ∧ ∀ p ∈ l, Pz p
theorem gp_get {l : List Pt} {i : Nat} (h : i < l.length) : l[i]? = some (gp l i) := by
  unfold gp
  rw [List.getD_eq_getElem?_getD, List.getElem?_eq_getElem h]
  rfl
theorem gp_mem {l : List Pt} {i : Nat} (h : i < l.length) : gp l i ∈ l := List.mem_of_getElem? (gp_get h)
theorem stl_len {l : List Pt} (h : Lz l) : 2 ≤ (stl l).length ∧ (stl l).length ≤ 20 := by
  obtain ⟨h1, h2, _⟩ := h
  unfold stl
  split
  · simp
  · have : l.length ≠ 0 := fun z => h1 (List.length_eq_zero_iff.mp z)
    omega
theorem stl_pz {l : List Pt} (h : Lz l) : ∀ p ∈ stl l, Pz p := by
  obtain ⟨h1, h2, h3⟩ := h
  unfold stl
  split
  · rename_i h4
    match l, h4 with
    | [p], _ =>
      intro q hq
      have : q = p := by simpa using hq
      rw [this]
      exact h3 p (by simp)
  · exact h3
/-- the curve of the corner i of P along the stretch k of Q -/
def cq (P Q : List Pt) (i k : Nat) : Cv := crv (gp P i) (gp Q k) (gp Q (k + 1))
def cvs (P Q : List Pt) : List (List Cv) := (List.range P.length).map fun i => (List.range (Q.length - 1)).map fun k => cq P Q i k
theorem cq_sz {P Q : List Pt} {i k : Nat} (hP : ∀ p ∈ P, Pz p) (hQ : ∀ p ∈ Q, Pz p) (hi : i < P.length) (hk : k + 1 < Q.length) : Cz (cq P Q i k) :=
  crv_sz (hP _ (gp_mem hi)) (hQ _ (gp_mem (by omega))) (hQ _ (gp_mem hk))
end M
namespace G
open PySem PySem.Spec PyProof.Rows L2 DL M
section
variable {P : Program} {w : World} {K : PySem.W.Frag} {mg : Str → Option Value} {base : Heap}
def rowsD (r : List (List Cv)) : Dat := .lst (r.map fun l => .lst (l.map cv))
def cN : List Str := ["wide", "high", "here", "there", "alone", "upright", "level"]
def cellsD (C : Addr) (one other : List Pt) : Dat := .obj C cN [.int (((stl one).length : Int) - 1), .int (((stl other).length : Int) - 1), ln (stl one), ln (stl other), .tup [.bl (decide (one.length = 1)), .bl (decide (other.length = 1))], rowsD (cvs (stl one) (stl other)), rowsD (cvs (stl other) (stl one))]
theorem ite_stl (l : List Pt) : (if l.length = 1 then [l.headD (0, 0), l.headD (0, 0)] else l) = stl l := rfl
theorem acc_succ {α : Type} {f : Nat → α} (i : Nat) : (List.range i).map f ++ [f i] = (List.range (i + 1)).map f := by
  rw [List.range_succ, List.map_append]
  rfl
def rowAcc (P Q : List Pt) (n : Nat) : List Dat := (List.range n).map fun i => Dat.lst ((List.range (Q.length - 1)).map fun k => cv (cq P Q i k))
theorem rows_acc (P Q : List Pt) : rowsD (cvs P Q) = .lst (rowAcc P Q P.length) := by
  unfold rowsD cvs rowAcc
  rw [List.map_map]
  congr 2
  funext i
  simp [List.map_map]
theorem rowAcc_succ (P Q : List Pt) (i : Nat) : rowAcc P Q i ++ [Dat.lst ((List.range (Q.length - 1)).map fun k => cv (cq P Q i k))] = rowAcc P Q (i + 1) := acc_succ i
theorem rowAcc_len (P Q : List Pt) (i : Nat) : (rowAcc P Q i).length = i := by simp [rowAcc]
def t_Cells_init (C : Addr) : Tr := fun ds k => ∃ one other : List Pt, ds = [ln one, ln other] ∧ Lz one ∧ Lz other ∧ k (cellsD C one other)
theorem len_Cells_init {C : Addr} : ∀ ds k, t_Cells_init C ds k → ds.length = 2 := by
  rintro ds k ⟨_, _, rfl, _⟩
  rfl
abbrev nm_Cells_init : List Str := ["self", "one", "other", "here", "there", "corner", "k", "$upright", "$level"]
theorem sc_Cells_init : FnScope nm_Cells_init ["self", "one", "other"] (defScope s_Cells_init) := ⟨rfl, rfl, rfl, by decide +kernel, rfl, by decide +kernel, by decide +kernel⟩
theorem gh_Cells_init_upright : (defScope s_Cells_init).names.lookup ("$upright" : Str) = none := by decide +kernel
theorem gh_Cells_init_level : (defScope s_Cells_init).names.lookup ("$level" : Str) = none := by decide +kernel
theorem mk_Cells (T : Txt K mg) : KeptC P w K mg base "Cells" (He.ga K "Cells") ["self", "one", "other"] 2 (t_Cells_init (He.ga K "Cells")) := by
  obtain ⟨fd, F⟩ := T.says.def_ 41 (d := d_Cells_init) rfl
  refine ⟨g_Cells T, _, fd, r_Cells T, init_ok (N := nm_Cells_init) (body := defBody s_Cells_init) (scope := defScope s_Cells_init) (params := defArgs s_Cells_init) (x := "__init__") (qual := "Cells.__init__") F sc_Cells_init (fun ds k h => by rw [len_Cells_init ds k h]; rfl) (fun ds k h => by rw [len_Cells_init ds k h]; decide) (fun cdv A outer s H E hr => ⟨_, _,
      (pbd_cons (psd_set (i := 3) sc_Cells_init.nd rfl (by first | exact .inl rfl | exact .inr rfl) (pd_call (k_stretched T) (hr.mono (by decide)) (by rfl) (pda_cons (pdv 1) pda_nil)))
      (pbd_cons (psd_set (i := 4) sc_Cells_init.nd rfl (by first | exact .inl rfl | exact .inr rfl) (pd_call (k_stretched T) (hr.mono (by decide)) (by rfl) (pda_cons (pdv 2) pda_nil)))
      (pbd_cons (psd_fldO (pv 0) (c_Cells T) (n_Cells_wide T) (pd_op op_sub r2_I (pd_bi call_len_seq rc_len (by rfl) (f_len T) PySem.boot_len (pda_cons (pdv 3) pda_nil)) pd_int))
      (pbd_cons (psd_fldO (pv 0) (c_Cells T) (n_Cells_high T) (pd_op op_sub r2_I (pd_bi call_len_seq rc_len (by rfl) (f_len T) PySem.boot_len (pda_cons (pdv 4) pda_nil)) pd_int))
      (pbd_cons (psd_fldO (pv 0) (c_Cells T) (n_Cells_here T) (pdv 3))
      (pbd_cons (psd_fldO (pv 0) (c_Cells T) (n_Cells_there T) (pdv 4))
      (pbd_cons (psd_fldO (pv 0) (c_Cells T) (n_Cells_alone T) (pd_tup (pda_cons (pd_cmp (op_eqA hr.units) r2_eq (pd_bi call_len_seq rc_len (by rfl) (f_len T) PySem.boot_len (pda_cons (pdv 1) pda_nil)) pd_int) (pda_cons (pd_cmp (op_eqA hr.units) r2_eq (pd_bi call_len_seq rc_len (by rfl) (f_len T) PySem.boot_len (pda_cons (pdv 2) pda_nil)) pd_int) pda_nil))))
      (pbd_cons (psd_fldL (g := 7) (pv 0) (c_Cells T) (n_Cells_upright T) (by intro x h; cases h; exact noVis gh_Cells_init_upright))
      (pbd_cons (psd_for PassesOwn.never rfl (pid_list (pdv 3)) (pgd_name (i := 5) sc_Cells_init.nd rfl (by first | exact .inl rfl | exact .inr rfl))
      (pbd_one (let ae := (pd_sh (pl_lc (own := [("k", 6)]) rfl sc_Cells_init.nd (pid_range1 (by rfl) (f_range T) (pda_cons (pd_fldO (pv 0) (c_Cells T) (n_Cells_high T)) pda_nil)) (blkOk_by (N := nm_Cells_init) (sc := defScope s_Cells_init) (by decide +kernel)) (fun _ _ _ _ _ => (pgd_name (i := 6) sc_Cells_init.nd rfl (by first | exact .inl rfl | exact .inr rfl))) (fun _ _ _ _ _ => pdts_nil) (fun _ _ _ _ _ => (pd_call (k_curve_of T) (hr.mono (by decide)) (by rfl) (pda_cons (pdv 5) (pda_cons (pd_ixK (K := K) rfl (pdv 4) (pdv 6)) (pda_cons (pd_ixK (K := K) rfl (pdv 4) (pd_op op_add r2_I (pdv 6) pd_int)) pda_nil))))))); psd_appF (i := 0) (g := 7) (pv 0) (c_Cells T) (n_Cells_upright T) ae (pe_bm PySem.F.plainAttrs_list PySem.F.slot_list_append PySem.F.type_list_append mt_append (pe_fld (pv 0) rfl) (pa_cons ae.run pa_nil)))))
      (pbd_cons (psd_fldL (g := 8) (pv 0) (c_Cells T) (n_Cells_level T) (by intro x h; cases h; exact noVis gh_Cells_init_level))
      (pbd_one (psd_for PassesOwn.never rfl (pid_list (pdv 4)) (pgd_name (i := 5) sc_Cells_init.nd rfl (by first | exact .inl rfl | exact .inr rfl))
      (pbd_one (let ae := (pd_sh (pl_lc (own := [("k", 6)]) rfl sc_Cells_init.nd (pid_range1 (by rfl) (f_range T) (pda_cons (pd_fldO (pv 0) (c_Cells T) (n_Cells_wide T)) pda_nil)) (blkOk_by (N := nm_Cells_init) (sc := defScope s_Cells_init) (by decide +kernel)) (fun _ _ _ _ _ => (pgd_name (i := 6) sc_Cells_init.nd rfl (by first | exact .inl rfl | exact .inr rfl))) (fun _ _ _ _ _ => pdts_nil) (fun _ _ _ _ _ => (pd_call (k_curve_of T) (hr.mono (by decide)) (by rfl) (pda_cons (pdv 5) (pda_cons (pd_ixK (K := K) rfl (pdv 3) (pdv 6)) (pda_cons (pd_ixK (K := K) rfl (pdv 3) (pd_op op_add r2_I (pdv 6) pd_int)) pda_nil))))))); psd_appF (i := 0) (g := 8) (pv 0) (c_Cells T) (n_Cells_level T) ae (pe_bm PySem.F.plainAttrs_list PySem.F.slot_list_append PySem.F.type_list_append mt_append (pe_fld (pv 0) rfl) (pa_cons ae.run pa_nil)))))))))))))))), ?_⟩), FunD.bindsN (x := "__init__") (qual := "Cells.__init__") (params := defArgs s_Cells_init) (body := defBody s_Cells_init) (scope := defScope s_Cells_init) F (fun _ _ _ _ _ _ us hl => match us, hl with | [_, _, _], _ => rfl)⟩
  rintro x ds kk ⟨one, other, rfl, h1, h2, hk⟩
  obtain ⟨l1, u1⟩ := stl_len h1
  obtain ⟨l2, u2⟩ := stl_len h2
  have z1 := stl_pz h1
  have z2 := stl_pz h2
  refine ⟨_, rfl, one, rfl, h1.1, ?_⟩
  rw [ite_stl]
  refine ⟨_, rfl, other, rfl, h2.1, ?_⟩
  rw [ite_stl]
  refine ⟨_, _, _, rfl, by decide +kernel, by decide, _, rfl, _, .inl rfl, _, _, rfl, rfl, ?_⟩
  refine ⟨_, _, _, rfl, by decide +kernel, by decide, _, rfl, _, .inl rfl, _, _, rfl, rfl, ?_⟩
  refine ⟨_, _, _, rfl, by decide +kernel, by decide, _, rfl, ?_⟩
  refine ⟨_, _, _, rfl, by decide +kernel, by decide, _, rfl, ?_⟩
  refine ⟨_, _, _, rfl, by decide +kernel, by decide, _, rfl, _, .inl rfl, _, rfl, _, rfl, _, .inl rfl, _, rfl, tl2, ?_⟩
  refine ⟨_, _, _, rfl, by decide +kernel, by decide, by decide, fun l => ?_⟩
  refine ⟨_, rfl, _, rfl, fun i ρ => ∃ c kx, ρ = [some (.oi x _ ["wide", "high", "here", "there", "alone", "upright"] [.int ((((stl one).map pt).length : Int) - 1), .int ((((stl other).map pt).length : Int) - 1), ln (stl one), ln (stl other), .tup [.bl (false ^^ decide (((one.map pt).length : Int) = 1)), .bl (false ^^ decide (((other.map pt).length : Int) = 1))], .at_ l]),
    some (.sh (ln one)), some (.sh (ln other)), some (.sh (ln (stl one))), some (.sh (ln (stl other))), c, kx, some (.la l (rowAcc (stl one) (stl other) i)), none], ⟨none, none, rfl⟩, ?_, ?_⟩
  · rintro i d ρ hi ⟨c, kx, rfl⟩
    obtain ⟨p, hp, rfl⟩ := getm hi
    have hi' : i < (stl one).length := (List.getElem?_eq_some_iff.mp hp).1
    obtain rfl : p = gp (stl one) i := Option.some.inj (hp.symm.trans (gp_get hi'))
    refine ⟨_, _, _, _, _, rfl, rfl, rfl, by rw [rowAcc_len]; omega, _, _, _, _, rfl, rfl, _, rfl, ?_, fun m acc => acc = (List.range m).map fun k => cv (cq (stl one) (stl other) i k), rfl, ?_, ?_⟩
    · rw [List.length_map]; omega
    · rintro m d acc hm rfl
      obtain ⟨h3, rfl⟩ := rng0_get hm
      rw [List.length_map] at h3
      have h4 : m + 1 < (stl other).length := by omega
      refine ⟨_, rfl, _, rfl, _, rfl, _, _, _, rfl, rfl, atm (gp_get (by omega)), _, rfl, _, rfl, _, _, rfl, rfl, _, _, _, rfl, rfl, atm2 (gp_get h4) (by omega), ?_⟩
      exact ⟨_, _, _, rfl, z1 _ (gp_mem hi'), z2 _ (gp_mem (by omega)), z2 _ (gp_mem h4), by simp; omega, acc_succ m⟩
    · rintro acc rfl
      refine ⟨some (.sh (pt (gp (stl one) i))), kx, ?_⟩
      have e : (((((stl other).map pt).length : Int) - 1).toNat) = (stl other).length - 1 := by rw [List.length_map]; omega
      rw [rng_len, ← rowAcc_succ, e]
      rfl
  · rintro ρ ⟨c, kx, rfl⟩
    refine ⟨_, _, _, rfl, by decide +kernel, by decide, by decide, fun l' => ?_⟩
    refine ⟨_, rfl, _, rfl, fun i ρ => ∃ c kx, ρ = [some (.oi x _ ["wide", "high", "here", "there", "alone", "upright", "level"] [.int ((((stl one).map pt).length : Int) - 1), .int ((((stl other).map pt).length : Int) - 1), ln (stl one), ln (stl other), .tup [.bl (false ^^ decide (((one.map pt).length : Int) = 1)), .bl (false ^^ decide (((other.map pt).length : Int) = 1))], .at_ l, .at_ l']),
      some (.sh (ln one)), some (.sh (ln other)), some (.sh (ln (stl one))), some (.sh (ln (stl other))), c, kx, some (.la l (rowAcc (stl one) (stl other) ((stl one).map pt).length)), some (.la l' (rowAcc (stl other) (stl one) i))], ⟨c, kx, rfl⟩, ?_, ?_⟩
    · rintro i d ρ hi ⟨c, kx, rfl⟩
      obtain ⟨p, hp, rfl⟩ := getm hi
      have hi' : i < (stl other).length := (List.getElem?_eq_some_iff.mp hp).1
      obtain rfl : p = gp (stl other) i := Option.some.inj (hp.symm.trans (gp_get hi'))
      refine ⟨_, _, _, _, _, rfl, rfl, rfl, by rw [rowAcc_len]; omega, _, _, _, _, rfl, rfl, _, rfl, ?_, fun m acc => acc = (List.range m).map fun k => cv (cq (stl other) (stl one) i k), rfl, ?_, ?_⟩
      · rw [List.length_map]; omega
      · rintro m d acc hm rfl
        obtain ⟨h3, rfl⟩ := rng0_get hm
        rw [List.length_map] at h3
        have h4 : m + 1 < (stl one).length := by omega
        refine ⟨_, rfl, _, rfl, _, rfl, _, _, _, rfl, rfl, atm (gp_get (by omega)), _, rfl, _, rfl, _, _, rfl, rfl, _, _, _, rfl, rfl, atm2 (gp_get h4) (by omega), ?_⟩
        exact ⟨_, _, _, rfl, z2 _ (gp_mem hi'), z1 _ (gp_mem (by omega)), z1 _ (gp_mem h4), by simp; omega, acc_succ m⟩
      · rintro acc rfl
        refine ⟨some (.sh (pt (gp (stl other) i))), kx, ?_⟩
        have e : (((((stl one).map pt).length : Int) - 1).toNat) = (stl one).length - 1 := by rw [List.length_map]; omega
        rw [rng_len, ← rowAcc_succ (stl other), e]
        rfl
    · rintro ρ ⟨c, kx, rfl⟩
      unfold cellsD at hk
      rw [rows_acc, rows_acc] at hk
      refine ⟨_, _, _, rfl, ?_, hk⟩
      refine ⟨.inl ?_, .inl ?_, .inl rfl, .inl rfl, .inl ?_, .inr ⟨l, _, 7, rfl, rfl, by rw [List.length_map]; rfl⟩, .inr ⟨l', _, 8, rfl, rfl, by rw [List.length_map, List.length_map]; rfl⟩, trivial⟩
      · rw [List.length_map]
      · rw [List.length_map]
      · have e1 : ∀ n : Nat, decide ((n : Int) = 1) = decide (n = 1) := fun n => decide_eq_decide.mpr (by omega)
        rw [List.length_map, List.length_map, e1, e1, Bool.false_xor, Bool.false_xor]
theorem rows_get {P Q : List Pt} {i : Nat} (h : i < P.length) : (cvs P Q)[i]? = some ((List.range (Q.length - 1)).map fun k => cq P Q i k) := by
  unfold cvs
  rw [List.getElem?_map, List.getElem?_range h]
  rfl
theorem row_get {P Q : List Pt} {i k : Nat} (h : k < Q.length - 1) : ((List.range (Q.length - 1)).map fun k => cq P Q i k)[k]? = some (cq P Q i k) := by
  rw [List.getElem?_map, List.getElem?_range h]
  rfl
def t_Cells_apart (C : Addr) : Tr := fun ds k => ∃ (one other : List Pt) (i j : Nat), ds = [cellsD C one other, .int i, .int j] ∧ Lz one ∧ Lz other ∧ i < (stl one).length ∧ j < (stl other).length ∧ k (fr (ap (gp (stl one) i) (gp (stl other) j)))
theorem len_Cells_apart {C : Addr} : ∀ ds k, t_Cells_apart C ds k → ds.length = 3 := by
  rintro ds k ⟨_, _, _, _, rfl, _⟩
  rfl
abbrev nm_Cells_apart : List Str := ["self", "i", "j", "left", "down"]
theorem sc_Cells_apart : FnScope nm_Cells_apart ["self", "i", "j"] (defScope s_Cells_apart) := ⟨rfl, rfl, rfl, by decide +kernel, rfl, by decide +kernel, by decide +kernel⟩
theorem k_Cells_apart (T : Txt K mg) : KeptM P w K mg base (He.ga K "Cells") "apart" ["self", "i", "j"] 3 (t_Cells_apart (He.ga K "Cells")) := by
  obtain ⟨fd, F⟩ := T.says.def_ 42 (d := d_Cells_apart) rfl
  refine keptM_of (N := nm_Cells_apart) (body := defBody s_Cells_apart) (scope := defScope s_Cells_apart) (params := defArgs s_Cells_apart) F (c_Cells T) (m_Cells_apart T) sc_Cells_apart (len_Cells_apart) (fun _ _ _ _ _ _ us hl => match us, hl with | [_, _, _], _ => rfl) (fun cdv A outer s H E hr => ⟨_, _,
      (pbd_cons (psd_set (i := 3) sc_Cells_apart.nd rfl (by first | exact .inl rfl | exact .inr rfl) (pd_op op_sub r2_I (pd_ixK (K := K) rfl (pd_ixK (K := K) rfl (pd_fldK (K := K) rfl (pdv 0) (c_Cells T) (n_Cells_here T)) (pdv 1)) pd_int) (pd_ixK (K := K) rfl (pd_ixK (K := K) rfl (pd_fldK (K := K) rfl (pdv 0) (c_Cells T) (n_Cells_there T)) (pdv 2)) pd_int)))
      (pbd_cons (psd_set (i := 4) sc_Cells_apart.nd rfl (by first | exact .inl rfl | exact .inr rfl) (pd_op op_sub r2_I (pd_ixK (K := K) rfl (pd_ixK (K := K) rfl (pd_fldK (K := K) rfl (pdv 0) (c_Cells T) (n_Cells_here T)) (pdv 1)) pd_int) (pd_ixK (K := K) rfl (pd_ixK (K := K) rfl (pd_fldK (K := K) rfl (pdv 0) (c_Cells T) (n_Cells_there T)) (pdv 2)) pd_int)))
      (pbd_one (psd_ret (pd_call (k_ratio1 T) (hr.mono (by decide)) (by rfl) (pda_cons (pd_op op_add r2_I (pd_op op_mulW r2_Ic (pdv 3) (pdv 3)) (pd_op op_mulW r2_Ic (pdv 4) (pdv 4))) pda_nil)))))), ?_⟩)
  rintro ds k ⟨one, other, i, j, rfl, h1, h2, hi, hj, hk⟩
  have p1 := stl_pz h1 _ (gp_mem hi)
  have p2 := stl_pz h2 _ (gp_mem hj)
  refine ⟨_, rfl, _, _, _, rfl, rfl, _, rfl, _, _, _, rfl, rfl, atm (gp_get hi), _, _, _, rfl, rfl, rfl, ?_⟩
  refine ⟨_, rfl, _, _, _, rfl, rfl, _, rfl, _, _, _, rfl, rfl, atm (gp_get hj), _, _, _, rfl, rfl, rfl, _, _, rfl, rfl, ?_⟩
  refine ⟨_, rfl, _, _, _, rfl, rfl, _, rfl, _, _, _, rfl, rfl, atm (gp_get hi), _, _, _, rfl, rfl, rfl, ?_⟩
  refine ⟨_, rfl, _, _, _, rfl, rfl, _, rfl, _, _, _, rfl, rfl, atm (gp_get hj), _, _, _, rfl, rfl, rfl, _, _, rfl, rfl, ?_⟩
  refine ⟨_, rfl, _, rfl, _, _, rfl, rfl, mulok9 ((p1.1.sub p2.1).mono (by decide)) ((p1.1.sub p2.1).mono (by decide)), _, rfl, _, rfl, _, _, rfl, rfl, mulok9 ((p1.2.sub p2.2).mono (by decide)) ((p1.2.sub p2.2).mono (by decide)), _, _, rfl, rfl, ?_⟩
  refine ⟨_, _, rfl, by decide, (ap_sz0 p1 p2).mono (by decide), sz1 (by decide), ?_⟩
  rw [divInt_one]
  exact hk
def t_Cells_pair_told (C : Addr) : Tr := fun ds k => ∃ (one other : List Pt) (x y : Dat), ds = [cellsD C one other, x, y] ∧ k (.tup [if one.length = 1 then fr 0 else x, if other.length = 1 then fr 0 else y])
theorem len_Cells_pair_told {C : Addr} : ∀ ds k, t_Cells_pair_told C ds k → ds.length = 3 := by
  rintro ds k ⟨_, _, _, _, rfl, _⟩
  rfl
abbrev nm_Cells_pair_told : List Str := ["self", "x", "y"]
theorem sc_Cells_pair_told : FnScope nm_Cells_pair_told ["self", "x", "y"] (defScope s_Cells_pair_told) := ⟨rfl, rfl, rfl, by decide +kernel, rfl, by decide +kernel, by decide +kernel⟩
theorem k_Cells_pair_told (T : Txt K mg) : KeptM P w K mg base (He.ga K "Cells") "pair_told" ["self", "x", "y"] 1 (t_Cells_pair_told (He.ga K "Cells")) := by
  obtain ⟨fd, F⟩ := T.says.def_ 43 (d := d_Cells_pair_told) rfl
  refine keptM_of (N := nm_Cells_pair_told) (body := defBody s_Cells_pair_told) (scope := defScope s_Cells_pair_told) (params := defArgs s_Cells_pair_told) F (c_Cells T) (m_Cells_pair_told T) sc_Cells_pair_told (len_Cells_pair_told) (fun _ _ _ _ _ _ us hl => match us, hl with | [_, _, _], _ => rfl) (fun cdv A outer s H E hr => ⟨_, _,
      (pbd_cons (psd_if (pdt_val (pd_ixK (K := K) rfl (pd_fldK (K := K) rfl (pdv 0) (c_Cells T) (n_Cells_alone T)) pd_int)) (pbd_one (psd_set (i := 1) sc_Cells_pair_told.nd rfl (by first | exact .inl rfl | exact .inr rfl) (pd_tup (pda_cons pd_int (pda_cons pd_int pda_nil))))) pbd_nil)
      (pbd_cons (psd_if (pdt_val (pd_ixK (K := K) rfl (pd_fldK (K := K) rfl (pdv 0) (c_Cells T) (n_Cells_alone T)) pd_int)) (pbd_one (psd_set (i := 2) sc_Cells_pair_told.nd rfl (by first | exact .inl rfl | exact .inr rfl) (pd_tup (pda_cons pd_int (pda_cons pd_int pda_nil))))) pbd_nil)
      (pbd_one (psd_ret (pd_tup (pda_cons (pdv 1) (pda_cons (pdv 2) pda_nil))))))), ?_⟩)
  rintro ds k ⟨one, other, x, y, rfl, hk⟩
  refine ⟨_, rfl, _, _, _, rfl, rfl, _, _, _, rfl, rfl, rfl, _, rfl, ?_⟩
  refine ite2 (fun h => ?_) (fun h => ?_)
  · have e1 : one.length = 1 := by simpa using h
    rw [if_pos e1] at hk
    refine ⟨tl2, _, rfl, _, _, _, rfl, rfl, _, _, _, rfl, rfl, rfl, _, rfl, ?_⟩
    refine ite2 (fun h => ?_) (fun h => ?_)
    · have e2 : other.length = 1 := by simpa using h
      rw [if_pos e2] at hk
      exact ⟨tl2, _, rfl, _, rfl, tl2, hk⟩
    · have e2 : ¬ other.length = 1 := by simpa using h
      rw [if_neg e2] at hk
      exact ⟨_, rfl, _, rfl, tl2, hk⟩
  · have e1 : ¬ one.length = 1 := by simpa using h
    rw [if_neg e1] at hk
    refine ⟨_, rfl, _, _, _, rfl, rfl, _, _, _, rfl, rfl, rfl, _, rfl, ?_⟩
    refine ite2 (fun h => ?_) (fun h => ?_)
    · have e2 : other.length = 1 := by simpa using h
      rw [if_pos e2] at hk
      exact ⟨tl2, _, rfl, _, rfl, tl2, hk⟩
    · have e2 : ¬ other.length = 1 := by simpa using h
      rw [if_neg e2] at hk
      exact ⟨_, rfl, _, rfl, tl2, hk⟩
def t_Cells_row_of (C : Addr) : Tr := fun ds k => ∃ (one other : List Pt) (j a n : Nat), ds = [cellsD C one other, .int j, .int a, .int ((a : Int) + (n : Int))] ∧ Lz one ∧ Lz other ∧ j + 1 < (stl other).length ∧ a + n < (stl one).length ∧ k (.lst (((List.range (n + 1)).map fun m => cq (stl one) (stl other) (a + m) j).map cv))
theorem len_Cells_row_of {C : Addr} : ∀ ds k, t_Cells_row_of C ds k → ds.length = 4 := by
  rintro ds k ⟨_, _, _, _, _, rfl, _⟩
  rfl
abbrev nm_Cells_row_of : List Str := ["self", "j", "first", "last", "i"]
theorem sc_Cells_row_of : FnScope nm_Cells_row_of ["self", "j", "first", "last"] (defScope s_Cells_row_of) := ⟨rfl, rfl, rfl, by decide +kernel, rfl, by decide +kernel, by decide +kernel⟩
theorem k_Cells_row_of (T : Txt K mg) : KeptM P w K mg base (He.ga K "Cells") "row_of" ["self", "j", "first", "last"] 1 (t_Cells_row_of (He.ga K "Cells")) := by
  obtain ⟨fd, F⟩ := T.says.def_ 44 (d := d_Cells_row_of) rfl
  refine keptM_of (N := nm_Cells_row_of) (body := defBody s_Cells_row_of) (scope := defScope s_Cells_row_of) (params := defArgs s_Cells_row_of) F (c_Cells T) (m_Cells_row_of T) sc_Cells_row_of (len_Cells_row_of) (fun _ _ _ _ _ _ us hl => match us, hl with | [_, _, _, _], _ => rfl) (fun cdv A outer s H E hr => ⟨_, _,
      (pbd_one (psd_ret (pd_sh (pl_lc (own := [("i", 4)]) rfl sc_Cells_row_of.nd (pid_range2 (by rfl) (f_range T) (pda_cons (pdv 2) (pda_cons (pd_op op_add r2_I (pdv 3) pd_int) pda_nil))) (blkOk_by (N := nm_Cells_row_of) (sc := defScope s_Cells_row_of) (by decide +kernel)) (fun _ _ _ _ _ => (pgd_name (i := 4) sc_Cells_row_of.nd rfl (by first | exact .inl rfl | exact .inr rfl))) (fun _ _ _ _ _ => pdts_nil) (fun _ _ _ _ _ => (pd_ixK (K := K) rfl (pd_ixK (K := K) rfl (pd_fldK (K := K) rfl (pdv 0) (c_Cells T) (n_Cells_upright T)) (pdv 4)) (pdv 1))))))), ?_⟩)
  rintro ds k ⟨one, other, j, a, n, rfl, h1, h2, hj, hn, hk⟩
  have u1 := (stl_len h1).2
  refine ⟨_, rfl, _, rfl, _, _, rfl, rfl, _, _, rfl, ⟨by omega, by omega, by omega, by omega⟩, fun m acc => acc = (List.range m).map fun m => cv (cq (stl one) (stl other) (a + m) j), rfl, ?_, ?_⟩
  · rintro m d acc hm rfl
    obtain ⟨h3, rfl⟩ := rng_get hm
    have h4 : a + m < (stl one).length := by omega
    refine ⟨_, rfl, _, _, _, rfl, rfl, _, rfl, _, _, _, rfl, rfl, atm2 (rows_get h4) (by omega), _, rfl, _, _, _, rfl, rfl, atm (row_get (by omega)), by simp; omega, ?_⟩
    exact acc_succ m
  · rintro acc rfl
    rw [rng_len]
    have e : ((a : Int) + (n : Int) + 1 - (a : Int)).toNat = n + 1 := by omega
    rw [e]
    rw [List.map_map] at hk
    exact hk
def t_Cells_column_of (C : Addr) : Tr := fun ds k => ∃ (one other : List Pt) (i a n : Nat), ds = [cellsD C one other, .int i, .int a, .int ((a : Int) + (n : Int))] ∧ Lz one ∧ Lz other ∧ i + 1 < (stl one).length ∧ a + n < (stl other).length ∧ k (.lst (((List.range (n + 1)).map fun m => cq (stl other) (stl one) (a + m) i).map cv))
theorem len_Cells_column_of {C : Addr} : ∀ ds k, t_Cells_column_of C ds k → ds.length = 4 := by
  rintro ds k ⟨_, _, _, _, _, rfl, _⟩
  rfl
abbrev nm_Cells_column_of : List Str := ["self", "i", "first", "last", "j"]
theorem sc_Cells_column_of : FnScope nm_Cells_column_of ["self", "i", "first", "last"] (defScope s_Cells_column_of) := ⟨rfl, rfl, rfl, by decide +kernel, rfl, by decide +kernel, by decide +kernel⟩
theorem k_Cells_column_of (T : Txt K mg) : KeptM P w K mg base (He.ga K "Cells") "column_of" ["self", "i", "first", "last"] 1 (t_Cells_column_of (He.ga K "Cells")) := by
  obtain ⟨fd, F⟩ := T.says.def_ 45 (d := d_Cells_column_of) rfl
  refine keptM_of (N := nm_Cells_column_of) (body := defBody s_Cells_column_of) (scope := defScope s_Cells_column_of) (params := defArgs s_Cells_column_of) F (c_Cells T) (m_Cells_column_of T) sc_Cells_column_of (len_Cells_column_of) (fun _ _ _ _ _ _ us hl => match us, hl with | [_, _, _, _], _ => rfl) (fun cdv A outer s H E hr => ⟨_, _,
      (pbd_one (psd_ret (pd_sh (pl_lc (own := [("j", 4)]) rfl sc_Cells_column_of.nd (pid_range2 (by rfl) (f_range T) (pda_cons (pdv 2) (pda_cons (pd_op op_add r2_I (pdv 3) pd_int) pda_nil))) (blkOk_by (N := nm_Cells_column_of) (sc := defScope s_Cells_column_of) (by decide +kernel)) (fun _ _ _ _ _ => (pgd_name (i := 4) sc_Cells_column_of.nd rfl (by first | exact .inl rfl | exact .inr rfl))) (fun _ _ _ _ _ => pdts_nil) (fun _ _ _ _ _ => (pd_ixK (K := K) rfl (pd_ixK (K := K) rfl (pd_fldK (K := K) rfl (pdv 0) (c_Cells T) (n_Cells_level T)) (pdv 4)) (pdv 1))))))), ?_⟩)
  rintro ds k ⟨one, other, j, a, n, rfl, h1, h2, hj, hn, hk⟩
  have u1 := (stl_len h2).2
  refine ⟨_, rfl, _, rfl, _, _, rfl, rfl, _, _, rfl, ⟨by omega, by omega, by omega, by omega⟩, fun m acc => acc = (List.range m).map fun m => cv (cq (stl other) (stl one) (a + m) j), rfl, ?_, ?_⟩
  · rintro m d acc hm rfl
    obtain ⟨h3, rfl⟩ := rng_get hm
    have h4 : a + m < (stl other).length := by omega
    refine ⟨_, rfl, _, _, _, rfl, rfl, _, rfl, _, _, _, rfl, rfl, atm2 (rows_get h4) (by omega), _, rfl, _, _, _, rfl, rfl, atm (row_get (by omega)), by simp; omega, ?_⟩
    exact acc_succ m
  · rintro acc rfl
    rw [rng_len]
    have e : ((a : Int) + (n : Int) + 1 - (a : Int)).toNat = n + 1 := by omega
    rw [e]
    rw [List.map_map] at hk
    exact hk
end
end G
/-! Which gates are come through: the table's recursion, for any test of squares. -/
namespace M
def runOk (T : Rat → Bool) (c : Nat → Cv) (f i : Nat) : Bool := (List.range (i + 1 - f)).all fun m => T (bar (c (f + m)) (c i)).2
def fstv (l u : Option Nat) (st : Bool) (i : Nat) : Option Nat := if (l.isSome || st) = true then some (i + 1) else u
def nxt (T : Rat → Bool) (c : Nat → Cv) (i : Nat) : Option Nat → Option Nat
  | none => none
  | some f => if runOk T c f (i + 1) = true then some f else none
def stv (s0 : Bool) (i j : Nat) : Bool := s0 && (decide (i = 0) && decide (j = 0))
def baseU (T : Rat → Bool) (bg : Bool) (P Q : List Pt) (j : Nat) : Option Nat := if (bg && T (lw (cq P Q 0 j))) = true then some 0 else none
/-- what comes into the cell (i, j): by its left gate, by its lower gate -/
def cellv (T : Rat → Bool) (bg s0 : Bool) (P Q : List Pt) (i j : Nat) : Option Nat × Option Nat :=
  (match i with
    | 0 => baseU T bg P Q j
    | i' + 1 => nxt T (fun m => cq P Q m j) i' (fstv (cellv T bg s0 P Q i' j).2 (cellv T bg s0 P Q i' j).1 (stv s0 i' j) i'),
   match j with
    | 0 => none
    | j' + 1 => nxt T (fun m => cq Q P m i) j' (fstv (cellv T bg s0 P Q i j').1 (cellv T bg s0 P Q i j').2 (stv s0 i j') j'))
termination_by i + j
def tu (T : Rat → Bool) (bg s0 : Bool) (P Q : List Pt) (i j : Nat) : Option Nat := (cellv T bg s0 P Q i j).1
def tl (T : Rat → Bool) (bg s0 : Bool) (P Q : List Pt) (i j : Nat) : Option Nat := (cellv T bg s0 P Q i j).2
section
variable {T : Rat → Bool} {bg s0 : Bool} {P Q : List Pt}
theorem tu_zero (j : Nat) : tu T bg s0 P Q 0 j = baseU T bg P Q j := by unfold tu; rw [cellv.eq_def]
theorem tu_succ (i j : Nat) : tu T bg s0 P Q (i + 1) j = nxt T (fun m => cq P Q m j) i (fstv (tl T bg s0 P Q i j) (tu T bg s0 P Q i j) (stv s0 i j) i) := by
  unfold tu tl; rw [cellv.eq_def]
theorem tl_zero (i : Nat) : tl T bg s0 P Q i 0 = none := by unfold tl; rw [cellv.eq_def]
theorem tl_succ (i j : Nat) : tl T bg s0 P Q i (j + 1) = nxt T (fun m => cq Q P m i) j (fstv (tu T bg s0 P Q i j) (tl T bg s0 P Q i j) (stv s0 i j) j) := by
  unfold tu tl; rw [cellv.eq_def]
theorem nxt_some {c : Nat → Cv} {i f : Nat} {o : Option Nat} (h : nxt T c i o = some f) : o = some f ∧ runOk T c f (i + 1) = true := by
  cases o with
  | none => cases h
  | some g =>
    have h' : (if runOk T c g (i + 1) = true then some g else none) = some f := h
    by_cases hr : runOk T c g (i + 1) = true
    · rw [if_pos hr] at h'
      cases h'
      exact ⟨rfl, hr⟩
    · rw [if_neg hr] at h'
      cases h'
/-- where the runs begin: the first index, and that one came into the cell ahead -/
theorem tu_le : ∀ (i j f : Nat), tu T bg s0 P Q i j = some f → f ≤ i ∧ (f = 0 → bg = true) ∧ (0 < f → (tl T bg s0 P Q (f - 1) j).isSome = true ∨ stv s0 (f - 1) j = true)
  | 0, j, f, h => by
    rw [tu_zero] at h
    unfold baseU at h
    split at h
    · rename_i hb
      cases h
      rw [Bool.and_eq_true] at hb
      exact ⟨Nat.le_refl _, fun _ => hb.1, fun z => absurd z (by decide)⟩
    · cases h
  | i + 1, j, f, h => by
    rw [tu_succ] at h
    obtain ⟨h1, _⟩ := nxt_some h
    unfold fstv at h1
    split at h1
    · rename_i hs
      cases h1
      rw [Bool.or_eq_true] at hs
      exact ⟨Nat.le_refl _, fun z => absurd z (by omega), fun _ => hs⟩
    · obtain ⟨a, b, c⟩ := tu_le i j f h1
      exact ⟨by omega, b, c⟩
theorem tl_le : ∀ (j i f : Nat), tl T bg s0 P Q i j = some f → f ≤ j ∧ 0 < f ∧ ((tu T bg s0 P Q i (f - 1)).isSome = true ∨ stv s0 i (f - 1) = true)
  | 0, i, f, h => by
    rw [tl_zero] at h
    cases h
  | j + 1, i, f, h => by
    rw [tl_succ] at h
    obtain ⟨h1, _⟩ := nxt_some h
    unfold fstv at h1
    split at h1
    · rename_i hs
      cases h1
      rw [Bool.or_eq_true] at hs
      exact ⟨Nat.le_refl _, by omega, hs⟩
    · obtain ⟨a, b, c⟩ := tl_le j i f h1
      exact ⟨by omega, b, c⟩
end
/-- the answer for "on" and for "part" -/
def onOk (T : Rat → Bool) (P Q : List Pt) : Bool :=
  T (ap (gp P (P.length - 1)) (gp Q (Q.length - 1))) && (stv (T (ap (gp P 0) (gp Q 0))) (P.length - 2) (Q.length - 2) || (tu T false (T (ap (gp P 0) (gp Q 0))) P Q (P.length - 2) (Q.length - 2)).isSome || (tl T false (T (ap (gp P 0) (gp Q 0))) P Q (P.length - 2) (Q.length - 2)).isSome)
def partOk (T : Rat → Bool) (P Q : List Pt) : Bool := (List.range (Q.length - 1)).any fun j => (tu T true false P Q (P.length - 1) j).isSome
end M
/-! The tests and the candidates, as plain functions. -/
namespace M
def tS (s : Rat) : Rat → Bool := fun t => !decide (s < t)
def hr (T : Rat → Bool) (P Q : List Pt) : Nat → Nat → Bool
  | 0, 0 => T (ap (gp P 0) (gp Q 0))
  | x + 1, 0 => T (ap (gp P (x + 1)) (gp Q 0)) && hr T P Q x 0
  | 0, y + 1 => T (ap (gp P 0) (gp Q (y + 1))) && hr T P Q 0 y
  | x + 1, y + 1 => T (ap (gp P (x + 1)) (gp Q (y + 1))) && (hr T P Q x y || hr T P Q x (y + 1) || hr T P Q (x + 1) y)
def hopOk (T : Rat → Bool) (P Q : List Pt) : Bool := hr T P Q (P.length - 1) (Q.length - 1)
def cornQ (P Q : List Pt) : List Rat := P.flatMap fun p => Q.map fun q => ap p q
def meetQ (P Q : List Pt) (k i j : Nat) : List Rat := match meet (cq P Q i k) (cq P Q j k) with
  | some m => if 0 ≤ m.num ∧ m.num ≤ (m.den : Int) then [wv (cq P Q i k) m] else []
  | none => []
def strQ1 (P Q : List Pt) (k i : Nat) : List Rat := lw (cq P Q i k) :: (List.range i).flatMap (meetQ P Q k i)
def strQ (P Q : List Pt) : List Rat := (List.range (Q.length - 1)).flatMap fun k => (List.range P.length).flatMap fun i => strQ1 P Q k i
def cands (P Q : List Pt) : List Rat := cornQ P Q ++ strQ P Q ++ strQ Q P
end M
namespace G
open PySem PySem.Spec PyProof.Rows L2 DL M
section
variable {P : Program} {w : World} {K : PySem.W.Frag} {mg : Str → Option Value} {base : Heap}
def oV : Option Nat → V
  | none => .non
  | some f => .int (f : Int)
def oD : Option Nat → Dat
  | none => .non
  | some f => .int (f : Int)
theorem oD_rp {F : Hp} (o : Option Nat) : Rp F (oD o) (oV o) := by
  cases o <;> (unfold oD oV Rp; rfl)
def tabRow (n : Nat) (g : Nat → Option Nat) : List V := (List.range n).map fun j => oV (g j)
def tabD (n : Nat) (g : Nat → Option Nat) : Dat := .lst ((List.range n).map fun j => oD (g j))
def wd (l : List Pt) : Nat := (stl l).length - 1
def baseF (vc vs : V) (bg : Bool) (lu ll : Addr) : List (Str × V) := [("cells", vc), ("square", vs), ("begins", .bl bg), ("upright", .ref lu), ("level", .ref ll)]
structure RTi (F0 H0 F H : Hp) (C CC a : Addr) (one other : List Pt) (s : Rat) (bg : Bool) (ex : List (Str × V)) (U L : Nat → Nat → Option Nat) (dx : Addr) (vc vs : V) (lu ll : Addr) (ru rl : List Addr) : Prop where
  gr : Gr F0 H0 F H
  ins : H a = some (.ins C dx (baseF vc vs bg lu ll ++ ex))
  rc : Rp F (cellsD CC one other) vc
  rs : Rp F (fr s) vs
  hu : H lu = some (.lst (ru.map V.ref))
  hl : H ll = some (.lst (rl.map V.ref))
  nu : ru.length = wd one + 1
  nl : rl.length = wd other + 1
  ru_ : ∀ (i : Nat) (r : Addr), ru[i]? = some r → H r = some (.lst (tabRow (wd other) (U i)))
  rl_ : ∀ (j : Nat) (r : Addr), rl[j]? = some r → H r = some (.lst (tabRow (wd one) (L j)))
  nd : (lu :: ll :: (ru ++ rl)).Nodup
  out : ∀ b ∈ a :: lu :: ll :: (ru ++ rl), F b = none ∧ H0 b = none
def RT (F0 H0 F H : Hp) (C CC a : Addr) (one other : List Pt) (s : Rat) (bg : Bool) (ex : List (Str × V)) (U L : Nat → Nat → Option Nat) : Prop := ∃ dx vc vs lu ll ru rl, RTi F0 H0 F H C CC a one other s bg ex U L dx vc vs lu ll ru rl
section
variable {F0 H0 F H F' H' : Hp} {C CC a : Addr} {one other : List Pt} {s : Rat} {bg : Bool} {ex : List (Str × V)} {U L : Nat → Nat → Option Nat} {dx : Addr} {vc vs : V} {lu ll : Addr} {ru rl : List Addr}
theorem RTi.gr' (R : RTi F0 H0 F H C CC a one other s bg ex U L dx vc vs lu ll ru rl) (g : Gr F H F' H') : RTi F0 H0 F' H' C CC a one other s bg ex U L dx vc vs lu ll ru rl where
  gr := R.gr.trans g
  ins := g.eH _ _ R.ins
  rc := Rp.mono g.eF _ R.rc
  rs := Rp.mono g.eF _ R.rs
  hu := g.eH _ _ R.hu
  hl := g.eH _ _ R.hl
  nu := R.nu
  nl := R.nl
  ru_ := fun i r h => g.eH _ _ (R.ru_ i r h)
  rl_ := fun j r h => g.eH _ _ (R.rl_ j r h)
  nd := R.nd
  out := fun b hb => by
    obtain ⟨h1, h2⟩ := R.out b hb
    refine ⟨?_, h2⟩
    rcases List.mem_cons.mp hb with e | hb
    · rw [e] at h1 ⊢; exact (g.out h1 R.ins).1
    rcases List.mem_cons.mp hb with e | hb
    · rw [e] at h1 ⊢; exact (g.out h1 R.hu).1
    rcases List.mem_cons.mp hb with e | hb
    · rw [e] at h1 ⊢; exact (g.out h1 R.hl).1
    rcases List.mem_append.mp hb with hb | hb
    · obtain ⟨i, hi⟩ := List.mem_iff_getElem?.mp hb
      exact (g.out h1 (R.ru_ i b hi)).1
    · obtain ⟨i, hi⟩ := List.mem_iff_getElem?.mp hb
      exact (g.out h1 (R.rl_ i b hi)).1
theorem nodup_at {α : Type} {l : List α} (h : l.Nodup) {i j : Nat} {x : α} (a : l[i]? = some x) (b : l[j]? = some x) : i = j := by
  obtain ⟨h1, e1⟩ := List.getElem?_eq_some_iff.mp a
  obtain ⟨h2, e2⟩ := List.getElem?_eq_some_iff.mp b
  exact (List.getElem_inj h).mp (e1.trans e2.symm)
def upd2 (U : Nat → Nat → Option Nat) (i j : Nat) (v : Option Nat) : Nat → Nat → Option Nat := fun i' j' => if i' = i ∧ j' = j then v else U i' j'
theorem tabRow_set {n : Nat} {U : Nat → Nat → Option Nat} {i j : Nat} {v : Option Nat} (hj : j < n) : (tabRow n (U i)).set j (oV v) = tabRow n (upd2 U i j v i) := by
  unfold tabRow upd2
  refine List.ext_getElem? fun k => ?_
  by_cases h : j = k
  · subst h
    rw [List.getElem?_set_self (by simpa using hj), List.getElem?_map, List.getElem?_range hj]
    simp
  · rw [List.getElem?_set_ne h, List.getElem?_map, List.getElem?_map]
    by_cases hk : k < n
    · rw [List.getElem?_range hk]
      simp [Ne.symm h]
    · rw [List.getElem?_eq_none (by simpa using hk)]
      rfl
theorem upd2_ne {U : Nat → Nat → Option Nat} {i j i' : Nat} {v : Option Nat} (h : i' ≠ i) : upd2 U i j v i' = U i' := by
  funext j'
  unfold upd2
  rw [if_neg (fun z => h z.1)]
theorem RTi.setU (R : RTi F0 H0 F H C CC a one other s bg ex U L dx vc vs lu ll ru rl) {i j : Nat} {r : Addr} (v : Option Nat) (hr : ru[i]? = some r) (hj : j < wd other) :
    RTi F0 H0 F (upd H r (.lst ((tabRow (wd other) (U i)).set j (oV v)))) C CC a one other s bg ex (upd2 U i j v) L dx vc vs lu ll ru rl := by
  have hm : r ∈ ru := List.mem_of_getElem? hr
  obtain ⟨o1, o2⟩ := R.out r (by simp [hm])
  have nd := R.nd
  rw [List.nodup_cons, List.nodup_cons, List.nodup_append] at nd
  obtain ⟨n1, n2, n3, n4, n5⟩ := nd
  have e1 : lu ≠ r := fun z => n1 (by simp [z, hm])
  have e2 : ll ≠ r := fun z => n2 (by simp [z, hm])
  have e3 : a ≠ r := ne_of R.ins (R.ru_ i r hr) (by intro z; cases z)
  refine ⟨R.gr.mut o2 o1, by rw [upd_ne e3]; exact R.ins, R.rc, R.rs, by rw [upd_ne e1]; exact R.hu, by rw [upd_ne e2]; exact R.hl, R.nu, R.nl, fun i' r' h => ?_, fun j' r' h => ?_, R.nd, R.out⟩
  · by_cases z : r' = r
    · subst z
      have := nodup_at n3 h hr
      subst this
      rw [upd_same, tabRow_set hj]
    · rw [upd_ne z, upd2_ne (fun z2 => by subst z2; rw [hr] at h; cases h; exact z rfl)]
      exact R.ru_ i' r' h
  · rw [upd_ne (fun z => n5 r hm r' (List.mem_of_getElem? h) z.symm)]
    exact R.rl_ j' r' h
theorem RTi.setL (R : RTi F0 H0 F H C CC a one other s bg ex U L dx vc vs lu ll ru rl) {j i : Nat} {r : Addr} (v : Option Nat) (hr : rl[j]? = some r) (hi : i < wd one) :
    RTi F0 H0 F (upd H r (.lst ((tabRow (wd one) (L j)).set i (oV v)))) C CC a one other s bg ex U (upd2 L j i v) dx vc vs lu ll ru rl := by
  have hm : r ∈ rl := List.mem_of_getElem? hr
  obtain ⟨o1, o2⟩ := R.out r (by simp [hm])
  have nd := R.nd
  rw [List.nodup_cons, List.nodup_cons, List.nodup_append] at nd
  obtain ⟨n1, n2, n3, n4, n5⟩ := nd
  have e1 : lu ≠ r := fun z => n1 (by simp [z, hm])
  have e2 : ll ≠ r := fun z => n2 (by simp [z, hm])
  have e3 : a ≠ r := ne_of R.ins (R.rl_ j r hr) (by intro z; cases z)
  refine ⟨R.gr.mut o2 o1, by rw [upd_ne e3]; exact R.ins, R.rc, R.rs, by rw [upd_ne e1]; exact R.hu, by rw [upd_ne e2]; exact R.hl, R.nu, R.nl, fun i' r' h => ?_, fun j' r' h => ?_, R.nd, R.out⟩
  · rw [upd_ne (fun z => n5 r' (List.mem_of_getElem? h) r hm z)]
    exact R.ru_ i' r' h
  · by_cases z : r' = r
    · subst z
      have := nodup_at n4 h hr
      subst this
      rw [upd_same, tabRow_set hi]
    · rw [upd_ne z, upd2_ne (fun z2 => by subst z2; rw [hr] at h; cases h; exact z rfl)]
      exact R.rl_ j' r' h
theorem tabRow_at {n : Nat} {g : Nat → Option Nat} {j : Nat} (h : j < n) : atI (tabRow n g) (j : Int) = some (oV (g j)) := by
  refine atI_nat ?_
  unfold tabRow
  rw [List.getElem?_map, List.getElem?_range h]
  rfl
theorem refs_at {ru : List Addr} {i : Nat} {r : Addr} (h : ru[i]? = some r) : atI (ru.map V.ref) (i : Int) = some (.ref r) := by
  refine atI_nat ?_
  rw [List.getElem?_map, h]
  rfl
/-- self.upright[i][j], self.level[j][i] read -/
theorem rdU (R : RTi F0 H0 F H C CC a one other s bg ex U L dx vc vs lu ll ru rl) (cl : Cls K C) (na : NoAttr K C "upright") {σ : L2.St} (h0 : σ[0]? = some (some (.ref a))) {ti tj : TE} {i j : Nat} (hi : Val ti σ H (.int (i : Int))) (hj : Val tj σ H (.int (j : Int))) (li : i < wd one + 1) (lj : j < wd other) :
    Val (tOp (rIxL K) (tOp (rIxL K) (tFld K (tVar 0) "upright") ti) tj) σ H (oV (U i j)) := fun Q q => by
  obtain ⟨r, hr⟩ : ∃ r, ru[i]? = some r := ⟨_, List.getElem?_eq_getElem (by rw [R.nu]; exact li)⟩
  refine ⟨.ref a, h0, a, C, dx, _, .ref lu, rfl, R.ins, cl, na, rfl, hi _ ⟨lu, _, _, .ref r, rfl, rfl, SqL.of R.hu, refs_at hr, hj _ ⟨r, _, _, _, rfl, rfl, SqL.of (R.ru_ i r hr), tabRow_at lj, q⟩⟩⟩
theorem rdL (R : RTi F0 H0 F H C CC a one other s bg ex U L dx vc vs lu ll ru rl) (cl : Cls K C) (na : NoAttr K C "level") {σ : L2.St} (h0 : σ[0]? = some (some (.ref a))) {ti tj : TE} {i j : Nat} (hj : Val tj σ H (.int (j : Int))) (hi : Val ti σ H (.int (i : Int))) (lj : j < wd other + 1) (li : i < wd one) :
    Val (tOp (rIxL K) (tOp (rIxL K) (tFld K (tVar 0) "level") tj) ti) σ H (oV (L j i)) := fun Q q => by
  obtain ⟨r, hr⟩ : ∃ r, rl[j]? = some r := ⟨_, List.getElem?_eq_getElem (by rw [R.nl]; exact lj)⟩
  refine ⟨.ref a, h0, a, C, dx, _, .ref ll, rfl, R.ins, cl, na, rfl, hj _ ⟨ll, _, _, .ref r, rfl, rfl, SqL.of R.hl, refs_at hr, hi _ ⟨r, _, _, _, rfl, rfl, SqL.of (R.rl_ j r hr), tabRow_at li, q⟩⟩⟩
end
end
end G
namespace G
open PySem PySem.Spec PyProof.Rows L2 DL M
section
variable {P : Program} {w : World} {K : PySem.W.Frag} {mg : Str → Option Value} {base : Heap}
def spStarts (C : Addr) : Sp := fun vs H Q _ => ∃ (a : Addr) (i j : Int) (dx : Addr) (fs : List (Str × V)) (st : Bool), vs = [.ref a, .int i, .int j] ∧ H a = some (.ins C dx fs) ∧ fs.lookup ("started" : Str) = some (V.bl st) ∧ Q (.bl (st && (decide (i = 0) && decide (j = 0)))) H
theorem sc_starts : FnScope ["self", "i", "j"] ["self", "i", "j"] (defScope s_Reach_starts_in) := ⟨rfl, rfl, rfl, by decide +kernel, rfl, by decide +kernel, by decide +kernel⟩
theorem ok_starts (T : Txt K mg) : ∃ fd, FunD K "starts_in" "Reach.starts_in" (defArgs s_Reach_starts_in) (defBody s_Reach_starts_in) (defScope s_Reach_starts_in) [] [] (He.ma K (He.ga K "Reach") "starts_in") fd ∧ FnOk P w K mg base CX0 1 (He.ma K (He.ga K "Reach") "starts_in") fd ["self", "i", "j"] (spStarts (He.ga K "Reach")) := by
  obtain ⟨fd, F⟩ := T.says.def_ 59 (d := d_Reach_starts_in) rfl
  refine ⟨fd, F, FunD.ok (x := "starts_in") (qual := "Reach.starts_in") (params := defArgs s_Reach_starts_in) (body := defBody s_Reach_starts_in) (scope := defScope s_Reach_starts_in) F sc_starts (fun vs H Q E h => ?_) (fun cdv A outer s H vs Q E hr h => ?_)⟩
  · obtain ⟨a, i, j, dx, fs, st, rfl, _⟩ := h
    rfl
  · obtain ⟨a, i, j, dx, fs, st, rfl, hH, hl, hq⟩ := h
    refine ⟨_, PSs.nox (pss_one (ps_ret (pe_and (pe_fld (pv 0) rfl) (pe_and (pe_cmpR op_eq (pv 1) pe_int (nomark _)) (pe_one (pe_cmpR op_eq (pv 2) pe_int (nomark _))))))), ?_⟩
    refine ⟨_, rfl, a, _, dx, fs, _, rfl, hH, c_Reach T, n_Reach_started T, hl, st, rfl, ?_⟩
    cases st with
    | false => exact iteF hq
    | true =>
      refine iteT ⟨_, rfl, rfl, _, rfl, ?_⟩
      refine ite2 (fun h => ?_) (fun h => ?_)
      · have h' : i = 0 := by simpa using h
        refine ⟨_, rfl, rfl, ?_⟩
        subst h'
        have e : decide (V.int j = V.int 0) = (true && (decide ((0 : Int) = 0) && decide (j = 0))) := by simp
        rw [e]
        exact hq
      · have h' : ¬ i = 0 := by simpa using h
        have e : (true && (decide (i = 0) && decide (j = 0))) = false := by simp [h']
        rw [e] at hq
        exact hq
theorem bm3 {P : Program} {x qual : Str} {st : Stmt} {f : Addr} {fd : FuncData} (F : FunD K x qual (defArgs st) (defBody st) (defScope st) [] [] f fd) {ps : List Str} (h : ∀ (kV doc pm : Value) (an : Option Addr) (cdv ct : Value) (us : List Value), us.length = ps.length → bindArgs (PySem.W.fnOf x qual (defArgs st) (defBody st) (defScope st) .none kV doc pm an cdv ct) ⟨us, []⟩ = pure (ps.zip us)) : Binds K fd ps [] := F.bindsN h
def goPost (s : Rat) (one other : List Pt) (st : Bool) (U L : Nat → Nat → Option Nat) (i j : Nat) : Option Nat := nxt (tS s) (fun m => cq (stl one) (stl other) m j) i (fstv (L j i) (U i j) (stv st i j) i)
def upPost (s : Rat) (one other : List Pt) (st : Bool) (U L : Nat → Nat → Option Nat) (i j : Nat) : Option Nat := nxt (tS s) (fun m => cq (stl other) (stl one) m i) j (fstv (U i j) (L j i) (stv st i j) j)
def spGo (C CC : Addr) : Sp := fun vs H Q _ => ∃ (a : Addr) (i j : Nat) (F0 H0 F : Hp) (one other : List Pt) (s : Rat) (bg st : Bool) (U L : Nat → Nat → Option Nat), vs = [.ref a, .int i, .int j] ∧ RT F0 H0 F H C CC a one other s bg [("started", .bl st)] U L ∧
  Lz one ∧ Lz other ∧ Fz 4000 s ∧ i < wd one ∧ j < wd other ∧ U (i + 1) j = none ∧ (∀ f, U i j = some f → f ≤ i) ∧ ∀ F' H', RT F0 H0 F' H' C CC a one other s bg [("started", .bl st)] (upd2 U (i + 1) j (goPost s one other st U L i j)) L → Q .non H'
def spUp (C CC : Addr) : Sp := fun vs H Q _ => ∃ (a : Addr) (i j : Nat) (F0 H0 F : Hp) (one other : List Pt) (s : Rat) (bg st : Bool) (U L : Nat → Nat → Option Nat), vs = [.ref a, .int i, .int j] ∧ RT F0 H0 F H C CC a one other s bg [("started", .bl st)] U L ∧
  Lz one ∧ Lz other ∧ Fz 4000 s ∧ i < wd one ∧ j < wd other ∧ L (j + 1) i = none ∧ (∀ f, L j i = some f → f ≤ j) ∧ ∀ F' H', RT F0 H0 F' H' C CC a one other s bg [("started", .bl st)] U (upd2 L (j + 1) i (upPost s one other st U L i j)) → Q .non H'
theorem upd2_same {U : Nat → Nat → Option Nat} {i j : Nat} (h : U i j = none) : upd2 U i j none = U := by
  funext i' j'
  unfold upd2
  split
  · rename_i z
    rw [z.1, z.2, h]
  · rfl
theorem wd_lt {l : List Pt} (h : Lz l) {i : Nat} (hi : i < wd l) : i + 1 < (stl l).length := by
  unfold wd at hi
  omega
theorem run_row (T : Rat → Bool) (c : Nat → Cv) (f i : Nat) (h : f ≤ i) : (((List.range (i - f)).map fun m => c (f + m)) ++ [c i]).all (fun x => T (bar x (c i)).2) = runOk T c f i := by
  unfold runOk
  have e : i + 1 - f = (i - f) + 1 := by omega
  rw [e, List.range_succ, List.all_append, List.all_append, List.all_map]
  simp only [List.all_cons, List.all_nil, Bool.and_true]
  have e2 : f + (i - f) = i := by omega
  rw [e2]
  rfl
theorem row_split (c : Nat → Cv) (f i : Nat) (h : f ≤ i) : (List.range (i - f + 1)).map (fun m => c (f + m)) = ((List.range (i - f)).map fun m => c (f + m)) ++ [c i] := by
  rw [List.range_succ, List.map_append]
  have e2 : f + (i - f) = i := by omega
  simp [e2]
theorem sc_go : FnScope ["self", "i", "j", "first"] ["self", "i", "j"] (defScope s_Reach_go_right) := ⟨rfl, rfl, rfl, by decide +kernel, rfl, by decide +kernel, by decide +kernel⟩
theorem ok_go (T : Txt K mg) : ∃ fd, FunD K "go_right" "Reach.go_right" (defArgs s_Reach_go_right) (defBody s_Reach_go_right) (defScope s_Reach_go_right) [] [] (He.ma K (He.ga K "Reach") "go_right") fd ∧ FnOk P w K mg base CX0 7 (He.ma K (He.ga K "Reach") "go_right") fd ["self", "i", "j"] (spGo (He.ga K "Reach") (He.ga K "Cells")) := by
  obtain ⟨fd, F⟩ := T.says.def_ 60 (d := d_Reach_go_right) rfl
  obtain ⟨fds, Fs, Gs⟩ := ok_starts (P := P) (w := w) (base := base) T
  have bs : Binds K fds ["self", "i", "j"] [] := FunD.bindsN (x := "starts_in") (qual := "Reach.starts_in") (params := defArgs s_Reach_starts_in) (body := defBody s_Reach_starts_in) (scope := defScope s_Reach_starts_in) Fs (fun _ _ _ _ _ _ us hl => match us, hl with | [_, _, _], _ => rfl)
  obtain ⟨⟨fl, fdl, dsl, ml, Gl_, kl, bl, vl⟩, _⟩ := k_lets_by (P := P) (w := w) (base := base) T
  obtain ⟨clr, fr', fdr, mr, Gr_, br⟩ := k_Cells_row_of (P := P) (w := w) (base := base) T
  refine ⟨fd, F, FunD.ok (x := "go_right") (qual := "Reach.go_right") (params := defArgs s_Reach_go_right) (body := defBody s_Reach_go_right) (scope := defScope s_Reach_go_right) F sc_go (fun vs H Q E h => ?_) (fun cdv A outer s0 H vs Q E hr h => ?_)⟩
  · obtain ⟨a, i, j, F0, H0, F, one, other, s, bg, st, U, L, rfl, _⟩ := h
    rfl
  · obtain ⟨a, i, j, F0, H0, F1, one, other, s, bg, st, U, L, rfl, ⟨dx, vc, vs, lu, ll, ru, rl, R⟩, z1, z2, zs, hi, hj, hn, hf, hq⟩ := h
    refine ⟨_, PSs.nox (pss_cons (ps_set (i := 3) sc_go.nd rfl (Or.inl rfl) pe_non)
      (Evl.pss_cut (ps_if (PW.pt (pw_or (pt_cmpR op_notN (pe_ix ix_list (pe_ix ix_list (pe_fld (pv 0) rfl) (pv 2) (fun _ _ => rfl)) (pv 1) (fun _ _ => rfl)) pe_non (nomark _))
          (pw_or1 (pt_val (pe_meth (pv 0) (c_Reach T) (m_Reach_starts_in T) Gs (hr.mono (by decide)) bs .nil pass0 (pa_cons (pv 1) (pa_cons (pv 2) pa_nil)))))))
        (pss_one (ps_set (i := 3) sc_go.nd rfl (Or.inl rfl) (pe_op op_add (pv 1) pe_int)))
        (pss_one (ps_if (pt_cmpR op_notN (pe_ix ix_list (pe_ix ix_list (pe_fld (pv 0) rfl) (pv 1) (fun _ _ => rfl)) (pv 2) (fun _ _ => rfl)) pe_non (nomark _))
          (pss_one (ps_set (i := 3) sc_go.nd rfl (Or.inl rfl) (pe_ix ix_list (pe_ix ix_list (pe_fld (pv 0) rfl) (pv 1) (fun _ _ => rfl)) (pv 2) (fun _ _ => rfl)))) pss_nil)))
      (pss_one (ps_if (PW.pt (pw_and (pt_cmpR op_notN (pv 3) pe_non (nomark _)) (pw_and1 (pt_val (pe_call Gl_ (hr.mono (by decide)) (by rfl) ml kl bl vl pass0 (pa_cons (pe_meth (pe_fld (pv 0) rfl) clr mr Gr_ (hr.mono (by decide)) br .nil pass0 (pa_cons (pv 2) (pa_cons (pv 3) (pa_cons (pe_op op_add (pv 1) pe_int) pa_nil)))) (pa_cons (pe_fld (pv 0) rfl) pa_nil)))))))
        (pss_one (ps_asg (pv 3) (pg_sub (pe_ix ix_list (pe_fld (pv 0) rfl) (pe_op op_add (pv 1) pe_int) (fun _ _ => rfl)) (pv 2) set_list))) pss_nil)))), ?_⟩
    have i1 : ∀ (v : Option V), Val (tVar 1) [some (.ref a), some (.int i), some (.int j), v] H (.int (i : Int)) := fun v Q q => ⟨_, rfl, q⟩
    have i2 : ∀ (v : Option V), Val (tVar 2) [some (.ref a), some (.int i), some (.int j), v] H (.int (j : Int)) := fun v Q q => ⟨_, rfl, q⟩
    have isn : ∀ o : Option Nat, (!decide (oV o = V.non)) = o.isSome := fun o => by cases o <;> simp [oV]
    refine ⟨fun σ' H' => H' = H ∧ ∃ o : Option Nat, σ' = [some (.ref a), some (.int i), some (.int j), some (oV o)] ∧ o = fstv (L j i) (U i j) (stv st i j) i ∧ ∀ f, o = some f → f ≤ i + 1, ?main, ?fin⟩
    case fin =>
      rintro σ' H' ⟨rfl, o, rfl, ho, hle⟩
      unfold goPost at hq
      rw [← ho] at hq
      refine ⟨_, rfl, rfl, _, rfl, ?_⟩
      rw [isn]
      cases o with
      | none =>
        refine iteF ?_
        refine hq F1 H' ⟨dx, vc, vs, lu, ll, ru, rl, ?_⟩
        show RTi F0 H0 F1 H' _ _ a one other s bg _ (upd2 U (i + 1) j none) L dx vc vs lu ll ru rl
        rw [upd2_same hn]
        exact R
      | some f =>
        have hfi := hle f rfl
        refine iteT ?_
        obtain ⟨ca, cdx, cws, rfl, hc1, hc2, hc3⟩ := id R.rc
        refine ⟨_, rfl, a, _, dx, _, .ref ca, rfl, R.ins, c_Reach T, n_Reach_cells T, rfl, ca, cdx, cws, rfl, R.gr.fh _ _ hc1, lookup_no (by rw [hc2]; decide +kernel), _, rfl, _, rfl, _, rfl, _, _, rfl, rfl, ?_⟩
        refine ⟨F1, [cellsD (He.ga K "Cells") one other, .int j, .int f, .int ((f : Int) + ((i + 1 - f : Nat) : Int))], fun d => d = .lst (((List.range (i + 1 - f + 1)).map fun m => cq (stl one) (stl other) (f + m) j).map cv), R.gr.fh, ⟨_, _, rfl, R.rc, _, _, rfl, rfl, _, _, rfl, rfl, _, _, rfl, ?_, rfl⟩, ⟨one, other, j, f, i + 1 - f, rfl, z1, z2, wd_lt z2 hj, ?_, rfl⟩, fun d v F2 H2 hd g1 r1 => ?_⟩
        · show V.int ((i : Int) + 1) = V.int ((f : Int) + ((i + 1 - f : Nat) : Int))
          congr 1
          omega
        · have := wd_lt z1 hi
          omega
        subst hd
        have R2 := R.gr' g1
        refine ⟨_, rfl, a, _, dx, _, vs, rfl, R2.ins, c_Reach T, n_Reach_square T, rfl, ?_⟩
        rw [row_split (fun m => cq (stl one) (stl other) m j) f (i + 1) hfi] at r1
        refine ⟨F2, [.lst ((((List.range (i + 1 - f)).map fun m => cq (stl one) (stl other) (f + m) j) ++ [cq (stl one) (stl other) (i + 1) j]).map cv), fr s], fun d => d = .bl (runOk (tS s) (fun m => cq (stl one) (stl other) m j) f (i + 1)), R2.gr.fh, RpL.two r1 R2.rs, ⟨_, _, s, rfl, ?_, zs, ?_⟩, fun d v F3 H3 hd g2 r2 => ?_⟩
        · intro x hx
          rw [← row_split (fun m => cq (stl one) (stl other) m j) f (i + 1) hfi] at hx
          obtain ⟨m, hm, rfl⟩ := List.mem_map.mp hx
          have hm' := List.mem_range.mp hm
          have h3 := wd_lt z1 hi
          exact cq_sz (stl_pz z1) (stl_pz z2) (by omega) (wd_lt z2 hj)
        · rw [← run_row (tS s) (fun m => cq (stl one) (stl other) m j) f (i + 1) hfi]
          rfl
        subst hd
        refine ⟨_, r2, ?_⟩
        have R3 := R2.gr' g2
        have nx1 : ∀ b, runOk (tS s) (fun m => cq (stl one) (stl other) m j) f (i + 1) = b → nxt (tS s) (fun m => cq (stl one) (stl other) m j) i (some f) = if b = true then some f else none := fun b e => by
          rw [← e]
          rfl
        cases hb : runOk (tS s) (fun m => cq (stl one) (stl other) m j) f (i + 1) with
        | false =>
          rw [nx1 _ hb] at hq
          refine hq F3 H3 ⟨dx, .ref ca, vs, lu, ll, ru, rl, ?_⟩
          show RTi F0 H0 F3 H3 _ _ a one other s bg _ (upd2 U (i + 1) j none) L dx (.ref ca) vs lu ll ru rl
          rw [upd2_same hn]
          exact R3
        | true =>
          rw [nx1 _ hb] at hq
          have li : i + 1 < wd one + 1 := by omega
          obtain ⟨r, hr'⟩ : ∃ r, ru[i + 1]? = some r := ⟨_, List.getElem?_eq_getElem (by rw [R.nu]; exact li)⟩
          refine ⟨_, rfl, _, rfl, a, _, dx, _, .ref lu, rfl, R3.ins, c_Reach T, n_Reach_upright T, rfl, _, rfl, _, _, rfl, rfl, lu, _, _, .ref r, rfl, rfl, SqL.of R3.hu, refs_at hr', _, rfl, r, _, _, j, rfl, rfl, R3.ru_ _ r hr', Evl.ixN_nat (by simpa [tabRow] using hj), ?_⟩
          exact hq F3 _ ⟨dx, .ref ca, vs, lu, ll, ru, rl, R3.setU (some f) hr' hj⟩
    refine rdL R (c_Reach T) (n_Reach_level T) rfl (i2 _) (i1 _) (by omega) hi _ ⟨rfl, _, rfl, ?_⟩
    rw [isn]
    cases hL : L j i with
    | some g =>
      refine iteT ⟨_, rfl, _, _, rfl, rfl, ?_⟩
      refine ⟨rfl, some (i + 1), rfl, ?_, fun f e => by cases e; exact Nat.le_refl _⟩
      rfl
    | none =>
      refine iteF ⟨_, rfl, a, dx, _, rfl, R.ins, rfl, _, rfl, _, rfl, a, (i : Int), (j : Int), dx, _, st, rfl, R.ins, rfl, _, rfl, ?_⟩
      have est : (st && (decide ((i : Int) = 0) && decide ((j : Int) = 0))) = stv st i j := by
        unfold stv
        have e1 : decide ((i : Int) = 0) = decide (i = 0) := decide_eq_decide.mpr (by omega)
        have e2 : decide ((j : Int) = 0) = decide (j = 0) := decide_eq_decide.mpr (by omega)
        rw [e1, e2]
      rw [est]
      cases hs : stv st i j with
      | true =>
        refine iteT ⟨_, rfl, _, _, rfl, rfl, ?_⟩
        refine ⟨rfl, some (i + 1), rfl, ?_, fun f e => by cases e; exact Nat.le_refl _⟩
        rfl
      | false =>
        refine iteF ?_
        refine rdU R (c_Reach T) (n_Reach_upright T) rfl (i1 _) (i2 _) (by omega) hj _ ⟨rfl, _, rfl, ?_⟩
        rw [isn]
        have eo : fstv (L j i) (U i j) (stv st i j) i = U i j := by
          unfold fstv
          rw [hL, hs]
          rfl
        cases hU : U i j with
        | none =>
          refine iteF ?_
          exact ⟨rfl, none, rfl, by first | rfl | rw [eo, hU], fun f e => by cases e⟩
        | some f =>
          refine iteT ?_
          refine rdU R (c_Reach T) (n_Reach_upright T) rfl (i1 _) (i2 _) (by omega) hj _ ?_
          exact ⟨rfl, some f, by rw [hU]; rfl, by first | rfl | rw [eo, hU], fun g e => by cases e; have := hf f hU; omega⟩
theorem sc_up : FnScope ["self", "i", "j", "first"] ["self", "i", "j"] (defScope s_Reach_go_up) := ⟨rfl, rfl, rfl, by decide +kernel, rfl, by decide +kernel, by decide +kernel⟩
theorem ok_up (T : Txt K mg) : ∃ fd, FunD K "go_up" "Reach.go_up" (defArgs s_Reach_go_up) (defBody s_Reach_go_up) (defScope s_Reach_go_up) [] [] (He.ma K (He.ga K "Reach") "go_up") fd ∧ FnOk P w K mg base CX0 7 (He.ma K (He.ga K "Reach") "go_up") fd ["self", "i", "j"] (spUp (He.ga K "Reach") (He.ga K "Cells")) := by
  obtain ⟨fd, F⟩ := T.says.def_ 61 (d := d_Reach_go_up) rfl
  obtain ⟨fds, Fs, Gs⟩ := ok_starts (P := P) (w := w) (base := base) T
  have bs : Binds K fds ["self", "i", "j"] [] := FunD.bindsN (x := "starts_in") (qual := "Reach.starts_in") (params := defArgs s_Reach_starts_in) (body := defBody s_Reach_starts_in) (scope := defScope s_Reach_starts_in) Fs (fun _ _ _ _ _ _ us hl => match us, hl with | [_, _, _], _ => rfl)
  obtain ⟨⟨fl, fdl, dsl, ml, Gl_, kl, bl, vl⟩, _⟩ := k_lets_by (P := P) (w := w) (base := base) T
  obtain ⟨clr, fr', fdr, mr, Gr_, br⟩ := k_Cells_column_of (P := P) (w := w) (base := base) T
  refine ⟨fd, F, FunD.ok (x := "go_up") (qual := "Reach.go_up") (params := defArgs s_Reach_go_up) (body := defBody s_Reach_go_up) (scope := defScope s_Reach_go_up) F sc_up (fun vs H Q E h => ?_) (fun cdv A outer s0 H vs Q E hr h => ?_)⟩
  · obtain ⟨a, i, j, F0, H0, F, one, other, s, bg, st, U, L, rfl, _⟩ := h
    rfl
  · obtain ⟨a, i, j, F0, H0, F1, one, other, s, bg, st, U, L, rfl, ⟨dx, vc, vs, lu, ll, ru, rl, R⟩, z1, z2, zs, hi, hj, hn, hf, hq⟩ := h
    refine ⟨_, PSs.nox (pss_cons (ps_set (i := 3) sc_up.nd rfl (Or.inl rfl) pe_non)
      (Evl.pss_cut (ps_if (PW.pt (pw_or (pt_cmpR op_notN (pe_ix ix_list (pe_ix ix_list (pe_fld (pv 0) rfl) (pv 1) (fun _ _ => rfl)) (pv 2) (fun _ _ => rfl)) pe_non (nomark _))
          (pw_or1 (pt_val (pe_meth (pv 0) (c_Reach T) (m_Reach_starts_in T) Gs (hr.mono (by decide)) bs .nil pass0 (pa_cons (pv 1) (pa_cons (pv 2) pa_nil)))))))
        (pss_one (ps_set (i := 3) sc_up.nd rfl (Or.inl rfl) (pe_op op_add (pv 2) pe_int)))
        (pss_one (ps_if (pt_cmpR op_notN (pe_ix ix_list (pe_ix ix_list (pe_fld (pv 0) rfl) (pv 2) (fun _ _ => rfl)) (pv 1) (fun _ _ => rfl)) pe_non (nomark _))
          (pss_one (ps_set (i := 3) sc_up.nd rfl (Or.inl rfl) (pe_ix ix_list (pe_ix ix_list (pe_fld (pv 0) rfl) (pv 2) (fun _ _ => rfl)) (pv 1) (fun _ _ => rfl)))) pss_nil)))
      (pss_one (ps_if (PW.pt (pw_and (pt_cmpR op_notN (pv 3) pe_non (nomark _)) (pw_and1 (pt_val (pe_call Gl_ (hr.mono (by decide)) (by rfl) ml kl bl vl pass0 (pa_cons (pe_meth (pe_fld (pv 0) rfl) clr mr Gr_ (hr.mono (by decide)) br .nil pass0 (pa_cons (pv 1) (pa_cons (pv 3) (pa_cons (pe_op op_add (pv 2) pe_int) pa_nil)))) (pa_cons (pe_fld (pv 0) rfl) pa_nil)))))))
        (pss_one (ps_asg (pv 3) (pg_sub (pe_ix ix_list (pe_fld (pv 0) rfl) (pe_op op_add (pv 2) pe_int) (fun _ _ => rfl)) (pv 1) set_list))) pss_nil)))), ?_⟩
    have i1 : ∀ (v : Option V), Val (tVar 1) [some (.ref a), some (.int i), some (.int j), v] H (.int (i : Int)) := fun v Q q => ⟨_, rfl, q⟩
    have i2 : ∀ (v : Option V), Val (tVar 2) [some (.ref a), some (.int i), some (.int j), v] H (.int (j : Int)) := fun v Q q => ⟨_, rfl, q⟩
    have isn : ∀ o : Option Nat, (!decide (oV o = V.non)) = o.isSome := fun o => by cases o <;> simp [oV]
    refine ⟨fun σ' H' => H' = H ∧ ∃ o : Option Nat, σ' = [some (.ref a), some (.int i), some (.int j), some (oV o)] ∧ o = fstv (U i j) (L j i) (stv st i j) j ∧ ∀ f, o = some f → f ≤ j + 1, ?main, ?fin⟩
    case fin =>
      rintro σ' H' ⟨rfl, o, rfl, ho, hle⟩
      unfold upPost at hq
      rw [← ho] at hq
      refine ⟨_, rfl, rfl, _, rfl, ?_⟩
      rw [isn]
      cases o with
      | none =>
        refine iteF ?_
        refine hq F1 H' ⟨dx, vc, vs, lu, ll, ru, rl, ?_⟩
        show RTi F0 H0 F1 H' _ _ a one other s bg _ U (upd2 L (j + 1) i none) dx vc vs lu ll ru rl
        rw [upd2_same hn]
        exact R
      | some f =>
        have hfi := hle f rfl
        refine iteT ?_
        obtain ⟨ca, cdx, cws, rfl, hc1, hc2, hc3⟩ := id R.rc
        refine ⟨_, rfl, a, _, dx, _, .ref ca, rfl, R.ins, c_Reach T, n_Reach_cells T, rfl, ca, cdx, cws, rfl, R.gr.fh _ _ hc1, lookup_no (by rw [hc2]; decide +kernel), _, rfl, _, rfl, _, rfl, _, _, rfl, rfl, ?_⟩
        refine ⟨F1, [cellsD (He.ga K "Cells") one other, .int i, .int f, .int ((f : Int) + ((j + 1 - f : Nat) : Int))], fun d => d = .lst (((List.range (j + 1 - f + 1)).map fun m => cq (stl other) (stl one) (f + m) i).map cv), R.gr.fh, ⟨_, _, rfl, R.rc, _, _, rfl, rfl, _, _, rfl, rfl, _, _, rfl, ?_, rfl⟩, ⟨one, other, i, f, j + 1 - f, rfl, z1, z2, wd_lt z1 hi, ?_, rfl⟩, fun d v F2 H2 hd g1 r1 => ?_⟩
        · show V.int ((j : Int) + 1) = V.int ((f : Int) + ((j + 1 - f : Nat) : Int))
          congr 1
          omega
        · have := wd_lt z2 hj
          omega
        subst hd
        have R2 := R.gr' g1
        refine ⟨_, rfl, a, _, dx, _, vs, rfl, R2.ins, c_Reach T, n_Reach_square T, rfl, ?_⟩
        rw [row_split (fun m => cq (stl other) (stl one) m i) f (j + 1) hfi] at r1
        refine ⟨F2, [.lst ((((List.range (j + 1 - f)).map fun m => cq (stl other) (stl one) (f + m) i) ++ [cq (stl other) (stl one) (j + 1) i]).map cv), fr s], fun d => d = .bl (runOk (tS s) (fun m => cq (stl other) (stl one) m i) f (j + 1)), R2.gr.fh, RpL.two r1 R2.rs, ⟨_, _, s, rfl, ?_, zs, ?_⟩, fun d v F3 H3 hd g2 r2 => ?_⟩
        · intro x hx
          rw [← row_split (fun m => cq (stl other) (stl one) m i) f (j + 1) hfi] at hx
          obtain ⟨m, hm, rfl⟩ := List.mem_map.mp hx
          have hm' := List.mem_range.mp hm
          have h3 := wd_lt z2 hj
          exact cq_sz (stl_pz z2) (stl_pz z1) (by omega) (wd_lt z1 hi)
        · rw [← run_row (tS s) (fun m => cq (stl other) (stl one) m i) f (j + 1) hfi]
          rfl
        subst hd
        refine ⟨_, r2, ?_⟩
        have R3 := R2.gr' g2
        have nx1 : ∀ b, runOk (tS s) (fun m => cq (stl other) (stl one) m i) f (j + 1) = b → nxt (tS s) (fun m => cq (stl other) (stl one) m i) j (some f) = if b = true then some f else none := fun b e => by
          rw [← e]
          rfl
        cases hb : runOk (tS s) (fun m => cq (stl other) (stl one) m i) f (j + 1) with
        | false =>
          rw [nx1 _ hb] at hq
          refine hq F3 H3 ⟨dx, .ref ca, vs, lu, ll, ru, rl, ?_⟩
          show RTi F0 H0 F3 H3 _ _ a one other s bg _ U (upd2 L (j + 1) i none) dx (.ref ca) vs lu ll ru rl
          rw [upd2_same hn]
          exact R3
        | true =>
          rw [nx1 _ hb] at hq
          have li : j + 1 < wd other + 1 := by omega
          obtain ⟨r, hr'⟩ : ∃ r, rl[j + 1]? = some r := ⟨_, List.getElem?_eq_getElem (by rw [R.nl]; exact li)⟩
          refine ⟨_, rfl, _, rfl, a, _, dx, _, .ref ll, rfl, R3.ins, c_Reach T, n_Reach_level T, rfl, _, rfl, _, _, rfl, rfl, ll, _, _, .ref r, rfl, rfl, SqL.of R3.hl, refs_at hr', _, rfl, r, _, _, i, rfl, rfl, R3.rl_ _ r hr', Evl.ixN_nat (by simpa [tabRow] using hi), ?_⟩
          exact hq F3 _ ⟨dx, .ref ca, vs, lu, ll, ru, rl, R3.setL (some f) hr' hi⟩
    refine rdU R (c_Reach T) (n_Reach_upright T) rfl (i1 _) (i2 _) (by omega) hj _ ⟨rfl, _, rfl, ?_⟩
    rw [isn]
    cases hL : U i j with
    | some g =>
      refine iteT ⟨_, rfl, _, _, rfl, rfl, ?_⟩
      refine ⟨rfl, some (j + 1), rfl, ?_, fun f e => by cases e; exact Nat.le_refl _⟩
      rfl
    | none =>
      refine iteF ⟨_, rfl, a, dx, _, rfl, R.ins, rfl, _, rfl, _, rfl, a, (i : Int), (j : Int), dx, _, st, rfl, R.ins, rfl, _, rfl, ?_⟩
      have est : (st && (decide ((i : Int) = 0) && decide ((j : Int) = 0))) = stv st i j := by
        unfold stv
        have e1 : decide ((i : Int) = 0) = decide (i = 0) := decide_eq_decide.mpr (by omega)
        have e2 : decide ((j : Int) = 0) = decide (j = 0) := decide_eq_decide.mpr (by omega)
        rw [e1, e2]
      rw [est]
      cases hs : stv st i j with
      | true =>
        refine iteT ⟨_, rfl, _, _, rfl, rfl, ?_⟩
        refine ⟨rfl, some (j + 1), rfl, ?_, fun f e => by cases e; exact Nat.le_refl _⟩
        rfl
      | false =>
        refine iteF ?_
        refine rdL R (c_Reach T) (n_Reach_level T) rfl (i2 _) (i1 _) (by omega) hi _ ⟨rfl, _, rfl, ?_⟩
        rw [isn]
        have eo : fstv (U i j) (L j i) (stv st i j) j = L j i := by
          unfold fstv
          rw [hL, hs]
          rfl
        cases hU : L j i with
        | none =>
          refine iteF ?_
          exact ⟨rfl, none, rfl, by first | rfl | rw [eo, hU], fun f e => by cases e⟩
        | some f =>
          refine iteT ?_
          refine rdL R (c_Reach T) (n_Reach_level T) rfl (i2 _) (i1 _) (by omega) hi _ ?_
          exact ⟨rfl, some f, by rw [hU]; rfl, by first | rfl | rw [eo, hU], fun g e => by cases e; have := hf f hU; omega⟩
end
end G
namespace G
open PySem PySem.Spec PyProof.Rows L2 DL M
section
variable {P : Program} {w : World} {K : PySem.W.Frag} {mg : Str → Option Value} {base : Heap}
def rN : List Str := ["cells", "square", "begins", "upright", "level", "started"]
def st0 (s : Rat) (bg : Bool) (one other : List Pt) : Bool := !bg && tS s (ap (gp (stl one) 0) (gp (stl other) 0))
def tuS (s : Rat) (bg : Bool) (one other : List Pt) : Nat → Nat → Option Nat := tu (tS s) bg (st0 s bg one other) (stl one) (stl other)
def tlS (s : Rat) (bg : Bool) (one other : List Pt) : Nat → Nat → Option Nat := fun j i => tl (tS s) bg (st0 s bg one other) (stl one) (stl other) i j
def reachD (C CC : Addr) (one other : List Pt) (s : Rat) (bg : Bool) : Dat := .obj C rN [cellsD CC one other, fr s, .bl bg, .lst ((List.range (wd one + 1)).map fun i => tabD (wd other) (tuS s bg one other i)), .lst ((List.range (wd other + 1)).map fun j => tabD (wd one) (tlS s bg one other j)), .bl (st0 s bg one other)]
/-- a table's rows, all new and apart -/
structure TabNew (H H' : Hp) (D : Addr) (ru : List Addr) (n m : Nat) : Prop where
  d0 : H D = none
  ex : Evl.Ex H H'
  tab : H' D = some (.lst (ru.map V.ref))
  len : ru.length = n
  row : ∀ (k : Nat) (r : Addr), ru[k]? = some r → H' r = some (.lst (tabRow m fun _ => none))
  nd : (D :: ru).Nodup
  out : ∀ b ∈ D :: ru, H b = none
theorem rep_row (m : Nat) : (List.replicate m [V.non]).flatten = tabRow m fun _ => none := by
  unfold tabRow oV
  induction m with
  | zero => rfl
  | succ m ih =>
    rw [List.replicate_succ, List.flatten_cons, ih, List.range_succ, List.map_append]
    have : ∀ n : Nat, (List.range n).map (fun _ => V.non) = List.replicate n V.non := fun n => by
      rw [List.map_const', List.length_range]
    rw [this]
    simp [← List.replicate_succ', ← List.replicate_succ]
theorem tab_lc {ta : TA} {te2 : TE} {j : Nat} {vs : List Nat} {σ : L2.St} {H : Hp} {Q : VK} {n m : Nat} (hn : n ≤ 1000) (hm : m ≤ 1000) (hta : ∀ Q : List V → Hp → Prop, Q [.int (n : Int)] H → ta σ H Q) (hte : ∀ (x : V) (H' : Hp), Evl.Ex H H' → ∀ Q : VK, Q (.int (m : Int)) H' → te2 ((wipe σ vs).set j (some x)) H' Q)
    (hw : ∀ x, wipe ((wipe σ vs).set j (some x)) vs = wipe σ vs) (hq : ∀ D ru H', TabNew H H' D ru n m → Q (.ref D) H') : tLc (iRng1 ta) (gName j) tYes (tOp rRep (tLst (tCons (tC .non) tNil)) te2) vs σ H Q := by
  refine hta _ ⟨(n : Int), rfl, by omega, by omega, fun D hD => ?_⟩
  have e0 : ((n : Int)).toNat = n := by omega
  rw [e0]
  refine lc_range (lo := 0) (n := n) (fun i H' => ∃ ru, TabNew H H' D ru i m) ⟨[], hD, Evl.Ex.new hD, upd_same, rfl, fun k r h => by simp at h, by simp, by simpa using hD⟩ ?_ (fun H' ⟨ru, t⟩ => hq D ru H' t)
  rintro i H' hi ⟨ru, t⟩
  refine ⟨hw _, ?_⟩
  dsimp only [tYes]
  refine iteT ?_
  refine ⟨by show 1 ≤ sizeLine; decide, fun l hl => ?_⟩
  have hl0 : H l = none := Evl.fresh_back t.ex hl
  refine hte _ _ (t.ex.trans (Evl.Ex.new hl)) _ ⟨l, (m : Int), [.non], rfl, rfl, upd_same, by omega, by omega, ?_, fun p hp => ?_⟩
  · have e1 : ((m : Int)).toNat = m := by omega
    rw [e1]
    simp
    exact small_len (by omega)
  have e1 : ((m : Int)).toNat = m := by omega
  rw [e1, rep_row]
  have nlp : l ≠ p := fun z => by rw [← z, upd_same] at hp; cases hp
  have hp' : H' p = none := by rw [upd_ne (Ne.symm nlp)] at hp; exact hp
  have ndp : D ≠ p := ne_of_none t.tab hp'
  have ndl : D ≠ l := ne_of_none t.tab hl
  refine ⟨ru.map V.ref, by rw [upd_ne ndp, upd_ne ndl]; exact t.tab, by rw [List.length_map, t.len]; exact small_lt (by omega), ru ++ [p], ?_⟩
  have nr : ∀ b ∈ D :: ru, b ≠ p ∧ b ≠ l := fun b hb => by
    rcases List.mem_cons.mp hb with e | hb
    · rw [e]; exact ⟨ndp, ndl⟩
    · obtain ⟨k, hk⟩ := List.mem_iff_getElem?.mp hb
      exact ⟨ne_of_none (t.row k b hk) hp', ne_of_none (t.row k b hk) hl⟩
  refine ⟨t.d0, ?_, by rw [upd_same, List.map_append]; rfl, by rw [List.length_append, t.len]; rfl, fun k r hk => ?_, ?_, ?_⟩
  · exact Evl.Ex.mut ((t.ex.trans (Evl.Ex.new hl)).trans (Evl.Ex.new hp)) t.d0
  · by_cases hlt : k < ru.length
    · rw [List.getElem?_append_left hlt] at hk
      have hm2 : r ∈ D :: ru := List.mem_cons_of_mem _ (List.mem_of_getElem? hk)
      have hDr : r ≠ D := fun z => by
        have := t.nd
        rw [List.nodup_cons] at this
        exact this.1 (z ▸ List.mem_of_getElem? hk)
      rw [upd_ne hDr, upd_ne (nr r hm2).1, upd_ne (nr r hm2).2]
      exact t.row k r hk
    · have hk2 : k = ru.length := by
        have := (List.getElem?_eq_some_iff.mp hk).1
        simp at this
        omega
      subst hk2
      rw [List.getElem?_append_right (Nat.le_refl _)] at hk
      simp at hk
      subst hk
      rw [upd_ne (Ne.symm ndp), upd_same]
  · have := t.nd
    rw [List.nodup_cons] at this ⊢
    refine ⟨?_, ?_⟩
    · intro h
      rcases List.mem_append.mp h with h | h
      · exact this.1 h
      · exact ndp (List.mem_singleton.mp h)
    · rw [List.nodup_append]
      exact ⟨this.2, by simp, fun x hx y hy z => (nr x (List.mem_cons_of_mem _ hx)).1 (z.trans (List.mem_singleton.mp hy))⟩
  · intro b hb
    rcases List.mem_cons.mp hb with e | hb
    · rw [e]; exact t.d0
    rcases List.mem_append.mp hb with hb | hb
    · exact t.out b (List.mem_cons_of_mem _ hb)
    · rw [List.mem_singleton.mp hb]
      exact Evl.fresh_back t.ex hp'
section
variable {F0 H0 F H F' H' : Hp} {C CC a : Addr} {one other : List Pt} {s : Rat} {bg : Bool} {ex : List (Str × V)} {U L U' L' : Nat → Nat → Option Nat} {dx : Addr} {vc vs : V} {lu ll : Addr} {ru rl : List Addr}
theorem tabRow_congr {n : Nat} {g g' : Nat → Option Nat} (h : ∀ j, j < n → g j = g' j) : tabRow n g = tabRow n g' := by
  unfold tabRow
  refine List.map_congr_left fun j hj => ?_
  rw [h j (List.mem_range.mp hj)]
theorem RTi.congr (R : RTi F0 H0 F H C CC a one other s bg ex U L dx vc vs lu ll ru rl) (hU : ∀ i j, i ≤ wd one → j < wd other → U i j = U' i j) (hL : ∀ j i, j ≤ wd other → i < wd one → L j i = L' j i) : RTi F0 H0 F H C CC a one other s bg ex U' L' dx vc vs lu ll ru rl where
  gr := R.gr
  ins := R.ins
  rc := R.rc
  rs := R.rs
  hu := R.hu
  hl := R.hl
  nu := R.nu
  nl := R.nl
  ru_ := fun i r h => by
    have := (List.getElem?_eq_some_iff.mp h).1
    rw [R.nu] at this
    rw [← tabRow_congr fun j hj => hU i j (by omega) hj]
    exact R.ru_ i r h
  rl_ := fun j r h => by
    have := (List.getElem?_eq_some_iff.mp h).1
    rw [R.nl] at this
    rw [← tabRow_congr fun i hi => hL j i (by omega) hi]
    exact R.rl_ j r h
  nd := R.nd
  out := R.out
/-- self.started is stored -/
theorem RTi.start (R : RTi F0 H0 F H C CC a one other s bg [] U L dx vc vs lu ll ru rl) (v : V) : RTi F0 H0 F (upd H a (.ins C dx (putF "started" v (baseF vc vs bg lu ll ++ [])))) C CC a one other s bg [("started", v)] U L dx vc vs lu ll ru rl := by
  obtain ⟨o1, o2⟩ := R.out a (by simp)
  have e1 : lu ≠ a := ne_of R.hu R.ins (by intro z; cases z)
  have e2 : ll ≠ a := ne_of R.hl R.ins (by intro z; cases z)
  refine ⟨R.gr.mut o2 o1, ?_, R.rc, R.rs, by rw [upd_ne e1]; exact R.hu, by rw [upd_ne e2]; exact R.hl, R.nu, R.nl, fun i r h => ?_, fun j r h => ?_, R.nd, R.out⟩
  · rw [upd_same, putF_new (by simp [baseF]; decide +kernel)]
    rfl
  · have := R.ru_ i r h
    rw [upd_ne (ne_of this R.ins (by intro z; cases z))]
    exact this
  · have := R.rl_ j r h
    rw [upd_ne (ne_of this R.ins (by intro z; cases z))]
    exact this
theorem rpl_row {F : Hp} (n : Nat) (g : Nat → Option Nat) : RpL F ((List.range n).map fun j => oD (g j)) (tabRow n g) := by
  unfold tabRow
  exact RpL.mapOf (f := fun j => oD (g j)) (g := fun j => oV (g j)) (fun j => oD_rp (g j)) _
theorem rpl_tab {F : Hp} {m : Nat} : ∀ (n : Nat) (U : Nat → Nat → Option Nat) (k : Nat) (ru : List Addr), ru.length = n → (∀ (i : Nat) (r : Addr), ru[i]? = some r → F r = some (.lst (tabRow m (U (k + i))))) → RpL F ((List.range n).map fun i => tabD m (U (k + i))) (ru.map V.ref)
  | 0, U, k, ru, hl, _ => by
    rw [List.eq_nil_of_length_eq_zero hl]
    rfl
  | n + 1, U, k, [], hl, _ => by simp at hl
  | n + 1, U, k, r :: ru, hl, h => by
    rw [List.range_succ_eq_map, List.map_cons, List.map_map, List.map_cons]
    refine ⟨_, _, rfl, ⟨r, _, rfl, h 0 r rfl, rpl_row m _⟩, ?_⟩
    have := rpl_tab (F := F) (m := m) n U (k + 1) ru (by simpa using hl) (fun i r' hi => by have := h (i + 1) r' (by simpa using hi); rw [show k + 1 + i = k + (i + 1) by omega]; exact this)
    refine cast ?_ this
    congr 1
    refine List.map_congr_left fun i _ => ?_
    show tabD m (U (k + 1 + i)) = tabD m (U (k + (i + 1)))
    rw [show k + 1 + i = k + (i + 1) by omega]
theorem RTi.close (R : RTi F0 H0 F H C CC a one other s bg [("started", .bl (st0 s bg one other))] (tuS s bg one other) (tlS s bg one other) dx vc vs lu ll ru rl) : ∃ F', Gr F0 H0 F' H ∧ Rp F' (reachD C CC one other s bg) (.ref a) := by
  refine ⟨fun b => if b ∈ a :: lu :: ll :: (ru ++ rl) then H b else F b, ?_, ?_⟩
  · refine ⟨fun b o h => ?_, R.gr.eH, fun b o h => ?_, fun b o h => ?_⟩
    · have hF := R.gr.eF b o h
      have : ¬ b ∈ a :: lu :: ll :: (ru ++ rl) := fun z => by rw [(R.out b z).1] at hF; cases hF
      show (if b ∈ a :: lu :: ll :: (ru ++ rl) then H b else F b) = _
      rw [if_neg this]
      exact hF
    · have h : (if b ∈ a :: lu :: ll :: (ru ++ rl) then H b else F b) = some o := h
      split at h
      · exact h
      · exact R.gr.fh b o h
    · have h : (if b ∈ a :: lu :: ll :: (ru ++ rl) then H b else F b) = some o := h
      split at h
      · rename_i z
        exact .inr (.inl (R.out b z).2)
      · exact R.gr.new b o h
  · have eF : Evl.Ex F (fun b => if b ∈ a :: lu :: ll :: (ru ++ rl) then H b else F b) := fun b o h => by
      have : ¬ b ∈ a :: lu :: ll :: (ru ++ rl) := fun z => by rw [(R.out b z).1] at h; cases h
      show (if b ∈ a :: lu :: ll :: (ru ++ rl) then H b else F b) = _
      rw [if_neg this]
      exact h
    have at_ : ∀ b ∈ a :: lu :: ll :: (ru ++ rl), (fun b => if b ∈ a :: lu :: ll :: (ru ++ rl) then H b else F b) b = H b := fun b hb => if_pos hb
    refine ⟨a, dx, _, rfl, (at_ a (by simp)).trans R.ins, rfl, ?_⟩
    refine ⟨_, _, rfl, Rp.mono eF _ R.rc, _, _, rfl, Rp.mono eF _ R.rs, _, _, rfl, by unfold Rp; rfl, _, _, rfl, ⟨lu, _, rfl, (at_ lu (by simp)).trans R.hu, ?_⟩, _, _, rfl, ⟨ll, _, rfl, (at_ ll (by simp)).trans R.hl, ?_⟩, _, _, rfl, by unfold Rp; rfl, rfl⟩
    · have := rpl_tab (F := fun b => if b ∈ a :: lu :: ll :: (ru ++ rl) then H b else F b) (m := wd other) (wd one + 1) (tuS s bg one other) 0 ru R.nu (fun i r h => by
        rw [Nat.zero_add]
        refine (at_ r (by have := List.mem_of_getElem? h; simp [this])).trans ?_
        exact R.ru_ i r h)
      simpa only [Nat.zero_add] using this
    · have := rpl_tab (F := fun b => if b ∈ a :: lu :: ll :: (ru ++ rl) then H b else F b) (m := wd one) (wd other + 1) (tlS s bg one other) 0 rl R.nl (fun i r h => by
        rw [Nat.zero_add]
        refine (at_ r (by have := List.mem_of_getElem? h; simp [this])).trans ?_
        exact R.rl_ i r h)
      simpa only [Nat.zero_add] using this
end
end
end G
namespace G
open PySem PySem.Spec PyProof.Rows L2 DL M
section
variable {P : Program} {w : World} {K : PySem.W.Frag} {mg : Str → Option Value} {base : Heap}
theorem upd_upd {H : Hp} {x : Addr} {o1 o2 : HO} : upd (upd H x o1) x o2 = upd H x o2 := by
  funext b
  by_cases h : b = x
  · subst h; rw [upd_same, upd_same]
  · rw [upd_ne h, upd_ne h, upd_ne h]
theorem TabNew.ne {H H' : Hp} {D : Addr} {ru : List Addr} {n m : Nat} (t : TabNew H H' D ru n m) {x : Addr} {o : HO} (h : H x = some o) : x ∉ D :: ru := fun z => by rw [t.out x z] at h; cases h
theorem TabNew.has {H H' : Hp} {D : Addr} {ru : List Addr} {n m : Nat} (t : TabNew H H' D ru n m) {b : Addr} (h : b ∈ D :: ru) : ∃ o, H' b = some o := by
  rcases List.mem_cons.mp h with e | h
  · rw [e]; exact ⟨_, t.tab⟩
  · obtain ⟨k, hk⟩ := List.mem_iff_getElem?.mp h
    exact ⟨_, t.row k b hk⟩
/-- the tables made, all None -/
theorem RTi.first {F H Hc H4 H6 : Hp} {C CC x dx lu ll : Addr} {vc vs : V} {one other : List Pt} {s : Rat} {bg : Bool} {ru rl : List Addr} (hF : Evl.Ex F H) (hFx : F x = none)
    (hc : ∀ b, b ≠ x → Hc b = H b) (hcx : Hc x = some (.ins C dx [("cells", vc), ("square", vs), ("begins", .bl bg)])) (rc : Rp F (cellsD CC one other) vc) (rs : Rp F (fr s) vs)
    (t1 : TabNew Hc H4 lu ru (wd one + 1) (wd other)) (t2 : TabNew (upd H4 x (.ins C dx [("cells", vc), ("square", vs), ("begins", .bl bg), ("upright", .ref lu)])) H6 ll rl (wd other + 1) (wd one)) :
    RTi F (fun b => if b = x then none else H b) F (upd H6 x (.ins C dx (baseF vc vs bg lu ll))) C CC x one other s bg [] (fun _ _ => none) (fun _ _ => none) dx vc vs lu ll ru rl := by
  have x4 := t1.ex _ _ hcx
  have nx1 := t1.ne hcx
  have nx2 := t2.ne (upd_same : (upd H4 x _) x = _)
  have ne1 : ∀ b ∈ lu :: ru, b ≠ x := fun b hb z => nx1 (z ▸ hb)
  have ne2 : ∀ b ∈ ll :: rl, b ≠ x := fun b hb z => nx2 (z ▸ hb)
  have up : ∀ b ∈ lu :: ru, ∀ o, H4 b = some o → (upd H6 x (.ins C dx (baseF vc vs bg lu ll))) b = some o := fun b hb o h => by
    rw [upd_ne (ne1 b hb)]
    refine t2.ex _ _ ?_
    rw [upd_ne (ne1 b hb)]
    exact h
  have up2 : ∀ b ∈ ll :: rl, ∀ o, H6 b = some o → (upd H6 x (.ins C dx (baseF vc vs bg lu ll))) b = some o := fun b hb o h => by
    rw [upd_ne (ne2 b hb)]
    exact h
  have ap_ : ∀ b ∈ lu :: ru, b ∉ ll :: rl := fun b hb => by
    obtain ⟨o, ho⟩ := t1.has hb
    exact t2.ne (by rw [upd_ne (ne1 b hb)]; exact ho)
  have exH : ∀ b o, b ≠ x → H b = some o → (upd H6 x (.ins C dx (baseF vc vs bg lu ll))) b = some o := fun b o hb h => by
    rw [upd_ne hb]
    refine t2.ex _ _ ?_
    rw [upd_ne hb]
    exact t1.ex _ _ (by rw [hc b hb]; exact h)
  have nF : ∀ b o, F b = some o → b ≠ x := fun b o h z => by rw [z, hFx] at h; cases h
  refine ⟨⟨Evl.Ex.refl F, fun b o h => ?_, fun b o h => exH b o (nF b o h) (hF b o h), fun b o h => .inl h⟩, by rw [upd_same, List.append_nil], rc, rs, up lu (by simp) _ t1.tab, up2 ll (by simp) _ t2.tab, t1.len, t2.len,
    fun i r h => up r (List.mem_cons_of_mem _ (List.mem_of_getElem? h)) _ (t1.row i r h), fun j r h => up2 r (List.mem_cons_of_mem _ (List.mem_of_getElem? h)) _ (t2.row j r h), ?_, ?_⟩
  · have h : (if b = x then none else H b) = some o := h
    by_cases z : b = x
    · rw [if_pos z] at h; cases h
    · rw [if_neg z] at h
      exact exH b o z h
  · have n1 := t1.nd
    have n2 := t2.nd
    have e : (lu :: ru) ++ (ll :: rl) |>.Nodup := by
      rw [List.nodup_append]
      exact ⟨n1, n2, fun a ha b hb z => ap_ a ha (z ▸ hb)⟩
    refine (List.Perm.nodup_iff ?_).mp e
    exact List.Perm.cons _ List.perm_middle
  · intro b hb
    have o1 : b ≠ x → Hc b = none → F b = none ∧ (if b = x then none else H b) = none := fun z h => by
      rw [hc b z] at h
      rw [if_neg z]
      exact ⟨Evl.fresh_back hF h, h⟩
    have q1 : b ∈ lu :: ru → F b = none ∧ (if b = x then none else H b) = none := fun hb => o1 (ne1 b hb) (t1.out b hb)
    have q2 : b ∈ ll :: rl → F b = none ∧ (if b = x then none else H b) = none := fun hb => o1 (ne2 b hb) (Evl.fresh_back t1.ex (by have := t2.out b hb; rw [upd_ne (ne2 b hb)] at this; exact this))
    rcases List.mem_cons.mp hb with e | hb
    · subst e
      exact ⟨hFx, by show (if b = b then none else H b) = none; rw [if_pos rfl]⟩
    rcases List.mem_cons.mp hb with e | hb
    · exact q1 (e ▸ List.mem_cons_self)
    rcases List.mem_cons.mp hb with e | hb
    · exact q2 (e ▸ List.mem_cons_self)
    rcases List.mem_append.mp hb with hb | hb
    · exact q1 (List.mem_cons_of_mem _ hb)
    · exact q2 (List.mem_cons_of_mem _ hb)
/-- cells.upright[0][j] read -/
theorem rdCell {K : PySem.W.Frag} {F H : Hp} {CC : Addr} {one other : List Pt} {vc : V} (cl : Cls K CC) (na : NoAttr K CC "upright") (e : Evl.Ex F H) (rc : Rp F (cellsD CC one other) vc) {i j : Nat} (hi : i < (stl one).length) (hj : j + 1 < (stl other).length) {σ : L2.St} {tc ti tj : TE}
    (hc : Val tc σ H vc) (h1 : Val ti σ H (.int (i : Int))) (h2 : Val tj σ H (.int (j : Int))) : ∃ v, Rp F (cv (cq (stl one) (stl other) i j)) v ∧ Val (tOp (rIxL K) (tOp (rIxL K) (tFld K tc "upright") ti) tj) σ H v := by
  obtain ⟨ca, cdx, cws, rfl, hc1, hc2, hc3⟩ := id rc
  obtain ⟨w, w1, w2⟩ := look_get hc2 hc3 (f := "upright") (d := rowsD (cvs (stl one) (stl other))) rfl
  obtain ⟨l, ls, rfl, q2, q3⟩ := id w2
  obtain ⟨u, u1, u2⟩ := q3.at (i := (i : Int)) (atm (f := fun l => Dat.lst (l.map cv)) (l := cvs (stl one) (stl other)) (i := i) (c := (List.range ((stl other).length - 1)).map fun k => cq (stl one) (stl other) i k) (by unfold cvs; rw [List.getElem?_map, List.getElem?_range hi]; rfl))
  obtain ⟨m, ms, rfl, p2, p3⟩ := id u2
  obtain ⟨y, y1, y2⟩ := p3.at (i := (j : Int)) (atm (f := cv) (i := j) (c := cq (stl one) (stl other) i j) (by rw [List.getElem?_map, List.getElem?_range (by omega)]; rfl))
  exact ⟨y, y2, fun Q q => hc _ ⟨ca, _, cdx, _, .ref l, rfl, e _ _ hc1, cl, na, w1, h1 _ ⟨l, _, _, .ref m, rfl, rfl, SqL.of (e _ _ q2), u1, h2 _ ⟨m, _, _, _, rfl, rfl, SqL.of (e _ _ p2), y1, q⟩⟩⟩⟩
end
end G
namespace G
open PySem PySem.Spec PyProof.Rows L2 DL M
section
variable {P : Program} {w : World} {K : PySem.W.Frag} {mg : Str → Option Value} {base : Heap}
def Uat (bg : Bool) (U : Nat → Nat → Option Nat) (i j : Nat) : Nat → Nat → Option Nat := fun i' j' => if i' = 0 ∨ j' < j ∨ (j' = j ∧ i' ≤ i) then U i' j' else none
def Lat (L : Nat → Nat → Option Nat) (i j : Nat) : Nat → Nat → Option Nat := fun j' i' => if j' ≤ j ∨ (j' = j + 1 ∧ i' < i) then L j' i' else none
def outP (K : PySem.W.Frag) (F1 H : Hp) (x ca : Addr) (vs : V) (bg : Bool) (one other : List Pt) (s : Rat) (j : Nat) : L2.St → Hp → Prop := fun σ' H' => ∃ v4 v5 F', σ' = [some (.ref x), some (.ref ca), some vs, some (.bl bg), v4, v5] ∧ RT F1 (fun b => if b = x then none else H b) F' H' (He.ga K "Reach") (He.ga K "Cells") x one other s bg [("started", .bl (st0 s bg one other))] (Uat bg (tuS s bg one other) 0 j) (Lat (tlS s bg one other) 0 j)
def innP (K : PySem.W.Frag) (F1 H : Hp) (x ca : Addr) (vs : V) (bg : Bool) (one other : List Pt) (s : Rat) (j i : Nat) : L2.St → Hp → Prop := fun σ' H' => ∃ v5 F', σ' = [some (.ref x), some (.ref ca), some vs, some (.bl bg), some (.int (j : Int)), v5] ∧ RT F1 (fun b => if b = x then none else H b) F' H' (He.ga K "Reach") (He.ga K "Cells") x one other s bg [("started", .bl (st0 s bg one other))] (Uat bg (tuS s bg one other) i j) (Lat (tlS s bg one other) i j)
abbrev nm_Rinit : List Str := ["self", "cells", "square", "begins", "j", "i"]
theorem sc_Rinit : FnScope nm_Rinit ["self", "cells", "square", "begins"] (defScope s_Reach_init) := ⟨rfl, rfl, rfl, by decide +kernel, rfl, by decide +kernel, by decide +kernel⟩
def t_Reach_init (C CC : Addr) : Tr := fun ds k => ∃ (one other : List Pt) (s : Rat) (bg : Bool), ds = [cellsD CC one other, fr s, .bl bg] ∧ Lz one ∧ Lz other ∧ Fz 4000 s ∧ k (reachD C CC one other s bg)
theorem mk_Reach (T : Txt K mg) : KeptC P w K mg base "Reach" (He.ga K "Reach") ["self", "cells", "square", "begins"] 10 (t_Reach_init (He.ga K "Reach") (He.ga K "Cells")) := by
  obtain ⟨fd, F⟩ := T.says.def_ 58 (d := d_Reach_init) rfl
  obtain ⟨fdr, Fr, Gr_⟩ := ok_go (P := P) (w := w) (base := base) T
  obtain ⟨fdu, Fu, Gu_⟩ := ok_up (P := P) (w := w) (base := base) T
  have br : Binds K fdr ["self", "i", "j"] [] := FunD.bindsN (x := "go_right") (qual := "Reach.go_right") (params := defArgs s_Reach_go_right) (body := defBody s_Reach_go_right) (scope := defScope s_Reach_go_right) Fr (fun _ _ _ _ _ _ us hl => match us, hl with | [_, _, _], _ => rfl)
  have bu : Binds K fdu ["self", "i", "j"] [] := FunD.bindsN (x := "go_up") (qual := "Reach.go_up") (params := defArgs s_Reach_go_up) (body := defBody s_Reach_go_up) (scope := defScope s_Reach_go_up) Fu (fun _ _ _ _ _ _ us hl => match us, hl with | [_, _, _], _ => rfl)
  obtain ⟨⟨fl, fdl, dsl, ml, Gl_, kl, bl, vl⟩, _⟩ := k_less (P := P) (w := w) (base := base) T
  obtain ⟨⟨fw, fdw, dsw, mw, Gw_, kw, bw, vw⟩, _⟩ := k_least_worth (P := P) (w := w) (base := base) T
  obtain ⟨cla, fa', fda, ma, Ga_, ba⟩ := k_Cells_apart (P := P) (w := w) (base := base) T
  refine ⟨g_Reach T, _, fd, r_Reach T, FunD.ok (x := "__init__") (qual := "Reach.__init__") (params := defArgs s_Reach_init) (body := defBody s_Reach_init) (scope := defScope s_Reach_init) F sc_Rinit (fun vs H Q E h => ?_) (fun cdv A outer s0 H vs Q E hr h => ?_), FunD.bindsN (x := "__init__") (qual := "Reach.__init__") (params := defArgs s_Reach_init) (body := defBody s_Reach_init) (scope := defScope s_Reach_init) F (fun _ _ _ _ _ _ us hl => match us, hl with | [_, _, _, _], _ => rfl)⟩
  · obtain ⟨F1, ds, kk, x, dx, rest, rfl, _, _, _, r, ⟨one, other, s, bg, rfl, _⟩, _⟩ := h
    rw [List.length_cons, ← r.length]
    rfl
  · obtain ⟨F1, ds, kk, x, dx, rest, rfl, hx, hF, hFx, r, ⟨one, other, s, bg, rfl, z1, z2, zs, hk⟩, hq⟩ := h
    refine ⟨_, PSs.nox (pss_cons (ps_fld (pv 0) (pv 1) (by rfl)) (pss_cons (ps_fld (pv 0) (pv 2) (by rfl)) (pss_cons (ps_fld (pv 0) (pv 3) (by rfl))
      (Evl.pss_cut (ps_fld (pv 0) (pe_lc (own := [("i", 5)]) rfl sc_Rinit.nd (pi_range1 (by rfl) (f_range T) (pa_cons (pe_op op_add (pe_fld (pv 1) rfl) pe_int) pa_nil)) (blkOk_by (N := nm_Rinit) (sc := defScope s_Reach_init) (by decide +kernel)) (fun _ _ _ _ _ => pg_name (i := 5) sc_Rinit.nd rfl (by first | exact .inl rfl | exact .inr rfl)) (fun _ _ _ _ _ => pts_nil) (fun s H C cl fp => pe_op op_rep (pe_lst (pa_cons pe_non pa_nil)) (show PE _ _ (tFld K (tVar 1) "high") from pe_fld (pv 1) rfl))) (by rfl))
      (Evl.pss_cut (ps_fld (pv 0) (pe_lc (own := [("j", 4)]) rfl sc_Rinit.nd (pi_range1 (by rfl) (f_range T) (pa_cons (pe_op op_add (pe_fld (pv 1) rfl) pe_int) pa_nil)) (blkOk_by (N := nm_Rinit) (sc := defScope s_Reach_init) (by decide +kernel)) (fun _ _ _ _ _ => pg_name (i := 4) sc_Rinit.nd rfl (by first | exact .inl rfl | exact .inr rfl)) (fun _ _ _ _ _ => pts_nil) (fun s H C cl fp => pe_op op_rep (pe_lst (pa_cons pe_non pa_nil)) (show PE _ _ (tFld K (tVar 1) "wide") from pe_fld (pv 1) rfl))) (by rfl))
      (pss_cons (ps_for PassesOwn.never rfl (pi_range1 (by rfl) (f_range T) (pa_cons (pe_fld (pv 1) rfl) pa_nil)) (pg_name (i := 4) sc_Rinit.nd rfl (by first | exact .inl rfl | exact .inr rfl))
        (pss_one (ps_if (PW.pt (pw_and (pt_val (pv 3)) (pw_and1 (pt_not (pt_val (pe_call Gl_ (hr.mono (by decide)) (by rfl) ml kl bl vl pass0 (pa_cons (pv 2) (pa_cons (pe_call Gw_ (hr.mono (by decide)) (by rfl) mw kw bw vw pass0 (pa_cons (pe_ix ix_list (pe_ix ix_list (pe_fld (pv 1) rfl) pe_int (fun _ _ => rfl)) (pv 4) (fun _ _ => rfl)) pa_nil)) pa_nil))))))))
          (pss_one (ps_asg pe_int (pg_sub (pe_ix ix_list (pe_fld (pv 0) rfl) pe_int (fun _ _ => rfl)) (pv 4) set_list))) pss_nil)))
      (Evl.pss_cut (ps_fld (pv 0) (pe_and (pe_not (pv 3)) (pe_one (pe_not (pe_call Gl_ (hr.mono (by decide)) (by rfl) ml kl bl vl pass0 (pa_cons (pv 2) (pa_cons (pe_meth (pv 1) cla ma Ga_ (hr.mono (by decide)) ba .nil pass0 (pa_cons pe_int (pa_cons pe_int pa_nil))) pa_nil)))))) (by rfl))
      (pss_one (ps_for PassesOwn.never rfl (pi_range1 (by rfl) (f_range T) (pa_cons (pe_fld (pv 1) rfl) pa_nil)) (pg_name (i := 4) sc_Rinit.nd rfl (by first | exact .inl rfl | exact .inr rfl))
        (pss_one (ps_for PassesOwn.never rfl (pi_range1 (by rfl) (f_range T) (pa_cons (pe_fld (pv 1) rfl) pa_nil)) (pg_name (i := 5) sc_Rinit.nd rfl (by first | exact .inl rfl | exact .inr rfl))
          (pss_cons (ps_expr (pe_meth (pv 0) (c_Reach T) (m_Reach_go_right T) Gr_ (hr.mono (by decide)) br .nil pass0 (pa_cons (pv 5) (pa_cons (pv 4) pa_nil))))
          (pss_one (ps_expr (pe_meth (pv 0) (c_Reach T) (m_Reach_go_up T) Gu_ (hr.mono (by decide)) bu .nil pass0 (pa_cons (pv 5) (pa_cons (pv 4) pa_nil))))))))))))))))), ?_⟩
    obtain ⟨vc, ws1, rfl, rc, r1⟩ := r
    obtain ⟨vs, ws2, rfl, rs, r2⟩ := r1
    obtain ⟨vb, ws3, rfl, rb, r3⟩ := r2
    obtain rfl : vb = V.bl bg := rb
    obtain rfl : ws3 = [] := r3
    have stlz1 := stl_len z1
    have stlz2 := stl_len z2
    have ew1 : (stl one).length = wd one + 1 := by unfold wd; omega
    have ew2 : (stl other).length = wd other + 1 := by unfold wd; omega
    obtain ⟨ca, cdx, cws, rfl, hc1, hc2, hc3⟩ := id rc
    obtain ⟨w1, hw1, hw2⟩ := look_get hc2 hc3 (f := "wide") (d := .int (((stl one).length : Int) - 1)) rfl
    obtain ⟨w2, hh1, hh2⟩ := look_get hc2 hc3 (f := "high") (d := .int (((stl other).length : Int) - 1)) rfl
    obtain rfl : w1 = .int (wd one : Int) := (show w1 = V.int _ from hw2).trans (by congr 1; omega)
    obtain rfl : w2 = .int (wd other : Int) := (show w2 = V.int _ from hh2).trans (by congr 1; omega)
    refine ⟨_, rfl, _, rfl, x, _, dx, [], rfl, hx, c_Reach T, n_Reach_cells T, by decide, ?_⟩
    refine ⟨_, rfl, _, rfl, x, _, dx, _, rfl, upd_same, c_Reach T, n_Reach_square T, Nat.le_of_ble_eq_true rfl, ?_⟩
    refine ⟨_, rfl, _, rfl, x, _, dx, _, rfl, upd_same, c_Reach T, n_Reach_begins T, Nat.le_of_ble_eq_true rfl, ?_⟩
    rw [upd_upd, upd_upd]
    obtain ⟨Hc, eHc⟩ : ∃ Hc, Hc = upd H x (.ins (He.ga K "Reach") dx [("cells", .ref ca), ("square", vs), ("begins", .bl bg)]) := ⟨_, rfl⟩
    have eHc' : upd H x (HO.ins (He.ga K "Reach") dx (putF "begins" (V.bl bg) (putF "square" vs (putF "cells" (V.ref ca) [])))) = Hc := by rw [eHc]; congr 1
    refine eHc'.symm ▸ ?_
    have hcx : Hc x = some (.ins (He.ga K "Reach") dx [("cells", .ref ca), ("square", vs), ("begins", .bl bg)]) := by rw [eHc, upd_same]
    have hcn : ∀ b, b ≠ x → Hc b = H b := fun b hb => by rw [eHc, upd_ne hb]
    have eFc : Evl.Ex F1 Hc := fun b o h => by
      rw [hcn b (fun z => by rw [z, hFx] at h; cases h)]
      exact hF b o h
    have wv_ : ∀ {σ : L2.St} {H' : Hp}, σ[1]? = some (some (V.ref ca)) → Evl.Ex F1 H' → Val (tFld K (tVar 1) "wide") σ H' (.int (wd one : Int)) := fun h0 e Q q => ⟨_, h0, ca, _, cdx, _, _, rfl, e _ _ hc1, c_Cells T, n_Cells_wide T, hw1, q⟩
    have hv_ : ∀ {σ : L2.St} {H' : Hp}, σ[1]? = some (some (V.ref ca)) → Evl.Ex F1 H' → Val (tFld K (tVar 1) "high") σ H' (.int (wd other : Int)) := fun h0 e Q q => ⟨_, h0, ca, _, cdx, _, _, rfl, e _ _ hc1, c_Cells T, n_Cells_high T, hh1, q⟩
    refine ⟨fun σ H' => σ = [some (.ref x), some (.ref ca), some vs, some (.bl bg), none, none] ∧ ∃ lu ru H4, H' = upd H4 x (.ins (He.ga K "Reach") dx [("cells", .ref ca), ("square", vs), ("begins", .bl bg), ("upright", .ref lu)]) ∧ TabNew Hc H4 lu ru (wd one + 1) (wd other), ?up, ?rest⟩
    case up =>
      unfold sFld
      dsimp only
      show tLc (iRng1 (tCons (tOp (rI0 fun i j => V.int (i + j)) (tFld K (tVar 1) "wide") (tC (V.int 1))) tNil)) (gName 5) tYes (tOp rRep (tLst (tCons (tC V.non) tNil)) (tFld K (tVar 1) "high")) [5] _ _ _
      refine tab_lc (n := wd one + 1) (m := wd other) (by omega) (by omega) ?ta ?te ?hw ?hq
      case hw => exact fun v => rfl
      case ta =>
        intro Q q
        unfold tCons tOp
        exact wv_ rfl eFc _ ⟨_, _, rfl, rfl, q⟩
      case te => exact fun v H' e Q q => hv_ rfl (eFc.trans e) _ q
      intro lu ru H4 t1
      refine ⟨_, rfl, x, _, dx, _, rfl, t1.ex _ _ hcx, c_Reach T, n_Reach_upright T, Nat.le_of_ble_eq_true rfl, ?_⟩
      exact ⟨rfl, lu, ru, H4, rfl, t1⟩
    rintro σ0 H0' ⟨rfl, lu, ru, H4, rfl, t1⟩
    have e14 := eFc.trans t1.ex
    have e5 : Evl.Ex F1 (upd H4 x (.ins (He.ga K "Reach") dx [("cells", .ref ca), ("square", vs), ("begins", .bl bg), ("upright", .ref lu)])) := fun b o h => by
      rw [upd_ne (fun z => by rw [z, hFx] at h; cases h)]
      exact e14 b o h
    refine ⟨fun σ H' => σ = [some (.ref x), some (.ref ca), some vs, some (.bl bg), none, none] ∧ ∃ ll rl H6, H' = upd H6 x (.ins (He.ga K "Reach") dx (baseF (.ref ca) vs bg lu ll)) ∧ TabNew (upd H4 x (.ins (He.ga K "Reach") dx [("cells", .ref ca), ("square", vs), ("begins", .bl bg), ("upright", .ref lu)])) H6 ll rl (wd other + 1) (wd one), ?lv, ?rest2⟩
    case lv =>
      unfold sFld
      dsimp only
      show tLc (iRng1 (tCons (tOp (rI0 fun i j => V.int (i + j)) (tFld K (tVar 1) "high") (tC (V.int 1))) tNil)) (gName 4) tYes (tOp rRep (tLst (tCons (tC V.non) tNil)) (tFld K (tVar 1) "wide")) [4] _ _ _
      refine tab_lc (n := wd other + 1) (m := wd one) (by omega) (by omega) ?ta2 ?te2 ?hw2 ?hq2
      case hw2 => exact fun v => rfl
      case ta2 =>
        intro Q q
        unfold tCons tOp
        exact hv_ rfl e5 _ ⟨_, _, rfl, rfl, q⟩
      case te2 => exact fun v H' e Q q => wv_ rfl (e5.trans e) _ q
      intro ll rl H6 t2
      refine ⟨_, rfl, x, _, dx, _, rfl, t2.ex _ _ upd_same, c_Reach T, n_Reach_level T, Nat.le_of_ble_eq_true rfl, ?_⟩
      exact ⟨rfl, ll, rl, H6, rfl, t2⟩
    rintro σ0 H0' ⟨rfl, ll, rl, H6, rfl, t2⟩
    have R0 := RTi.first hF hFx hcn hcx rc rs t1 t2
    refine hv_ rfl R0.gr.fh _ ⟨_, rfl, by omega, by omega, ?_⟩
    rw [show ((wd other : Nat) : Int).toNat = wd other from Int.toNat_natCast _]
    refine for_range (fun k σ' H' => ∃ v4 F', σ' = [some (.ref x), some (.ref ca), some vs, some (.bl bg), v4, none] ∧ RTi F1 (fun b => if b = x then none else H b) F' H' (He.ga K "Reach") (He.ga K "Cells") x one other s bg [] (fun i j => if i = 0 ∧ j < k then tuS s bg one other 0 j else none) (fun _ _ => none) dx (.ref ca) vs lu ll ru rl) ⟨_, F1, rfl, R0.congr (fun i j _ _ => ?_) (fun j i _ _ => rfl)⟩ ?step ?fin
    · rw [if_neg (fun z => absurd z.2 (Nat.not_lt_zero _))]
    case step =>
      rintro j σ' H' hj ⟨v4, F2, rfl, R⟩
      rw [Int.zero_add]
      have hf : ∀ b, (bg && tS s (lw (cq (stl one) (stl other) 0 j))) = b → ∀ F' H', RTi F1 (fun b => if b = x then none else H b) F' H' (He.ga K "Reach") (He.ga K "Cells") x one other s bg [] (upd2 (fun i j' => if i = 0 ∧ j' < j then tuS s bg one other 0 j' else none) 0 j (if b = true then some 0 else none)) (fun _ _ => none) dx (.ref ca) vs lu ll ru rl →
          RTi F1 (fun b => if b = x then none else H b) F' H' (He.ga K "Reach") (He.ga K "Cells") x one other s bg [] (fun i j' => if i = 0 ∧ j' < j + 1 then tuS s bg one other 0 j' else none) (fun _ _ => none) dx (.ref ca) vs lu ll ru rl := fun b hb F' H' R' => R'.congr (fun i j' _ _ => by
        unfold upd2
        have e0 : tuS s bg one other 0 j = if b = true then some 0 else none := by
          unfold tuS
          rw [tu_zero]
          unfold baseU
          rw [hb]
        by_cases q : i = 0 ∧ j' = j
        · rw [if_pos q, if_pos (show i = 0 ∧ j' < j + 1 from ⟨q.1, by omega⟩), q.2, e0]
        · rw [if_neg q]
          dsimp only
          by_cases q2 : i = 0 ∧ j' < j
          · rw [if_pos q2, if_pos (show i = 0 ∧ j' < j + 1 from ⟨q2.1, by omega⟩)]
          · rw [if_neg q2, if_neg (show ¬ (i = 0 ∧ j' < j + 1) by omega)]) (fun _ _ _ _ => rfl)
      have hno : ∀ F' H', (bg && tS s (lw (cq (stl one) (stl other) 0 j))) = false → RTi F1 (fun b => if b = x then none else H b) F' H' (He.ga K "Reach") (He.ga K "Cells") x one other s bg [] (fun i j' => if i = 0 ∧ j' < j then tuS s bg one other 0 j' else none) (fun _ _ => none) dx (.ref ca) vs lu ll ru rl →
          RTi F1 (fun b => if b = x then none else H b) F' H' (He.ga K "Reach") (He.ga K "Cells") x one other s bg [] (fun i j' => if i = 0 ∧ j' < j + 1 then tuS s bg one other 0 j' else none) (fun _ _ => none) dx (.ref ca) vs lu ll ru rl := fun F' H' hb R' => hf false hb F' H' (by
        have e : upd2 (fun i j' => if i = 0 ∧ j' < j then tuS s bg one other 0 j' else none) 0 j (if false = true then some 0 else none) = (fun i j' => if i = 0 ∧ j' < j then tuS s bg one other 0 j' else none) := upd2_same (by rw [if_neg (fun z => absurd z.2 (Nat.lt_irrefl _))])
        rw [e]
        exact R')
      refine ⟨_, rfl, _, rfl, ?_⟩
      have hb0 : bg = false ∨ bg = true := by cases bg <;> simp
      rcases hb0 with hbg | hbg
      · have hz : (bg && tS s (lw (cq (stl one) (stl other) 0 j))) = false := by rw [hbg]; rfl
        dsimp only
        rw [if_neg (show ¬ bg = true by rw [hbg]; exact Bool.false_ne_true)]
        refine iteF ?_
        exact ⟨_, F2, rfl, hno F2 H' hz R⟩
      · dsimp only
        rw [if_pos hbg]
        obtain ⟨y, y1, y2⟩ := rdCell (σ := [some (.ref x), some (.ref ca), some vs, some (.bl bg), some (.int (j : Int)), none]) (c_Cells T) (n_Cells_upright T) R.gr.fh R.rc (i := 0) (j := j) (by omega) (by omega) (tc := tVar 1) (ti := tC (.int 0)) (tj := tVar 4) (fun Q q => ⟨_, rfl, q⟩) (fun Q q => q) (fun Q q => ⟨_, rfl, q⟩)
        refine ⟨_, rfl, y2 _ ?_⟩
        have csz := cq_sz (i := 0) (k := j) (stl_pz z1) (stl_pz z2) (by omega) (by omega)
        refine ⟨F2, [cv (cq (stl one) (stl other) 0 j)], fun d => d = fr (lw (cq (stl one) (stl other) 0 j)), R.gr.fh, RpL.one y1, ⟨_, rfl, csz, rfl⟩, fun d v F3 H3 hd g1 r1 => ?_⟩
        subst hd
        have R1 := R.gr' g1
        refine ⟨F3, [fr s, fr (lw (cq (stl one) (stl other) 0 j))], fun d => d = .bl (decide (s < lw (cq (stl one) (stl other) 0 j))), R1.gr.fh, RpL.two R1.rs r1, ⟨_, _, rfl, zs, (lw_sz csz).mono (by decide), rfl⟩, fun d v F4 H4' hd g2 r2 => ?_⟩
        subst hd
        have R2 := R1.gr' g2
        refine ⟨_, r2, ?_⟩
        by_cases hls : s < lw (cq (stl one) (stl other) 0 j)
        · rw [decide_eq_true hls]
          refine iteF ?_
          exact ⟨_, F4, rfl, hno F4 H4' (by unfold tS; rw [decide_eq_true hls, hbg]; rfl) R2⟩
        · rw [decide_eq_false hls]
          refine iteT ?_
          obtain ⟨r, hr'⟩ : ∃ r, ru[0]? = some r := ⟨_, List.getElem?_eq_getElem (by rw [R2.nu]; omega)⟩
          refine ⟨_, rfl, x, _, dx, _, .ref lu, rfl, R2.ins, c_Reach T, n_Reach_upright T, rfl, lu, _, _, .ref r, rfl, rfl, SqL.of R2.hu, refs_at (i := 0) hr', _, rfl, r, _, _, j, rfl, rfl, R2.ru_ _ r hr', Evl.ixN_nat (by simpa [tabRow] using hj), ?_⟩
          exact ⟨_, F4, rfl, hf true (by unfold tS; rw [decide_eq_false hls, hbg]; rfl) F4 _ (R2.setU (some 0) hr' hj)⟩
    case fin =>
      rintro σ' H' ⟨v4, F2, rfl, R⟩
      have htu : ∀ i j : Nat, tuS s bg one other (i + 1) j = _ := fun i j => tu_succ (T := tS s) (bg := bg) (s0 := st0 s bg one other) (P := stl one) (Q := stl other) i j
      have htl : ∀ i j : Nat, tlS s bg one other (j + 1) i = _ := fun i j => tl_succ (T := tS s) (bg := bg) (s0 := st0 s bg one other) (P := stl one) (Q := stl other) i j
      have hut : ∀ i j f, tuS s bg one other i j = some f → f ≤ i := fun i j f h => (tu_le i j f h).1
      have hlt : ∀ j i f, tlS s bg one other j i = some f → f ≤ j := fun j i f h => (tl_le j i f h).1
      refine ⟨fun σ H' => ∃ v4 F', σ = [some (.ref x), some (.ref ca), some vs, some (.bl bg), v4, none] ∧ RTi F1 (fun b => if b = x then none else H b) F' H' (He.ga K "Reach") (He.ga K "Cells") x one other s bg [("started", .bl (st0 s bg one other))] (Uat bg (tuS s bg one other) 0 0) (Lat (tlS s bg one other) 0 0) dx (.ref ca) vs lu ll ru rl, ?st, ?loop⟩
      case st =>
        have R0' : RTi F1 (fun b => if b = x then none else H b) F2 H' (He.ga K "Reach") (He.ga K "Cells") x one other s bg [] (Uat bg (tuS s bg one other) 0 0) (Lat (tlS s bg one other) 0 0) dx (.ref ca) vs lu ll ru rl := R.congr (fun i j _ hj => by
          unfold Uat
          by_cases q : i = 0
          · rw [if_pos (show i = 0 ∧ j < wd other from ⟨q, hj⟩), if_pos (.inl q), q]
          · rw [if_neg (fun z => q z.1), if_neg (by omega)]) (fun j i _ hi => by
          unfold Lat
          by_cases q : j = 0
          · rw [if_pos (by omega), q]
            unfold tlS
            rw [tl_zero]
          · rw [if_neg (by omega)])
        refine ⟨_, rfl, bg, rfl, _, rfl, ?_⟩
        have hb0 : bg = false ∨ bg = true := by cases bg <;> simp
        rcases hb0 with hbg | hbg
        · rw [if_pos (show (!bg) = true by rw [hbg]; rfl)]
          refine ⟨_, rfl, _, rfl, ca, cdx, cws, rfl, R0'.gr.fh _ _ (R0'.gr.eF _ _ hc1), lookup_no (by rw [hc2]; decide +kernel), ?_⟩
          have asz := ap_sz (stl_pz z1 _ (gp_mem (i := 0) (by omega))) (stl_pz z2 _ (gp_mem (i := 0) (by omega)))
          refine ⟨F2, [cellsD (He.ga K "Cells") one other, .int 0, .int 0], fun d => d = fr (ap (gp (stl one) 0) (gp (stl other) 0)), R0'.gr.fh, ⟨_, _, rfl, R0'.rc, _, _, rfl, rfl, _, _, rfl, rfl, rfl⟩, ⟨one, other, 0, 0, rfl, z1, z2, by omega, by omega, rfl⟩, fun d v F3 H3 hd g1 r1 => ?_⟩
          subst hd
          have R1 := R0'.gr' g1
          refine ⟨F3, [fr s, fr (ap (gp (stl one) 0) (gp (stl other) 0))], fun d => d = .bl (decide (s < ap (gp (stl one) 0) (gp (stl other) 0))), R1.gr.fh, RpL.two R1.rs r1, ⟨_, _, rfl, zs, asz.mono (by decide), rfl⟩, fun d v F4 H4' hd g2 r2 => ?_⟩
          subst hd
          have R2 := R1.gr' g2
          refine ⟨_, r2, _, rfl, x, _, dx, _, rfl, R2.ins, c_Reach T, n_Reach_started T, Nat.le_of_ble_eq_true rfl, ?_⟩
          have e : st0 s bg one other = !decide (s < ap (gp (stl one) 0) (gp (stl other) 0)) := by unfold st0 tS; rw [hbg]; rfl
          refine ⟨_, F4, rfl, ?_⟩
          rw [← e]
          exact R2.start _
        · rw [if_neg (show ¬ (!bg) = true by rw [hbg]; exact Bool.false_ne_true)]
          refine ⟨_, rfl, x, _, dx, _, rfl, R0'.ins, c_Reach T, n_Reach_started T, Nat.le_of_ble_eq_true rfl, ?_⟩
          refine ⟨_, F2, rfl, ?_⟩
          have e : st0 s bg one other = false := by unfold st0; rw [hbg]; rfl
          rw [e]
          exact R0'.start _
      case loop =>
        rintro σ H' ⟨v4, F3, rfl, R⟩
        refine hv_ rfl (R.gr.eF.trans R.gr.fh) _ ⟨_, rfl, by omega, by omega, ?_⟩
        rw [show ((wd other : Nat) : Int).toNat = wd other from Int.toNat_natCast _]
        refine for_range (outP K F1 H x ca vs bg one other s) ⟨_, _, F3, rfl, _, _, _, _, _, _, _, R⟩ ?step ?fin
        case fin =>
          rintro σ' H' ⟨v4, v5, F4, rfl, dx', vc', vs', lu', ll', ru', rl', R⟩
          obtain ⟨F5, g, rd⟩ := (R.congr (U' := tuS s bg one other) (L' := tlS s bg one other) (fun i j _ hj => by unfold Uat; rw [if_pos (.inr (.inl hj))]) (fun j i hj _ => by unfold Lat; rw [if_pos (.inl hj)])).close
          exact hq _ F5 H' hk g rd
        case step =>
          rintro j σ' H' hj ⟨v4, v5, F4, rfl, dx', vc', vs', lu', ll', ru', rl', R⟩
          rw [Int.zero_add]
          refine wv_ rfl (R.gr.eF.trans R.gr.fh) _ ⟨_, rfl, by omega, by omega, ?_⟩
          rw [show ((wd one : Nat) : Int).toNat = wd one from Int.toNat_natCast _]
          refine for_range (lo := 0) (n := wd one) (g := gName 5) (σ := [some (.ref x), some (.ref ca), some vs, some (.bl bg), some (.int (j : Int)), v5]) (D := { nx := outP K F1 H x ca vs bg one other s (j + 1), rt := Q, bk := fun _ H' => Q .non H', ct := outP K F1 H x ca vs bg one other s (j + 1) }) (innP K F1 H x ca vs bg one other s j) ⟨_, F4, rfl, _, _, _, _, _, _, _, R⟩ ?istep ?ifin
          case ifin =>
            rintro σ' H' ⟨v5, F5, rfl, dx', vc', vs', lu', ll', ru', rl', R⟩
            refine ⟨_, _, F5, rfl, _, _, _, _, _, _, _, R.congr (fun i' j' hi' _ => ?_) (fun j' i' _ hi' => ?_)⟩
            · unfold Uat
              by_cases q : i' = 0 ∨ j' < j ∨ (j' = j ∧ i' ≤ wd one)
              · rw [if_pos q, if_pos (by omega)]
              · rw [if_neg q, if_neg (by omega)]
            · unfold Lat
              by_cases q : j' ≤ j ∨ (j' = j + 1 ∧ i' < wd one)
              · rw [if_pos q, if_pos (by omega)]
              · rw [if_neg q, if_neg (by omega)]
          case istep =>
            rintro i σ' H' hi ⟨v5, F5, rfl, dx', vc', vs', lu', ll', ru', rl', R⟩
            rw [Int.zero_add]
            have eU0 : Uat bg (tuS s bg one other) i j i j = tuS s bg one other i j := by unfold Uat; rw [if_pos (by omega)]
            have eU1 : Uat bg (tuS s bg one other) (i + 1) j i j = tuS s bg one other i j := by unfold Uat; rw [if_pos (by omega)]
            have eL0 : Lat (tlS s bg one other) i j j i = tlS s bg one other j i := by unfold Lat; rw [if_pos (by omega)]
            refine ⟨_, rfl, x, dx', _, rfl, R.ins, rfl, _, rfl, _, rfl, x, i, j, F1, (fun b => if b = x then none else H b), F5, one, other, s, bg, st0 s bg one other, Uat bg (tuS s bg one other) i j, Lat (tlS s bg one other) i j, rfl, ⟨_, _, _, _, _, _, _, R⟩, z1, z2, zs, hi, hj, ?_, ?_, ?_⟩
            · unfold Uat; rw [if_neg (by omega)]
            · intro f hf2
              rw [eU0] at hf2
              exact hut _ _ _ hf2
            rintro F6 H6' ⟨dx6, vc6, vs6, lu6, ll6, ru6, rl6, R6⟩
            have R6' : RTi F1 (fun b => if b = x then none else H b) F6 H6' (He.ga K "Reach") (He.ga K "Cells") x one other s bg [("started", .bl (st0 s bg one other))] (Uat bg (tuS s bg one other) (i + 1) j) (Lat (tlS s bg one other) i j) dx6 vc6 vs6 lu6 ll6 ru6 rl6 := R6.congr (fun i' j' _ _ => by
              unfold upd2
              by_cases q : i' = i + 1 ∧ j' = j
              · obtain ⟨rfl, rfl⟩ := q
                rw [if_pos ⟨rfl, rfl⟩]
                unfold goPost
                rw [eU0, eL0]
                unfold Uat
                rw [if_pos (show i + 1 = 0 ∨ j' < j' ∨ (j' = j' ∧ i + 1 ≤ i + 1) by omega), htu]
                rfl
              · rw [if_neg q]
                unfold Uat
                by_cases q2 : i' = 0 ∨ j' < j ∨ (j' = j ∧ i' ≤ i)
                · rw [if_pos q2, if_pos (by omega)]
                · rw [if_neg q2, if_neg (by omega)]) (fun _ _ _ _ => rfl)
            refine ⟨_, rfl, x, dx6, _, rfl, R6'.ins, rfl, _, rfl, _, rfl, x, i, j, F1, (fun b => if b = x then none else H b), F6, one, other, s, bg, st0 s bg one other, Uat bg (tuS s bg one other) (i + 1) j, Lat (tlS s bg one other) i j, rfl, ⟨_, _, _, _, _, _, _, R6'⟩, z1, z2, zs, hi, hj, ?_, ?_, ?_⟩
            · unfold Lat; rw [if_neg (by omega)]
            · intro f hf2
              rw [eL0] at hf2
              exact hlt _ _ _ hf2
            rintro F7 H7' ⟨dx7, vc7, vs7, lu7, ll7, ru7, rl7, R7⟩
            refine ⟨_, F7, rfl, _, _, _, _, _, _, _, R7.congr (fun _ _ _ _ => rfl) (fun j' i' _ _ => ?_)⟩
            unfold upd2
            by_cases q : j' = j + 1 ∧ i' = i
            · obtain ⟨rfl, rfl⟩ := q
              rw [if_pos ⟨rfl, rfl⟩]
              unfold upPost
              rw [eU1, eL0]
              unfold Lat
              rw [if_pos (show j + 1 ≤ j ∨ (j + 1 = j + 1 ∧ i' < i' + 1) by omega), htl]
              rfl
            · rw [if_neg q]
              unfold Lat
              by_cases q2 : j' ≤ j ∨ (j' = j + 1 ∧ i' < i)
              · rw [if_pos q2, if_pos (by omega)]
              · rw [if_neg q2, if_neg (by omega)]
end
end G
namespace G
open PySem PySem.Spec PyProof.Rows L2 DL M
section
variable {P : Program} {w : World} {K : PySem.W.Frag} {mg : Str → Option Value} {base : Heap}
def reD (K : PySem.W.Frag) (one other : List Pt) (s : Rat) (bg : Bool) : Dat := reachD (He.ga K "Reach") (He.ga K "Cells") one other s bg
def ceD (K : PySem.W.Frag) (one other : List Pt) : Dat := cellsD (He.ga K "Cells") one other
theorem rng_at {f : Nat → Dat} {n i : Nat} (h : i < n) : atI ((List.range n).map f) (i : Int) = some (f i) := by
  refine atI_nat ?_
  rw [List.getElem?_map, List.getElem?_range h]
  rfl
theorem isNon_oD (o : Option Nat) : isNon (oD o) = o.isNone := by cases o <;> rfl
def isP (d : Dat) : Prop := ∃ x y, d = .tup [x, y]
theorem szn {n : Nat} {i : Int} (h : i.natAbs < 1000) (hn : 10 ≤ n) : Sz n i := Nat.lt_of_lt_of_le (Nat.lt_of_lt_of_le h (by decide : 1000 ≤ 2 ^ 10)) (Nat.pow_le_pow_right (by decide) hn)
theorem isP_snoc {m : Nat} {acc : List Dat} {x y : Dat} (ha : acc.length = m) (hx : ∀ x ∈ acc, isP x) : (acc ++ [Dat.tup [x, y]]).length = m + 1 ∧ ∀ z ∈ acc ++ [Dat.tup [x, y]], isP z := by
  refine ⟨by rw [List.length_append, ha]; rfl, fun z hz => ?_⟩
  rcases List.mem_append.mp hz with h | h
  · exact hx z h
  · exact ⟨x, y, List.mem_singleton.mp h⟩
def t_Reach_starts_in (K : PySem.W.Frag) : Tr := fun ds k => ∃ (one other : List Pt) (s : Rat) (bg : Bool) (i j : Int), ds = [reD K one other s bg, .int i, .int j] ∧ k (.bl (st0 s bg one other && (decide (i = 0) && decide (j = 0))))
theorem len_Reach_starts_in {K : PySem.W.Frag} : ∀ ds k, t_Reach_starts_in K ds k → ds.length = 3 := by
  rintro ds k ⟨_, _, _, _, _, _, rfl, _⟩
  rfl
abbrev nm_Reach_starts_in : List Str := ["self", "i", "j"]
theorem sc_Reach_starts_in : FnScope nm_Reach_starts_in ["self", "i", "j"] (defScope s_Reach_starts_in) := ⟨rfl, rfl, rfl, by decide +kernel, rfl, by decide +kernel, by decide +kernel⟩
theorem k_Reach_starts_in (T : Txt K mg) : KeptM P w K mg base (He.ga K "Reach") "starts_in" ["self", "i", "j"] 1 (t_Reach_starts_in K) := by
  obtain ⟨fd, F⟩ := T.says.def_ 59 (d := d_Reach_starts_in) rfl
  refine keptM_of (N := nm_Reach_starts_in) (body := defBody s_Reach_starts_in) (scope := defScope s_Reach_starts_in) (params := defArgs s_Reach_starts_in) F (c_Reach T) (m_Reach_starts_in T) sc_Reach_starts_in (len_Reach_starts_in) (fun _ _ _ _ _ _ us hl => match us, hl with | [_, _, _], _ => rfl) (fun cdv A outer s H E hr => ⟨_, _,
      (pbd_one (psd_ret (pd_and (pd_fldK (K := K) rfl (pdv 0) (c_Reach T) (n_Reach_started T)) (pd_and (pd_cmp (op_eqA hr.units) r2_eq (pdv 1) pd_int) (pd_one (pd_cmp (op_eqA hr.units) r2_eq (pdv 2) pd_int)))))), ?_⟩)
  rintro ds k ⟨one, other, s, bg, i, j, rfl, hk⟩
  refine ⟨_, rfl, _, _, _, rfl, rfl, _, rfl, ?_⟩
  cases hs : st0 s bg one other with
  | false =>
    rw [hs] at hk
    exact iteF hk
  | true =>
    rw [hs] at hk
    refine iteT ⟨_, rfl, _, rfl, _, rfl, ?_⟩
    by_cases h : i = 0
    · rw [decide_eq_true h] at hk ⊢
      refine iteT ⟨_, rfl, _, rfl, ?_⟩
      have e : (true && (true && decide (j = 0))) = (false ^^ decide (j = 0)) := by simp
      rw [e] at hk
      exact hk
    · rw [decide_eq_false h] at hk ⊢
      exact iteF hk
def t_Reach_comes_into (K : PySem.W.Frag) : Tr := fun ds k => ∃ (one other : List Pt) (s : Rat) (bg : Bool) (i j : Nat), ds = [reD K one other s bg, .int i, .int j] ∧ i < wd one ∧ j < wd other ∧ k (.bl (stv (st0 s bg one other) i j || (tuS s bg one other i j).isSome || (tlS s bg one other j i).isSome))
theorem len_Reach_comes_into {K : PySem.W.Frag} : ∀ ds k, t_Reach_comes_into K ds k → ds.length = 3 := by
  rintro ds k ⟨_, _, _, _, _, _, rfl, _⟩
  rfl
abbrev nm_Reach_comes_into : List Str := ["self", "i", "j"]
theorem sc_Reach_comes_into : FnScope nm_Reach_comes_into ["self", "i", "j"] (defScope s_Reach_comes_into) := ⟨rfl, rfl, rfl, by decide +kernel, rfl, by decide +kernel, by decide +kernel⟩
theorem k_Reach_comes_into (T : Txt K mg) : KeptM P w K mg base (He.ga K "Reach") "comes_into" ["self", "i", "j"] 2 (t_Reach_comes_into K) := by
  obtain ⟨fd, F⟩ := T.says.def_ 62 (d := d_Reach_comes_into) rfl
  refine keptM_of (N := nm_Reach_comes_into) (body := defBody s_Reach_comes_into) (scope := defScope s_Reach_comes_into) (params := defArgs s_Reach_comes_into) F (c_Reach T) (m_Reach_comes_into T) sc_Reach_comes_into (len_Reach_comes_into) (fun _ _ _ _ _ _ us hl => match us, hl with | [_, _, _], _ => rfl) (fun cdv A outer s H E hr => ⟨_, _,
      (pbd_one (psd_ret (pd_or (let oe := (pdv 0); let ae := (pda_cons (pdv 1) (pda_cons (pdv 2) pda_nil)); pd_meth oe (k_Reach_starts_in T) (hr.mono (by decide)) ae (fun f fd cl h1 h2 h3 => pe_meth oe.run cl h1 h2 (hr.mono (by decide)) h3 .nil pass0 ae.run)) (pd_or (pd_cmp op_notN r2_notN (pd_ixK (K := K) rfl (pd_ixK (K := K) rfl (pd_fldK (K := K) rfl (pdv 0) (c_Reach T) (n_Reach_upright T)) (pdv 1)) (pdv 2)) pd_non) (pd_one (pd_cmp op_notN r2_notN (pd_ixK (K := K) rfl (pd_ixK (K := K) rfl (pd_fldK (K := K) rfl (pdv 0) (c_Reach T) (n_Reach_level T)) (pdv 2)) (pdv 1)) pd_non)))))), ?_⟩)
  rintro ds k ⟨one, other, s, bg, i, j, rfl, hi, hj, hk⟩
  refine ⟨_, rfl, _, _, rfl, by decide +kernel, _, rfl, _, rfl, one, other, s, bg, i, j, rfl, ?_⟩
  have e : (st0 s bg one other && (decide ((i : Int) = 0) && decide ((j : Int) = 0))) = stv (st0 s bg one other) i j := by
    unfold stv
    have e1 : decide ((i : Int) = 0) = decide (i = 0) := decide_eq_decide.mpr (by omega)
    have e2 : decide ((j : Int) = 0) = decide (j = 0) := decide_eq_decide.mpr (by omega)
    rw [e1, e2]
  rw [e]
  refine ⟨_, rfl, ?_⟩
  cases hs : stv (st0 s bg one other) i j with
  | true =>
    rw [hs] at hk
    exact iteT hk
  | false =>
    rw [hs] at hk
    refine iteF ⟨_, rfl, _, _, _, rfl, rfl, _, rfl, _, _, _, rfl, rfl, rng_at (by omega), _, rfl, _, _, _, rfl, rfl, rng_at hj, rfl, ?_⟩
    rw [isNon_oD]
    refine ⟨_, rfl, ?_⟩
    cases hu : tuS s bg one other i j with
    | some f =>
      rw [hu] at hk
      exact iteT hk
    | none =>
      rw [hu] at hk
      refine iteF ⟨_, rfl, _, _, _, rfl, rfl, _, rfl, _, _, _, rfl, rfl, rng_at (by omega), _, rfl, _, _, _, rfl, rfl, rng_at hi, rfl, ?_⟩
      rw [isNon_oD]
      cases hl : tlS s bg one other j i <;> (rw [hl] at hk; exact hk)
def t_upright_run (K : PySem.W.Frag) : Tr := fun ds k => ∃ (one other : List Pt) (s : Rat) (bg : Bool) (i j f : Nat), ds = [reD K one other s bg, .int i, .int j] ∧ Lz one ∧ Lz other ∧ i ≤ wd one ∧ j < wd other ∧ tuS s bg one other i j = some f ∧ f ≤ i ∧ ∀ xs, xs.length ≤ 1000 → (∀ x ∈ xs, isP x) → k (.lst xs)
theorem len_upright_run {K : PySem.W.Frag} : ∀ ds k, t_upright_run K ds k → ds.length = 3 := by
  rintro ds k ⟨_, _, _, _, _, _, _, rfl, _⟩
  rfl
abbrev nm_upright_run : List Str := ["reach", "i", "j", "first", "parts", "k"]
theorem sc_upright_run : FnScope nm_upright_run ["reach", "i", "j"] (defScope s_upright_run) := ⟨rfl, rfl, rfl, by decide +kernel, rfl, by decide +kernel, by decide +kernel⟩
theorem k_upright_run (T : Txt K mg) : Kept P w K mg base "upright_run" ["reach", "i", "j"] [] 7 (t_upright_run K) := by
  obtain ⟨fd, F⟩ := T.says.def_ 63 (d := d_upright_run) rfl
  refine kept_of (N := nm_upright_run) (body := defBody s_upright_run) (scope := defScope s_upright_run) (params := defArgs s_upright_run) F (g_upright_run T) sc_upright_run (len_upright_run) (fun _ _ _ _ _ _ us hl => match us, hl with | [_, _, _], _ => rfl) (fun cdv A outer s H E hr => ⟨_, _,
      (pbd_cons (psd_set (i := 3) sc_upright_run.nd rfl (by first | exact .inl rfl | exact .inr rfl) (pd_ixK (K := K) rfl (pd_ixK (K := K) rfl (pd_fldK (K := K) rfl (pdv 0) (c_Reach T) (n_Reach_upright T)) (pdv 1)) (pdv 2)))
      (pbd_cons (psd_set (i := 4) sc_upright_run.nd rfl (by first | exact .inl rfl | exact .inr rfl) (pd_call (k_parts_of T) (hr.mono (by decide)) (by rfl) (pda_cons (let oe := (pd_fldK (K := K) rfl (pdv 0) (c_Reach T) (n_Reach_cells T)); let ae := (pda_cons (pdv 2) (pda_cons (pdv 3) (pda_cons (pdv 1) pda_nil))); pd_meth oe (k_Cells_row_of T) (hr.mono (by decide)) ae (fun f fd cl h1 h2 h3 => pe_meth oe.run cl h1 h2 (hr.mono (by decide)) h3 .nil pass0 ae.run)) pda_nil)))
      (pbd_one (psd_ret (pd_sh (pl_lc (own := [("k", 5)]) rfl sc_upright_run.nd (pid_range1 (by rfl) (f_range T) (pda_cons (pd_bi call_len_seq rc_len (by rfl) (f_len T) PySem.boot_len (pda_cons (pdv 4) pda_nil)) pda_nil)) (blkOk_by (N := nm_upright_run) (sc := defScope s_upright_run) (by decide +kernel)) (fun _ _ _ _ _ => (pgd_name (i := 5) sc_upright_run.nd rfl (by first | exact .inl rfl | exact .inr rfl))) (fun _ _ _ _ _ => pdts_nil) (fun _ _ _ _ _ => (pd_tup (pda_cons (pd_call (k_ratio1 T) (hr.mono (by decide)) (by rfl) (pda_cons (pd_op op_add r2_I (pdv 3) (pdv 5)) pda_nil)) (pda_cons (pd_call (k_place_of T) (hr.mono (by decide)) (by rfl) (pda_cons (pdv 2) (pda_cons (pd_ixK (K := K) rfl (pdv 4) (pdv 5)) pda_nil))) pda_nil)))))))))), ?_⟩)
  rintro ds k ⟨one, other, s, bg, i, j, f, rfl, z1, z2, hi, hj, hu, hf, hk⟩
  have stlz1 := stl_len z1
  have stlz2 := stl_len z2
  have ew1 : (stl one).length = wd one + 1 := by unfold wd; omega
  have ew2 : (stl other).length = wd other + 1 := by unfold wd; omega
  refine ⟨_, rfl, _, _, _, rfl, rfl, _, rfl, _, _, _, rfl, rfl, rng_at (by omega), _, rfl, _, _, _, rfl, rfl, rng_at hj, ?_⟩
  rw [hu]
  refine ⟨_, rfl, _, _, _, rfl, rfl, _, _, rfl, by decide +kernel, _, rfl, _, rfl, _, rfl, one, other, j, f, i - f, ?_, z1, z2, by omega, by omega, ?_⟩
  · show [_, _, _, Dat.int (i : Int)] = _
    have : (i : Int) = (f : Int) + ((i - f : Nat) : Int) := by omega
    rw [this]
    rfl
  have csz : ∀ x ∈ (List.range (i - f + 1)).map fun m => cq (stl one) (stl other) (f + m) j, Cz x := fun x hx => by
    obtain ⟨m, hm, rfl⟩ := List.mem_map.mp hx
    have hm' := List.mem_range.mp hm
    exact cq_sz (stl_pz z1) (stl_pz z2) (by omega) (by omega)
  refine ⟨_, rfl, csz, by simp; omega, fun ps hl hp => ?_⟩
  rw [List.length_map, List.length_range] at hl
  refine ⟨_, rfl, _, .inl rfl, _, rfl, ?_, fun m acc => acc.length = m ∧ ∀ x ∈ acc, isP x, ⟨rfl, fun x h => by cases h⟩, ?_, ?_⟩
  · rw [List.length_map]; omega
  · rintro m d acc hm ⟨ha, hx⟩
    obtain ⟨h3, rfl⟩ := rng0_get hm
    rw [List.length_map] at h3
    have h4 : ps[m]? = some ps[m] := List.getElem?_eq_getElem h3
    refine ⟨_, rfl, _, rfl, _, _, rfl, rfl, _, _, rfl, by decide, szn (by omega) (by decide), sz1 (by decide), ?_⟩
    refine ⟨_, rfl, _, rfl, _, rfl, _, _, _, rfl, rfl, atm h4, _, _, rfl, szn (by omega) (by decide), (hp _ (List.getElem_mem h3)).mono (by decide), tl2, ?_⟩
    exact ⟨by omega, isP_snoc ha hx⟩
  · rintro acc ⟨ha, hx⟩
    rw [rng_len, List.length_map] at ha
    exact hk acc (by omega) hx
def t_level_run (K : PySem.W.Frag) : Tr := fun ds k => ∃ (one other : List Pt) (s : Rat) (bg : Bool) (i j f : Nat), ds = [reD K one other s bg, .int i, .int j] ∧ Lz one ∧ Lz other ∧ i < wd one ∧ j ≤ wd other ∧ tlS s bg one other j i = some f ∧ f ≤ j ∧ ∀ xs, xs.length ≤ 1000 → (∀ x ∈ xs, isP x) → k (.lst xs)
theorem len_level_run {K : PySem.W.Frag} : ∀ ds k, t_level_run K ds k → ds.length = 3 := by
  rintro ds k ⟨_, _, _, _, _, _, _, rfl, _⟩
  rfl
abbrev nm_level_run : List Str := ["reach", "i", "j", "first", "parts", "k"]
theorem sc_level_run : FnScope nm_level_run ["reach", "i", "j"] (defScope s_level_run) := ⟨rfl, rfl, rfl, by decide +kernel, rfl, by decide +kernel, by decide +kernel⟩
theorem k_level_run (T : Txt K mg) : Kept P w K mg base "level_run" ["reach", "i", "j"] [] 7 (t_level_run K) := by
  obtain ⟨fd, F⟩ := T.says.def_ 64 (d := d_level_run) rfl
  refine kept_of (N := nm_level_run) (body := defBody s_level_run) (scope := defScope s_level_run) (params := defArgs s_level_run) F (g_level_run T) sc_level_run (len_level_run) (fun _ _ _ _ _ _ us hl => match us, hl with | [_, _, _], _ => rfl) (fun cdv A outer s H E hr => ⟨_, _,
      (pbd_cons (psd_set (i := 3) sc_level_run.nd rfl (by first | exact .inl rfl | exact .inr rfl) (pd_ixK (K := K) rfl (pd_ixK (K := K) rfl (pd_fldK (K := K) rfl (pdv 0) (c_Reach T) (n_Reach_level T)) (pdv 2)) (pdv 1)))
      (pbd_cons (psd_set (i := 4) sc_level_run.nd rfl (by first | exact .inl rfl | exact .inr rfl) (pd_call (k_parts_of T) (hr.mono (by decide)) (by rfl) (pda_cons (let oe := (pd_fldK (K := K) rfl (pdv 0) (c_Reach T) (n_Reach_cells T)); let ae := (pda_cons (pdv 1) (pda_cons (pdv 3) (pda_cons (pdv 2) pda_nil))); pd_meth oe (k_Cells_column_of T) (hr.mono (by decide)) ae (fun f fd cl h1 h2 h3 => pe_meth oe.run cl h1 h2 (hr.mono (by decide)) h3 .nil pass0 ae.run)) pda_nil)))
      (pbd_one (psd_ret (pd_sh (pl_lc (own := [("k", 5)]) rfl sc_level_run.nd (pid_range1 (by rfl) (f_range T) (pda_cons (pd_bi call_len_seq rc_len (by rfl) (f_len T) PySem.boot_len (pda_cons (pdv 4) pda_nil)) pda_nil)) (blkOk_by (N := nm_level_run) (sc := defScope s_level_run) (by decide +kernel)) (fun _ _ _ _ _ => (pgd_name (i := 5) sc_level_run.nd rfl (by first | exact .inl rfl | exact .inr rfl))) (fun _ _ _ _ _ => pdts_nil) (fun _ _ _ _ _ => (pd_tup (pda_cons (pd_call (k_place_of T) (hr.mono (by decide)) (by rfl) (pda_cons (pdv 1) (pda_cons (pd_ixK (K := K) rfl (pdv 4) (pdv 5)) pda_nil))) (pda_cons (pd_call (k_ratio1 T) (hr.mono (by decide)) (by rfl) (pda_cons (pd_op op_add r2_I (pdv 3) (pdv 5)) pda_nil)) pda_nil)))))))))), ?_⟩)
  rintro ds k ⟨one, other, s, bg, i, j, f, rfl, z1, z2, hi, hj, hu, hf, hk⟩
  have stlz1 := stl_len z1
  have stlz2 := stl_len z2
  have ew1 : (stl one).length = wd one + 1 := by unfold wd; omega
  have ew2 : (stl other).length = wd other + 1 := by unfold wd; omega
  refine ⟨_, rfl, _, _, _, rfl, rfl, _, rfl, _, _, _, rfl, rfl, rng_at (by omega), _, rfl, _, _, _, rfl, rfl, rng_at hi, ?_⟩
  rw [hu]
  refine ⟨_, rfl, _, _, _, rfl, rfl, _, _, rfl, by decide +kernel, _, rfl, _, rfl, _, rfl, one, other, i, f, j - f, ?_, z1, z2, by omega, by omega, ?_⟩
  · show [_, _, _, Dat.int (j : Int)] = _
    have : (j : Int) = (f : Int) + ((j - f : Nat) : Int) := by omega
    rw [this]
    rfl
  have csz : ∀ x ∈ (List.range (j - f + 1)).map fun m => cq (stl other) (stl one) (f + m) i, Cz x := fun x hx => by
    obtain ⟨m, hm, rfl⟩ := List.mem_map.mp hx
    have hm' := List.mem_range.mp hm
    exact cq_sz (stl_pz z2) (stl_pz z1) (by omega) (by omega)
  refine ⟨_, rfl, csz, by simp; omega, fun ps hl hp => ?_⟩
  rw [List.length_map, List.length_range] at hl
  refine ⟨_, rfl, _, .inl rfl, _, rfl, ?_, fun m acc => acc.length = m ∧ ∀ x ∈ acc, isP x, ⟨rfl, fun x h => by cases h⟩, ?_, ?_⟩
  · rw [List.length_map]; omega
  · rintro m d acc hm ⟨ha, hx⟩
    obtain ⟨h3, rfl⟩ := rng0_get hm
    rw [List.length_map] at h3
    have h4 : ps[m]? = some ps[m] := List.getElem?_eq_getElem h3
    refine ⟨_, rfl, _, rfl, _, rfl, _, _, _, rfl, rfl, atm (h4), _, _, rfl, szn (by omega) (by decide), (hp _ (List.getElem_mem h3)).mono (by decide), ?_⟩
    refine ⟨_, rfl, _, rfl, _, _, rfl, rfl, _, _, rfl, by decide, szn (by omega) (by decide), sz1 (by decide), tl2, ?_⟩
    exact ⟨by omega, isP_snoc ha hx⟩
  · rintro acc ⟨ha, hx⟩
    rw [rng_len, List.length_map] at ha
    exact hk acc (by omega) hx
def t_way_into (K : PySem.W.Frag) : Tr := fun ds k => ∃ (one other : List Pt) (s : Rat) (bg : Bool) (i j : Nat) (up : Bool), ds = [reD K one other s bg, .int i, .int j, .bl up] ∧ Lz one ∧ Lz other ∧ i ≤ wd one ∧ j ≤ wd other ∧ (up = true → j < wd other ∧ (tuS s bg one other i j).isSome = true) ∧ (up = false → i < wd one ∧ (tlS s bg one other j i).isSome = true) ∧ ∀ xs, xs.length ≤ 60000 → (∀ x ∈ xs, isP x) → k (.lst xs)
theorem len_way_into {K : PySem.W.Frag} : ∀ ds k, t_way_into K ds k → ds.length = 4 := by
  rintro ds k ⟨_, _, _, _, _, _, _, rfl, _⟩
  rfl
abbrev nm_way_into : List Str := ["reach", "i", "j", "upright", "found", "going"]
theorem sc_way_into : FnScope nm_way_into ["reach", "i", "j", "upright"] (defScope s_way_into) := ⟨rfl, rfl, rfl, by decide +kernel, rfl, by decide +kernel, by decide +kernel⟩
theorem k_way_into (T : Txt K mg) : Kept P w K mg base "way_into" ["reach", "i", "j", "upright"] [] 8 (t_way_into K) := by
  obtain ⟨fd, F⟩ := T.says.def_ 65 (d := d_way_into) rfl
  refine kept_of (N := nm_way_into) (body := defBody s_way_into) (scope := defScope s_way_into) (params := defArgs s_way_into) F (g_way_into T) sc_way_into (len_way_into) (fun _ _ _ _ _ _ us hl => match us, hl with | [_, _, _, _], _ => rfl) (fun cdv A outer s H E hr => ⟨_, _,
      (pbd_cons (psd_set (i := 4) sc_way_into.nd rfl (by first | exact .inl rfl | exact .inr rfl) (pd_sh (pl_lst pda_nil)))
      (pbd_cons (psd_set (i := 5) sc_way_into.nd rfl (by first | exact .inl rfl | exact .inr rfl) pd_bl)
      (pbd_cons (psd_while PassesOwn.never (pdt_val (pdv 5))
      (pbd_cons (psd_if (pdt_val (pdv 3)) (pbd_cons (psd_set (i := 4) sc_way_into.nd rfl (by first | exact .inl rfl | exact .inr rfl) (pd_sh (pl_cat (pd_call (k_upright_run T) (hr.mono (by decide)) (by rfl) (pda_cons (pdv 0) (pda_cons (pdv 1) (pda_cons (pdv 2) pda_nil)))) (pdv 4))))
      (pbd_one (psd_set (i := 1) sc_way_into.nd rfl (by first | exact .inl rfl | exact .inr rfl) (pd_op op_sub r2_I (pd_ixK (K := K) rfl (pd_ixK (K := K) rfl (pd_fldK (K := K) rfl (pdv 0) (c_Reach T) (n_Reach_upright T)) (pdv 1)) (pdv 2)) pd_int)))) (pbd_cons (psd_set (i := 4) sc_way_into.nd rfl (by first | exact .inl rfl | exact .inr rfl) (pd_sh (pl_cat (pd_call (k_level_run T) (hr.mono (by decide)) (by rfl) (pda_cons (pdv 0) (pda_cons (pdv 1) (pda_cons (pdv 2) pda_nil)))) (pdv 4))))
      (pbd_one (psd_set (i := 2) sc_way_into.nd rfl (by first | exact .inl rfl | exact .inr rfl) (pd_op op_sub r2_I (pd_ixK (K := K) rfl (pd_ixK (K := K) rfl (pd_fldK (K := K) rfl (pdv 0) (c_Reach T) (n_Reach_level T)) (pdv 2)) (pdv 1)) pd_int)))))
      (pbd_cons (psd_set (i := 3) sc_way_into.nd rfl (by first | exact .inl rfl | exact .inr rfl) (pd_not (pdv 3)))
      (pbd_one (psd_set (i := 5) sc_way_into.nd rfl (by first | exact .inl rfl | exact .inr rfl) (pd_and (pd_cmp op_ge r2_B (pdv 1) pd_int) (pd_and (pd_cmp op_ge r2_B (pdv 2) pd_int) (pd_one (pd_not (let oe := (pdv 0); let ae := (pda_cons (pdv 1) (pda_cons (pdv 2) pda_nil)); pd_meth oe (k_Reach_starts_in T) (hr.mono (by decide)) ae (fun f fd cl h1 h2 h3 => pe_meth oe.run cl h1 h2 (hr.mono (by decide)) h3 .nil pass0 ae.run)))))))))))
      (pbd_one (psd_ret (pdv 4)))))), ?_⟩)
  rintro ds k ⟨one, other, s, bg, i0, j0, up0, rfl, z1, z2, hi0, hj0, hu0, hl0, hk⟩
  have stlz1 := stl_len z1
  have stlz2 := stl_len z2
  have ew1 : (stl one).length = wd one + 1 := by unfold wd; omega
  have ew2 : (stl other).length = wd other + 1 := by unfold wd; omega
  refine ⟨Nat.zero_le _, fun m ρ => ∃ (i j : Int) (up go : Bool) (xs : List Dat), ρ = [some (.sh (reD K one other s bg)), some (.sh (.int i)), some (.sh (.int j)), some (.sh (.bl up)), some (.sh (.lst xs)), some (.sh (.bl go))] ∧ (∀ x ∈ xs, isP x) ∧ xs.length ≤ 60000 ∧
    (go = true → ∃ i' j' : Nat, i = i' ∧ j = j' ∧ i' ≤ wd one ∧ j' ≤ wd other ∧ xs.length + 1000 * (i' + j') ≤ 50000 ∧ m = i' + j' + 1 ∧ (up = true → j' < wd other ∧ (tuS s bg one other i' j').isSome = true) ∧ (up = false → i' < wd one ∧ (tlS s bg one other j' i').isSome = true)) ∧ (go = false → m = 0),
    ⟨i0 + j0 + 1, i0, j0, up0, true, [], rfl, (fun x h => by cases h), Nat.zero_le _, (fun _ => ⟨i0, j0, rfl, rfl, hi0, hj0, by simp; omega, rfl, hu0, hl0⟩), fun z => by cases z⟩, ?_⟩
  rintro m ρ ⟨i, j, up, go, xs, rfl, hx, hlen, hg, hm⟩
  refine ⟨_, rfl, _, rfl, ?_⟩
  cases go with
  | false =>
    refine iteF ⟨_, rfl, hk xs hlen hx⟩
  | true =>
    obtain ⟨i, j, rfl, rfl, hi, hj, hl, rfl, hu, hlv⟩ := hg rfl
    refine iteT ⟨_, rfl, _, rfl, ?_⟩
    have fin : ∀ (i2 j2 : Int) (up : Bool) (ys : List Dat), (∀ x ∈ ys, isP x) → ys.length ≤ 60000 → (0 ≤ i2 → 0 ≤ j2 → stv (st0 s bg one other) i2.toNat j2.toNat = false → ∃ i' j' : Nat, i2 = i' ∧ j2 = j' ∧ i' ≤ wd one ∧ j' ≤ wd other ∧ ys.length + 1000 * (i' + j') ≤ 50000 ∧ i' + j' < i + j ∧ (up = true → j' < wd other ∧ (tuS s bg one other i' j').isSome = true) ∧ (up = false → i' < wd one ∧ (tlS s bg one other j' i').isSome = true)) →
      ∃ m', m' < i + j + 1 ∧ ∃ (i j : Int) (up' go : Bool) (xs : List Dat), [some (Slot.sh (reD K one other s bg)), some (Slot.sh (.int i2)), some (Slot.sh (.int j2)), some (Slot.sh (.bl up)), some (Slot.sh (.lst ys)), some (Slot.sh (.bl (decide (0 ≤ i2) && (decide (0 ≤ j2) && !(st0 s bg one other && (decide (i2 = 0) && decide (j2 = 0)))))))] = [some (Slot.sh (reD K one other s bg)), some (Slot.sh (.int i)), some (Slot.sh (.int j)), some (Slot.sh (.bl up')), some (Slot.sh (.lst xs)), some (Slot.sh (.bl go))] ∧ (∀ x ∈ xs, isP x) ∧ xs.length ≤ 60000 ∧
      (go = true → ∃ i' j' : Nat, i = i' ∧ j = j' ∧ i' ≤ wd one ∧ j' ≤ wd other ∧ xs.length + 1000 * (i' + j') ≤ 50000 ∧ m' = i' + j' + 1 ∧ (up' = true → j' < wd other ∧ (tuS s bg one other i' j').isSome = true) ∧ (up' = false → i' < wd one ∧ (tlS s bg one other j' i').isSome = true)) ∧ (go = false → m' = 0) := fun i2 j2 up ys hx hl h => by
      cases hgo : (decide (0 ≤ i2) && (decide (0 ≤ j2) && !(st0 s bg one other && (decide (i2 = 0) && decide (j2 = 0))))) with
      | false => exact ⟨0, by omega, i2, j2, up, false, ys, rfl, hx, hl, (fun z => by cases z), fun _ => rfl⟩
      | true =>
        simp only [Bool.and_eq_true, decide_eq_true_eq, Bool.not_eq_true'] at hgo
        obtain ⟨g1, g2, g3⟩ := hgo
        obtain ⟨i', j', e1, e2, h1, h2, h3, h4, h5⟩ := h g1 g2 (by
          unfold stv
          have q1 : decide (i2.toNat = 0) = decide (i2 = 0) := decide_eq_decide.mpr (by omega)
          have q2 : decide (j2.toNat = 0) = decide (j2 = 0) := decide_eq_decide.mpr (by omega)
          rw [q1, q2]
          exact g3)
        exact ⟨i' + j' + 1, by omega, i2, j2, up, true, ys, rfl, hx, hl, fun _ => ⟨i', j', e1, e2, h1, h2, h3, rfl, h5⟩, fun z => by cases z⟩
    cases up with
    | true =>
      obtain ⟨hj2, hs⟩ := hu rfl
      obtain ⟨f, hf⟩ := Option.isSome_iff_exists.mp hs
      obtain ⟨f1, f2, f3⟩ := tu_le i j f hf
      refine iteT ⟨_, rfl, _, rfl, _, rfl, one, other, s, bg, i, j, f, rfl, z1, z2, hi, hj2, hf, f1, fun ys hyl hys => ?_⟩
      refine ⟨_, rfl, _, _, rfl, rfl, by omega, ?_⟩
      refine ⟨_, rfl, _, _, _, rfl, rfl, _, rfl, _, _, _, rfl, rfl, rng_at (by omega), _, rfl, _, _, _, rfl, rfl, rng_at hj2, ?_⟩
      rw [hf]
      refine ⟨_, _, rfl, rfl, _, rfl, _, rfl, ?_⟩
      have fin' := fin ((f : Int) - 1) j false (ys ++ xs) (fun x h => (List.mem_append.mp h).elim (hys x) (hx x)) (by rw [List.length_append]; omega) (fun g1 g2 hst => by
        have f0 : 0 < f := by omega
        have e : ((f : Int) - 1).toNat = f - 1 := by omega
        rw [e, Int.toNat_natCast] at hst
        refine ⟨f - 1, j, by omega, rfl, by omega, hj, by rw [List.length_append]; omega, by omega, fun z => (by cases z), fun _ => ⟨by omega, ?_⟩⟩
        rcases f3 f0 with h | h
        · exact h
        · rw [hst] at h; cases h)
      refine ⟨_, rfl, _, _, rfl, rfl, _, rfl, ?_⟩
      refine ite2 (fun g1 => ?_) (fun g1 => ?_)
      · rw [show decide ((0:Int) ≤ ((f : Int) - 1)) = true from g1] at fin'
        refine ⟨_, rfl, _, _, rfl, rfl, _, rfl, ?_⟩
        refine ite2 (fun g2 => ?_) (fun g2 => ?_)
        · rw [show decide ((0:Int) ≤ (j : Int)) = true from g2] at fin'
          refine ⟨_, rfl, _, _, rfl, by decide +kernel, _, rfl, _, rfl, one, other, s, bg, ((f : Int) - 1), (j : Int), rfl, _, rfl, ?_⟩
          exact fin'
        · rw [show decide ((0:Int) ≤ (j : Int)) = false from Bool.eq_false_iff.mpr g2] at fin'
          exact fin'
      · rw [show decide ((0:Int) ≤ ((f : Int) - 1)) = false from Bool.eq_false_iff.mpr g1] at fin'
        exact fin'
    | false =>
      obtain ⟨hi2, hs⟩ := hlv rfl
      obtain ⟨f, hf⟩ := Option.isSome_iff_exists.mp hs
      obtain ⟨f1, f0, f3⟩ := tl_le j i f hf
      refine iteF ⟨_, rfl, _, rfl, _, rfl, one, other, s, bg, i, j, f, rfl, z1, z2, hi2, hj, hf, f1, fun ys hyl hys => ?_⟩
      refine ⟨_, rfl, _, _, rfl, rfl, by omega, ?_⟩
      refine ⟨_, rfl, _, _, _, rfl, rfl, _, rfl, _, _, _, rfl, rfl, rng_at (by omega), _, rfl, _, _, _, rfl, rfl, rng_at hi2, ?_⟩
      rw [hf]
      refine ⟨_, _, rfl, rfl, _, rfl, _, rfl, ?_⟩
      have fin' := fin i ((f : Int) - 1) true (ys ++ xs) (fun x h => (List.mem_append.mp h).elim (hys x) (hx x)) (by rw [List.length_append]; omega) (fun g1 g2 hst => by
        have e : ((f : Int) - 1).toNat = f - 1 := by omega
        rw [e, Int.toNat_natCast] at hst
        refine ⟨i, f - 1, rfl, by omega, hi, by omega, by rw [List.length_append]; omega, by omega, fun _ => ⟨by omega, ?_⟩, fun z => (by cases z)⟩
        rcases f3 with h | h
        · exact h
        · rw [hst] at h; cases h)
      refine ⟨_, rfl, _, _, rfl, rfl, _, rfl, ?_⟩
      refine ite2 (fun g1 => ?_) (fun g1 => ?_)
      · rw [show decide ((0:Int) ≤ (i : Int)) = true from g1] at fin'
        refine ⟨_, rfl, _, _, rfl, rfl, _, rfl, ?_⟩
        refine ite2 (fun g2 => ?_) (fun g2 => ?_)
        · rw [show decide ((0:Int) ≤ ((f : Int) - 1)) = true from g2] at fin'
          refine ⟨_, rfl, _, _, rfl, by decide +kernel, _, rfl, _, rfl, one, other, s, bg, (i : Int), ((f : Int) - 1), rfl, _, rfl, ?_⟩
          exact fin'
        · rw [show decide ((0:Int) ≤ ((f : Int) - 1)) = false from Bool.eq_false_iff.mpr g2] at fin'
          exact fin'
      · rw [show decide ((0:Int) ≤ (i : Int)) = false from Bool.eq_false_iff.mpr g1] at fin'
        exact fin'
end
end G
namespace G
open PySem PySem.Spec PyProof.Rows L2 DL M
section
variable {P : Program} {w : World} {K : PySem.W.Frag} {mg : Str → Option Value} {base : Heap}
theorem pgd_tupK {X : Cx} {pos : Pos} {es : List Expr} {j n : Nat} {gs : TGs} {vs : List Nat} {zs : TGDs} (hK : X.K = K) (hc : X.calm = true) (h : PGds X es gs vs zs)
    (hn : (assignEach es X.env).length = n := by rfl) (hst : (assignEach es X.env).findIdx? (·.1) = none := by rfl) : PGd X (.Tuple es j pos) (gTup K n gs) vs (gdTup n zs) := by
  subst hK
  exact pgd_tup hc h hn hst
theorem pbd_cut {X : Cx} {st : Stmt} {rest : List Stmt} {t u : TS} {P U : TSD} (h : PSd X st t P) (g : PBd X rest u U) : PBd X (st :: rest) (tSeq t u) (fun D ρ => ∃ Mid : EnvD → Prop, P { D with nx := Mid } ρ ∧ ∀ ρ', Mid ρ' → U D ρ') :=
  ⟨pss_cons h.run g.run, fun F0 H0 F H ρ σ D E ok L ⟨Mid, hp, hU⟩ => h.ev F0 H0 F H ρ σ { D with nx := Mid } _ ok ⟨fun F H ρ σ ok hm => g.ev F0 H0 F H ρ σ D E ok L (hU _ hm), L.rt, L.bk, L.ct⟩ hp⟩
def t_walk_on (K : PySem.W.Frag) : Tr := fun ds k => ∃ (one other : List Pt) (s : Rat), ds = [ceD K one other, fr s] ∧ Lz one ∧ Lz other ∧ Fz 4000 s ∧ (onOk (tS s) (stl one) (stl other) = false → k .non) ∧ (onOk (tS s) (stl one) (stl other) = true → ∀ xs, k (.lst xs))
theorem len_walk_on {K : PySem.W.Frag} : ∀ ds k, t_walk_on K ds k → ds.length = 2 := by
  rintro ds k ⟨_, _, _, rfl, _⟩
  rfl
abbrev nm_walk_on : List Str := ["cells", "square", "reach", "i", "j", "pairs", "x", "y"]
theorem sc_walk_on : FnScope nm_walk_on ["cells", "square"] (defScope s_walk_on) := ⟨rfl, rfl, rfl, by decide +kernel, rfl, by decide +kernel, by decide +kernel⟩
theorem k_walk_on (T : Txt K mg) : Kept P w K mg base "walk_on" ["cells", "square"] [] 12 (t_walk_on K) := by
  obtain ⟨fd, F⟩ := T.says.def_ 66 (d := d_walk_on) rfl
  refine kept_of (N := nm_walk_on) (body := defBody s_walk_on) (scope := defScope s_walk_on) (params := defArgs s_walk_on) F (g_walk_on T) sc_walk_on (len_walk_on) (fun _ _ _ _ _ _ us hl => match us, hl with | [_, _], _ => rfl) (fun cdv A outer s H E hr => ⟨_, _,
      (pbd_cons (psd_set (i := 2) sc_walk_on.nd rfl (by first | exact .inl rfl | exact .inr rfl) (pd_make (mk_Reach T) (hr.mono (by decide)) (by rfl) (pda_cons (pdv 0) (pda_cons (pdv 1) (pda_cons pd_bl pda_nil)))))
      (pbd_cons (psd_set (i := 3) sc_walk_on.nd rfl (by first | exact .inl rfl | exact .inr rfl) (pd_op op_sub r2_I (pd_fldK (K := K) rfl (pdv 0) (c_Cells T) (n_Cells_wide T)) pd_int))
      (pbd_cons (psd_set (i := 4) sc_walk_on.nd rfl (by first | exact .inl rfl | exact .inr rfl) (pd_op op_sub r2_I (pd_fldK (K := K) rfl (pdv 0) (c_Cells T) (n_Cells_high T)) pd_int))
      (pbd_cons (psd_if (pdw_or (pdt_val (pd_call (k_less T) (hr.mono (by decide)) (by rfl) (pda_cons (pdv 1) (pda_cons (let oe := (pdv 0); let ae := (pda_cons (pd_fldK (K := K) rfl (pdv 0) (c_Cells T) (n_Cells_wide T)) (pda_cons (pd_fldK (K := K) rfl (pdv 0) (c_Cells T) (n_Cells_high T)) pda_nil)); pd_meth oe (k_Cells_apart T) (hr.mono (by decide)) ae (fun f fd cl h1 h2 h3 => pe_meth oe.run cl h1 h2 (hr.mono (by decide)) h3 .nil pass0 ae.run)) pda_nil)))) (pdw_or1 (pdt_not (pdt_val (let oe := (pdv 2); let ae := (pda_cons (pdv 3) (pda_cons (pdv 4) pda_nil)); pd_meth oe (k_Reach_comes_into T) (hr.mono (by decide)) ae (fun f fd cl h1 h2 h3 => pe_meth oe.run cl h1 h2 (hr.mono (by decide)) h3 .nil pass0 ae.run)))))).t (pbd_one (psd_ret pd_non)) pbd_nil)
      (pbd_cons (psd_set (i := 5) sc_walk_on.nd rfl (by first | exact .inl rfl | exact .inr rfl) (pd_sh (pl_lst pda_nil)))
      (pbd_cut (psd_if (pdt_not (pdt_val (let oe := (pdv 2); let ae := (pda_cons (pdv 3) (pda_cons (pdv 4) pda_nil)); pd_meth oe (k_Reach_starts_in T) (hr.mono (by decide)) ae (fun f fd cl h1 h2 h3 => pe_meth oe.run cl h1 h2 (hr.mono (by decide)) h3 .nil pass0 ae.run)))) (pbd_one (psd_set (i := 5) sc_walk_on.nd rfl (by first | exact .inl rfl | exact .inr rfl) (pd_call (k_way_into T) (hr.mono (by decide)) (by rfl) (pda_cons (pdv 2) (pda_cons (pdv 3) (pda_cons (pdv 4) (pda_cons (pd_cmp op_isN r2_isN (pd_ixK (K := K) rfl (pd_ixK (K := K) rfl (pd_fldK (K := K) rfl (pdv 2) (c_Reach T) (n_Reach_level T)) (pdv 4)) (pdv 3)) pd_non) pda_nil))))))) pbd_nil)
      (pbd_cons (psd_set (i := 5) sc_walk_on.nd rfl (by first | exact .inl rfl | exact .inr rfl) (pd_sh (pl_cat (pd_sh (pl_cat (pd_sh (pl_lst (pda_cons (pd_tup (pda_cons (pd_call (k_ratio1 T) (hr.mono (by decide)) (by rfl) (pda_cons pd_int pda_nil)) (pda_cons (pd_call (k_ratio1 T) (hr.mono (by decide)) (by rfl) (pda_cons pd_int pda_nil)) pda_nil))) pda_nil))) (pdv 5))) (pd_sh (pl_lst (pda_cons (pd_tup (pda_cons (pd_call (k_ratio1 T) (hr.mono (by decide)) (by rfl) (pda_cons (pd_fldK (K := K) rfl (pdv 0) (c_Cells T) (n_Cells_wide T)) pda_nil)) (pda_cons (pd_call (k_ratio1 T) (hr.mono (by decide)) (by rfl) (pda_cons (pd_fldK (K := K) rfl (pdv 0) (c_Cells T) (n_Cells_high T)) pda_nil)) pda_nil))) pda_nil))))))
      (pbd_one (psd_ret (pd_sh (pl_lc (own := [("x", 6), ("y", 7)]) rfl sc_walk_on.nd (pid_list (pdv 5)) (blkOk_by (N := nm_walk_on) (sc := defScope s_walk_on) (by decide +kernel)) (fun _ _ _ _ _ => (pgd_tupK (K := K) (n := 2) rfl rfl (pgds_cons (pgd_name (i := 6) sc_walk_on.nd rfl (by first | exact .inl rfl | exact .inr rfl)) (pgds_cons (pgd_name (i := 7) sc_walk_on.nd rfl (by first | exact .inl rfl | exact .inr rfl)) pgds_nil)))) (fun _ _ _ _ _ => pdts_nil) (fun _ _ _ _ _ => (let oe := (pdv 0); let ae := (pda_cons (pdv 6) (pda_cons (pdv 7) pda_nil)); pd_meth oe (k_Cells_pair_told T) (hr.mono (by decide)) ae (fun f fd cl h1 h2 h3 => pe_meth oe.run cl h1 h2 (hr.mono (by decide)) h3 .nil pass0 ae.run)))))))))))))), ?_⟩)
  rintro ds k ⟨one, other, s, rfl, z1, z2, zs, hk0, hk1⟩
  have stlz1 := stl_len z1
  have stlz2 := stl_len z2
  have ew1 : (stl one).length = wd one + 1 := by unfold wd; omega
  have ew2 : (stl other).length = wd other + 1 := by unfold wd; omega
  have eon : onOk (tS s) (stl one) (stl other) = (tS s (ap (gp (stl one) (wd one)) (gp (stl other) (wd other))) && (stv (st0 s false one other) (wd one - 1) (wd other - 1) || (tuS s false one other (wd one - 1) (wd other - 1)).isSome || (tlS s false one other (wd other - 1) (wd one - 1)).isSome)) := by
    have e1 : (stl one).length - 2 = wd one - 1 := by omega
    have e2 : (stl other).length - 2 = wd other - 1 := by omega
    have e3 : (stl one).length - 1 = wd one := by omega
    have e4 : (stl other).length - 1 = wd other := by omega
    unfold onOk tuS tlS st0
    rw [e1, e2, e3, e4]
    rfl
  have fw : (((stl one).length : Int) - 1) = (wd one : Int) := by omega
  have fh : (((stl other).length : Int) - 1) = (wd other : Int) := by omega
  refine ⟨_, rfl, _, rfl, one, other, s, false, rfl, z1, z2, zs, ?_⟩
  refine ⟨_, rfl, _, _, _, rfl, rfl, _, _, rfl, rfl, ?_⟩
  refine ⟨_, rfl, _, _, _, rfl, rfl, _, _, rfl, rfl, ?_⟩
  rw [fw, fh]
  have asz := ap_sz (stl_pz z1 _ (gp_mem (i := wd one) (by omega))) (stl_pz z2 _ (gp_mem (i := wd other) (by omega)))
  refine ⟨_, rfl, _, rfl, _, _, rfl, by decide +kernel, _, rfl, _, _, _, rfl, rfl, _, rfl, _, _, _, rfl, rfl, one, other, wd one, wd other, ?_, z1, z2, by omega, by omega, ?_⟩
  · rw [fw, fh]
    rfl
  refine ⟨_, _, rfl, zs, asz.mono (by decide), _, rfl, ?_⟩
  refine ite2 (fun h => ?_) (fun h => ?_)
  · refine iteT ?_
    refine hk0 ?_
    rw [eon]
    unfold tS
    rw [h]
    rfl
  have h1 : tS s (ap (gp (stl one) (wd one)) (gp (stl other) (wd other))) = true := by
    unfold tS
    rw [Bool.eq_false_iff.mpr h]
    rfl
  have ci : ((wd one : Int) - 1) = ((wd one - 1 : Nat) : Int) := by omega
  have cj : ((wd other : Int) - 1) = ((wd other - 1 : Nat) : Int) := by omega
  refine ⟨_, rfl, _, _, rfl, by decide +kernel, _, rfl, _, rfl, one, other, s, false, wd one - 1, wd other - 1, by rw [ci, cj]; rfl, by omega, by omega, _, rfl, ?_⟩
  rw [h1, Bool.true_and] at eon
  rw [← eon]
  cases hon : onOk (tS s) (stl one) (stl other) with
  | false => exact iteT (hk0 hon)
  | true =>
    have hk := hk1 hon
    rw [hon] at eon
    refine iteF ?_
    refine ⟨Nat.zero_le _, ?_⟩
    refine ⟨fun ρ => ∃ (xs : List Dat) (x y : _), ρ = [some (.sh (ceD K one other)), some (.sh (fr s)), some (.sh (reD K one other s false)), some (.sh (.int ((wd one : Int) - 1))), some (.sh (.int ((wd other : Int) - 1))), some (.sh (.lst xs)), x, y] ∧ (∀ x ∈ xs, isP x) ∧ xs.length ≤ 60000, ?_, ?_⟩
    · refine ⟨_, rfl, _, _, rfl, by decide +kernel, _, rfl, _, rfl, one, other, s, false, (wd one : Int) - 1, (wd other : Int) - 1, rfl, _, rfl, ?_⟩
      have e : (st0 s false one other && (decide ((wd one : Int) - 1 = 0) && decide ((wd other : Int) - 1 = 0))) = stv (st0 s false one other) (wd one - 1) (wd other - 1) := by
        unfold stv
        have e1 : decide ((wd one : Int) - 1 = 0) = decide (wd one - 1 = 0) := decide_eq_decide.mpr (by omega)
        have e2 : decide ((wd other : Int) - 1 = 0) = decide (wd other - 1 = 0) := decide_eq_decide.mpr (by omega)
        rw [e1, e2]
      rw [e]
      cases hst : stv (st0 s false one other) (wd one - 1) (wd other - 1) with
      | true => exact iteF ⟨[], _, _, rfl, (fun x h => by cases h), Nat.zero_le _⟩
      | false =>
        rw [hst] at eon
        refine iteT ⟨_, rfl, _, rfl, _, rfl, ?_⟩
        refine ⟨_, rfl, _, _, _, rfl, rfl, _, rfl, _, _, tabD (wd one) (tlS s false one other (wd other - 1)), rfl, rfl, ?_, _, rfl, _, _, oD (tlS s false one other (wd other - 1) (wd one - 1)), rfl, rfl, ?_, rfl, ?_⟩
        · rw [cj]; exact rng_at (by omega)
        · rw [ci]; exact rng_at (by omega)
        · rw [isNon_oD]
          refine ⟨one, other, s, false, wd one - 1, wd other - 1, (false ^^ (tlS s false one other (wd other - 1) (wd one - 1)).isNone), by rw [ci, cj]; rfl, z1, z2, by omega, by omega, fun h => ⟨by omega, ?_⟩, fun h => ⟨by omega, ?_⟩, fun xs hl hx => ⟨xs, _, _, rfl, hx, hl⟩⟩
          · rw [Bool.false_xor] at h
            rw [Option.isNone_iff_eq_none.mp h] at eon
            simpa using eon.symm
          · cases hq : tlS s false one other (wd other - 1) (wd one - 1) with
            | none => rw [hq] at h; cases h
            | some f => rfl
    · rintro ρ ⟨xs, x, y, rfl, hx, hl⟩
      refine ⟨_, _, rfl, by decide, sz01, sz1 (by decide), _, _, rfl, by decide, sz01, sz1 (by decide), tl2, Nat.le_of_ble_eq_true rfl, _, rfl, _, _, rfl, rfl, ?_, ?_⟩
      · show _ + xs.length ≤ _
        simp
        omega
      refine ⟨_, rfl, _, _, _, rfl, rfl, _, _, rfl, by decide, szn (by omega) (by decide), sz1 (by decide), _, rfl, _, _, _, rfl, rfl, _, _, rfl, by decide, szn (by omega) (by decide), sz1 (by decide), tl2, Nat.le_of_ble_eq_true rfl, _, _, rfl, rfl, ?_, ?_⟩
      · simp
        omega
      refine ⟨_, rfl, _, rfl, fun m acc => acc.length = m, rfl, ?_, ?_⟩
      · rintro m d acc hm rfl
        have hd : isP d := by
          have := List.mem_of_getElem? hm
          rcases List.mem_append.mp this with h | h
          · rcases List.mem_append.mp h with h | h
            · exact ⟨_, _, List.mem_singleton.mp h⟩
            · exact hx d h
          · exact ⟨_, _, List.mem_singleton.mp h⟩
        have hm' := (List.getElem?_eq_some_iff.mp hm).1
        simp at hm'
        obtain ⟨u, v, rfl⟩ := hd
        refine ⟨_, rfl, rfl, _, _, rfl, _, _, rfl, rfl, ?_⟩
        refine ⟨_, rfl, _, _, rfl, by decide +kernel, _, rfl, _, rfl, one, other, u, v, rfl, ?_⟩
        exact ⟨by omega, by simp⟩
      · intro acc _
        exact hk acc
end
end G
namespace G
open PySem PySem.Spec PyProof.Rows L2 DL M
section
variable {P : Program} {w : World} {K : PySem.W.Frag} {mg : Str → Option Value} {base : Heap}
def t_walk_part (K : PySem.W.Frag) : Tr := fun ds k => ∃ (one other : List Pt) (s : Rat), ds = [ceD K one other, fr s] ∧ Lz one ∧ Lz other ∧ Fz 4000 s ∧ (partOk (tS s) (stl one) (stl other) = false → k .non) ∧ (partOk (tS s) (stl one) (stl other) = true → ∀ xs, k (.lst xs))
theorem len_walk_part {K : PySem.W.Frag} : ∀ ds k, t_walk_part K ds k → ds.length = 2 := by
  rintro ds k ⟨_, _, _, rfl, _⟩
  rfl
abbrev nm_walk_part : List Str := ["cells", "square", "reach", "j", "x", "y"]
theorem sc_walk_part : FnScope nm_walk_part ["cells", "square"] (defScope s_walk_part) := ⟨rfl, rfl, rfl, by decide +kernel, rfl, by decide +kernel, by decide +kernel⟩
theorem k_walk_part (T : Txt K mg) : Kept P w K mg base "walk_part" ["cells", "square"] [] 12 (t_walk_part K) := by
  obtain ⟨fd, F⟩ := T.says.def_ 67 (d := d_walk_part) rfl
  refine kept_of (N := nm_walk_part) (body := defBody s_walk_part) (scope := defScope s_walk_part) (params := defArgs s_walk_part) F (g_walk_part T) sc_walk_part (len_walk_part) (fun _ _ _ _ _ _ us hl => match us, hl with | [_, _], _ => rfl) (fun cdv A outer s H E hr => ⟨_, _,
      (pbd_cons (psd_set (i := 2) sc_walk_part.nd rfl (by first | exact .inl rfl | exact .inr rfl) (pd_make (mk_Reach T) (hr.mono (by decide)) (by rfl) (pda_cons (pdv 0) (pda_cons (pdv 1) (pda_cons pd_bl pda_nil)))))
      (pbd_cons (psd_for PassesOwn.never rfl (pid_range1 (by rfl) (f_range T) (pda_cons (pd_fldK (K := K) rfl (pdv 0) (c_Cells T) (n_Cells_high T)) pda_nil)) (pgd_name (i := 3) sc_walk_part.nd rfl (by first | exact .inl rfl | exact .inr rfl))
      (pbd_one (psd_if (pdt_cmp op_notN r2_notN (pd_ixK (K := K) rfl (pd_ixK (K := K) rfl (pd_fldK (K := K) rfl (pdv 2) (c_Reach T) (n_Reach_upright T)) (pd_fldK (K := K) rfl (pdv 0) (c_Cells T) (n_Cells_wide T))) (pdv 3)) pd_non) (pbd_one (psd_ret (pd_sh (pl_lc (own := [("x", 4), ("y", 5)]) rfl sc_walk_part.nd (pid_list (pd_call (k_way_into T) (hr.mono (by decide)) (by rfl) (pda_cons (pdv 2) (pda_cons (pd_fldK (K := K) rfl (pdv 0) (c_Cells T) (n_Cells_wide T)) (pda_cons (pdv 3) (pda_cons pd_bl pda_nil)))))) (blkOk_by (N := nm_walk_part) (sc := defScope s_walk_part) (by decide +kernel)) (fun _ _ _ _ _ => (pgd_tupK (K := K) (n := 2) rfl rfl (pgds_cons (pgd_name (i := 4) sc_walk_part.nd rfl (by first | exact .inl rfl | exact .inr rfl)) (pgds_cons (pgd_name (i := 5) sc_walk_part.nd rfl (by first | exact .inl rfl | exact .inr rfl)) pgds_nil)))) (fun _ _ _ _ _ => pdts_nil) (fun _ _ _ _ _ => (let oe := (pdv 0); let ae := (pda_cons (pdv 4) (pda_cons (pdv 5) pda_nil)); pd_meth oe (k_Cells_pair_told T) (hr.mono (by decide)) ae (fun f fd cl h1 h2 h3 => pe_meth oe.run cl h1 h2 (hr.mono (by decide)) h3 .nil pass0 ae.run))))))) pbd_nil)))
      (pbd_one (psd_ret pd_non)))), ?_⟩)
  rintro ds k ⟨one, other, s, rfl, z1, z2, zs, hk0, hk1⟩
  have stlz1 := stl_len z1
  have stlz2 := stl_len z2
  have ew1 : (stl one).length = wd one + 1 := by unfold wd; omega
  have ew2 : (stl other).length = wd other + 1 := by unfold wd; omega
  have eon : partOk (tS s) (stl one) (stl other) = (List.range (wd other)).any fun j => (tuS s true one other (wd one) j).isSome := by
    have e3 : (stl one).length - 1 = wd one := by omega
    have e4 : (stl other).length - 1 = wd other := by omega
    unfold partOk tuS st0
    rw [e3, e4]
    rfl
  have fw : (((stl one).length : Int) - 1) = (wd one : Int) := by omega
  have fh : (((stl other).length : Int) - 1) = (wd other : Int) := by omega
  refine ⟨_, rfl, _, rfl, one, other, s, true, rfl, z1, z2, zs, ?_⟩
  refine ⟨_, rfl, _, _, _, rfl, rfl, _, rfl, by omega, fun i ρ => ∃ v x y, ρ = [some (.sh (ceD K one other)), some (.sh (fr s)), some (.sh (reD K one other s true)), v, x, y] ∧ ∀ j, j < i → tuS s true one other (wd one) j = none, ⟨_, _, _, rfl, fun j h => absurd h (Nat.not_lt_zero _)⟩, ?_, ?_⟩
  · rintro i d ρ hi ⟨v, x, y, rfl, hno⟩
    obtain ⟨h1, rfl⟩ := rng0_get hi
    rw [fh, Int.toNat_natCast] at h1
    refine ⟨_, rfl, _, _, _, rfl, rfl, _, rfl, _, _, _, rfl, rfl, _, _, tabD (wd other) (tuS s true one other (wd one)), rfl, by rw [fw], rng_at (by omega), _, rfl, _, _, _, rfl, rfl, rng_at h1, rfl, _, rfl, ?_⟩
    rw [isNon_oD]
    cases hq : tuS s true one other (wd one) i with
    | none =>
      refine iteF ⟨_, _, _, rfl, fun j hj => ?_⟩
      rcases Nat.lt_succ_iff_lt_or_eq.mp hj with h | h
      · exact hno j h
      · rw [h]; exact hq
    | some f =>
      have hk := hk1 (by rw [eon, List.any_eq_true]; exact ⟨i, List.mem_range.mpr h1, by rw [hq]; rfl⟩)
      refine iteT ?_
      refine ⟨_, rfl, _, rfl, _, _, _, rfl, rfl, _, rfl, one, other, s, true, wd one, i, true, by rw [fw]; rfl, z1, z2, by omega, by omega, fun _ => ⟨h1, by rw [hq]; rfl⟩, (fun z => by cases z), fun xs hl hx => ?_⟩
      refine ⟨_, rfl, fun m acc => acc.length = m, rfl, ?_, ?_⟩
      · rintro m d acc hm rfl
        obtain ⟨u, v, rfl⟩ := hx _ (List.mem_of_getElem? hm)
        have hm' := (List.getElem?_eq_some_iff.mp hm).1
        refine ⟨_, rfl, rfl, _, _, rfl, _, _, rfl, rfl, ?_⟩
        refine ⟨_, rfl, _, _, rfl, by decide +kernel, _, rfl, _, rfl, one, other, u, v, rfl, ?_⟩
        exact ⟨by omega, by simp⟩
      · intro acc _
        exact hk acc
  · rintro ρ ⟨v, x, y, rfl, hno⟩
    refine hk0 ?_
    rw [eon, List.any_eq_false]
    intro j hj
    rw [rng_len, fh, Int.toNat_natCast] at hno
    rw [hno j (List.mem_range.mp hj)]
    exact Bool.false_ne_true
end
end G
namespace G
open PySem PySem.Spec PyProof.Rows L2 DL M
section
variable {P : Program} {w : World} {K : PySem.W.Frag} {mg : Str → Option Value} {base : Heap}
theorem getK_at : ∀ {ks : List (List Int)} {ds : List Dat} {i : Nat} {k : List Int}, ks.Nodup → ks.length = ds.length → ks[i]? = some k → getK ks ds k = ds[i]?
  | [], ds, i, k, _, _, h => by cases h
  | a :: ks, [], i, k, _, hl, _ => by simp at hl
  | a :: ks, d :: ds, 0, k, _, _, h => by
    simp at h
    subst h
    simp [getK]
  | a :: ks, d :: ds, i + 1, k, hn, hl, h => by
    rw [List.nodup_cons] at hn
    simp at h hl
    have : a ≠ k := fun z => hn.1 (z ▸ List.mem_of_getElem? h)
    simp [getK, this]
    exact getK_at hn.2 hl h
theorem getK_not : ∀ {ks : List (List Int)} {ds : List Dat} {k : List Int}, ks.length = ds.length → ((getK ks ds k).isSome = true ↔ k ∈ ks)
  | [], ds, k, _ => by simp [getK]
  | a :: ks, [], k, hl => by simp at hl
  | a :: ks, d :: ds, k, hl => by
    simp at hl
    have ih := getK_not (k := k) hl
    by_cases h : a = k
    · simp [getK, h]
    · have h' : ¬ k = a := fun z => h z.symm
      simp [getK, h, h', ih]
theorem putKs_new {ks : List (List Int)} {ds : List Dat} {k : List Int} (h : ¬ (getK ks ds k).isSome = true) : putKs ks ds k = ks ++ [k] := by unfold putKs; rw [if_neg h]
theorem putVs_new {ks : List (List Int)} {ds : List Dat} {k : List Int} {d : Dat} (h : ¬ (getK ks ds k).isSome = true) : putVs ks ds k d = ds ++ [d] := by unfold putVs; rw [if_neg h]
end
end G
namespace G
open PySem PySem.Spec PyProof.Rows L2 DL M
section
variable {P : Program} {w : World} {K : PySem.W.Frag} {mg : Str → Option Value} {base : Heap}
def barD (K : PySem.W.Frag) (one other : List Pt) (s : Rat) (also : Bool) : Dat := .obj (He.ga K "Barrier") ["cells", "square", "also"] [ceD K one other, fr s, .bl also]
def isSt (n m : Nat) (d : Dat) : Prop := ∃ (a b : Nat) (xs : List Dat), d = .tup [.int a, .int b, .lst xs] ∧ a ≤ n ∧ b ≤ m ∧ (∀ x ∈ xs, isP x) ∧ xs.length ≤ 2
theorem isSt_snoc {n m : Nat} {acc : List Dat} {d : Dat} (h : ∀ x ∈ acc, isSt n m x) (hd : isSt n m d) : ∀ x ∈ acc ++ [d], isSt n m x := fun x hx => by
  rcases List.mem_append.mp hx with z | z
  · exact h x z
  · rw [List.mem_singleton.mp z]; exact hd
theorem atm3 {α : Type} {f : α → Dat} {l : List α} {i : Nat} {c : α} {j : Int} (e : j = (i : Int)) (h : l[i]? = some c) : atI (l.map f) j = some (f c) := atm2 h e
def t_Barrier_init (K : PySem.W.Frag) : Tr := fun ds k => ∃ (one other : List Pt) (s : Rat) (also : Bool), ds = [ceD K one other, fr s, .bl also] ∧ k (barD K one other s also)
theorem len_Barrier_init {K : PySem.W.Frag} : ∀ ds k, t_Barrier_init K ds k → ds.length = 3 := by
  rintro ds k ⟨_, _, _, _, rfl, _⟩
  rfl
abbrev nm_Barrier_init : List Str := ["self", "cells", "square", "also"]
theorem sc_Barrier_init : FnScope nm_Barrier_init ["self", "cells", "square", "also"] (defScope s_Barrier_init) := ⟨rfl, rfl, rfl, by decide +kernel, rfl, by decide +kernel, by decide +kernel⟩
theorem mk_Barrier (T : Txt K mg) : KeptC P w K mg base "Barrier" (He.ga K "Barrier") ["self", "cells", "square", "also"] 1 (t_Barrier_init K) := by
  obtain ⟨fd, F⟩ := T.says.def_ 49 (d := d_Barrier_init) rfl
  refine ⟨g_Barrier T, _, fd, r_Barrier T, init_ok (N := nm_Barrier_init) (body := defBody s_Barrier_init) (scope := defScope s_Barrier_init) (params := defArgs s_Barrier_init) (x := "__init__") (qual := "Barrier.__init__") F sc_Barrier_init (fun ds k h => by rw [len_Barrier_init ds k h]; rfl) (fun ds k h => by rw [len_Barrier_init ds k h]; decide) (fun cdv A outer s H E hr => ⟨_, _,
      (pbd_cons (psd_fldO (pv 0) (c_Barrier T) (n_Barrier_cells T) (pdv 1))
      (pbd_cons (psd_fldO (pv 0) (c_Barrier T) (n_Barrier_square T) (pdv 2))
      (pbd_one (psd_fldO (pv 0) (c_Barrier T) (n_Barrier_also T) (pdv 3))))), ?_⟩), FunD.bindsN (x := "__init__") (qual := "Barrier.__init__") (params := defArgs s_Barrier_init) (body := defBody s_Barrier_init) (scope := defScope s_Barrier_init) F (fun _ _ _ _ _ _ us hl => match us, hl with | [_, _, _, _], _ => rfl)⟩
  rintro x ds kk ⟨one, other, s, also, rfl, hk⟩
  refine ⟨_, _, _, rfl, by decide +kernel, by decide, _, rfl, ?_⟩
  refine ⟨_, _, _, rfl, by decide +kernel, by decide, _, rfl, ?_⟩
  refine ⟨_, _, _, rfl, by decide +kernel, by decide, _, rfl, ?_⟩
  refine ⟨_, _, _, rfl, ?_, hk⟩
  exact ⟨.inl rfl, .inl rfl, .inl rfl, trivial⟩
def t_Barrier_is_far (K : PySem.W.Frag) : Tr := fun ds k => ∃ (one other : List Pt) (s : Rat) (also : Bool) (q : Rat), ds = [barD K one other s also, fr q] ∧ Fz 4000 s ∧ Fz 4000 q ∧ ∀ b, k (.bl b)
theorem len_Barrier_is_far {K : PySem.W.Frag} : ∀ ds k, t_Barrier_is_far K ds k → ds.length = 2 := by
  rintro ds k ⟨_, _, _, _, _, rfl, _⟩
  rfl
abbrev nm_Barrier_is_far : List Str := ["self", "found"]
theorem sc_Barrier_is_far : FnScope nm_Barrier_is_far ["self", "found"] (defScope s_Barrier_is_far) := ⟨rfl, rfl, rfl, by decide +kernel, rfl, by decide +kernel, by decide +kernel⟩
theorem k_Barrier_is_far (T : Txt K mg) : KeptM P w K mg base (He.ga K "Barrier") "is_far" ["self", "found"] 2 (t_Barrier_is_far K) := by
  obtain ⟨fd, F⟩ := T.says.def_ 50 (d := d_Barrier_is_far) rfl
  refine keptM_of (N := nm_Barrier_is_far) (body := defBody s_Barrier_is_far) (scope := defScope s_Barrier_is_far) (params := defArgs s_Barrier_is_far) F (c_Barrier T) (m_Barrier_is_far T) sc_Barrier_is_far (len_Barrier_is_far) (fun _ _ _ _ _ _ us hl => match us, hl with | [_, _], _ => rfl) (fun cdv A outer s H E hr => ⟨_, _,
      (pbd_cons (psd_if (pdt_val (pd_fldK (K := K) rfl (pdv 0) (c_Barrier T) (n_Barrier_also T))) (pbd_one (psd_ret (pd_not (pd_call (k_less T) (hr.mono (by decide)) (by rfl) (pda_cons (pdv 1) (pda_cons (pd_fldK (K := K) rfl (pdv 0) (c_Barrier T) (n_Barrier_square T)) pda_nil)))))) pbd_nil)
      (pbd_one (psd_ret (pd_call (k_less T) (hr.mono (by decide)) (by rfl) (pda_cons (pd_fldK (K := K) rfl (pdv 0) (c_Barrier T) (n_Barrier_square T)) (pda_cons (pdv 1) pda_nil)))))), ?_⟩)
  rintro ds k ⟨one, other, s, also, q, rfl, zs, zq, hk⟩
  refine ⟨_, rfl, _, _, _, rfl, rfl, _, rfl, ?_⟩
  refine ite2 (fun h => ?_) (fun h => ?_)
  · exact ⟨_, rfl, _, rfl, _, _, _, rfl, rfl, _, _, rfl, zq, zs, _, rfl, hk _⟩
  · exact ⟨_, rfl, _, _, _, rfl, rfl, _, rfl, _, _, rfl, zs, zq, hk _⟩
def t_Barrier_is_pair (K : PySem.W.Frag) : Tr := fun ds k => ∃ (one other : List Pt) (s : Rat) (also : Bool) (i j : Nat), ds = [barD K one other s also, .int i, .int j] ∧ Lz one ∧ Lz other ∧ Fz 4000 s ∧ i ≤ wd one ∧ j ≤ wd other ∧ ∀ b, k (.bl b)
theorem len_Barrier_is_pair {K : PySem.W.Frag} : ∀ ds k, t_Barrier_is_pair K ds k → ds.length = 3 := by
  rintro ds k ⟨_, _, _, _, _, _, rfl, _⟩
  rfl
abbrev nm_Barrier_is_pair : List Str := ["self", "i", "j"]
theorem sc_Barrier_is_pair : FnScope nm_Barrier_is_pair ["self", "i", "j"] (defScope s_Barrier_is_pair) := ⟨rfl, rfl, rfl, by decide +kernel, rfl, by decide +kernel, by decide +kernel⟩
theorem k_Barrier_is_pair (T : Txt K mg) : KeptM P w K mg base (He.ga K "Barrier") "is_pair" ["self", "i", "j"] 4 (t_Barrier_is_pair K) := by
  obtain ⟨fd, F⟩ := T.says.def_ 51 (d := d_Barrier_is_pair) rfl
  refine keptM_of (N := nm_Barrier_is_pair) (body := defBody s_Barrier_is_pair) (scope := defScope s_Barrier_is_pair) (params := defArgs s_Barrier_is_pair) F (c_Barrier T) (m_Barrier_is_pair T) sc_Barrier_is_pair (len_Barrier_is_pair) (fun _ _ _ _ _ _ us hl => match us, hl with | [_, _, _], _ => rfl) (fun cdv A outer s H E hr => ⟨_, _,
      (pbd_one (psd_ret (let oe := (pdv 0); let ae := (pda_cons (let oe := (pd_fldK (K := K) rfl (pdv 0) (c_Barrier T) (n_Barrier_cells T)); let ae := (pda_cons (pdv 1) (pda_cons (pdv 2) pda_nil)); pd_meth oe (k_Cells_apart T) (hr.mono (by decide)) ae (fun f fd cl h1 h2 h3 => pe_meth oe.run cl h1 h2 (hr.mono (by decide)) h3 .nil pass0 ae.run)) pda_nil); pd_meth oe (k_Barrier_is_far T) (hr.mono (by decide)) ae (fun f fd cl h1 h2 h3 => pe_meth oe.run cl h1 h2 (hr.mono (by decide)) h3 .nil pass0 ae.run)))), ?_⟩)
  rintro ds k ⟨one, other, s, also, i, j, rfl, z1, z2, zs, hi, hj, hk⟩
  have stlz1 := stl_len z1
  have stlz2 := stl_len z2
  have ew1 : (stl one).length = wd one + 1 := by unfold wd; omega
  have ew2 : (stl other).length = wd other + 1 := by unfold wd; omega
  have asz := ap_sz (stl_pz z1 _ (gp_mem (i := i) (by omega))) (stl_pz z2 _ (gp_mem (i := j) (by omega)))
  refine ⟨_, rfl, _, _, rfl, by decide +kernel, _, rfl, _, _, _, rfl, rfl, _, _, rfl, by decide +kernel, _, rfl, _, rfl, one, other, i, j, rfl, z1, z2, by omega, by omega, ?_⟩
  exact ⟨one, other, s, also, _, rfl, zs, asz.mono (by decide), hk⟩
def t_Barrier_steps_down (K : PySem.W.Frag) : Tr := fun ds k => ∃ (one other : List Pt) (s : Rat) (also : Bool) (i j : Nat), ds = [barD K one other s also, .int i, .int j] ∧ Lz one ∧ Lz other ∧ Fz 4000 s ∧ i ≤ wd one ∧ 0 < j ∧ j ≤ wd other ∧ ∀ xs, xs.length ≤ 1000 → (∀ x ∈ xs, isSt (wd one) (wd other) x) → k (.lst xs)
theorem len_Barrier_steps_down {K : PySem.W.Frag} : ∀ ds k, t_Barrier_steps_down K ds k → ds.length = 3 := by
  rintro ds k ⟨_, _, _, _, _, _, rfl, _⟩
  rfl
abbrev nm_Barrier_steps_down : List Str := ["self", "i", "j", "found", "here", "k", "there", "part", "y"]
theorem sc_Barrier_steps_down : FnScope nm_Barrier_steps_down ["self", "i", "j"] (defScope s_Barrier_steps_down) := ⟨rfl, rfl, rfl, by decide +kernel, rfl, by decide +kernel, by decide +kernel⟩
theorem k_Barrier_steps_down (T : Txt K mg) : KeptM P w K mg base (He.ga K "Barrier") "steps_down" ["self", "i", "j"] 5 (t_Barrier_steps_down K) := by
  obtain ⟨fd, F⟩ := T.says.def_ 53 (d := d_Barrier_steps_down) rfl
  refine keptM_of (N := nm_Barrier_steps_down) (body := defBody s_Barrier_steps_down) (scope := defScope s_Barrier_steps_down) (params := defArgs s_Barrier_steps_down) F (c_Barrier T) (m_Barrier_steps_down T) sc_Barrier_steps_down (len_Barrier_steps_down) (fun _ _ _ _ _ _ us hl => match us, hl with | [_, _, _], _ => rfl) (fun cdv A outer s H E hr => ⟨_, _,
      (pbd_cons (psd_own (i := 3) sc_Barrier_steps_down.nd rfl (by first | exact .inl rfl | exact .inr rfl) (pl_lst pda_nil))
      (pbd_cons (psd_set (i := 4) sc_Barrier_steps_down.nd rfl (by first | exact .inl rfl | exact .inr rfl) (pd_ixK (K := K) rfl (pd_ixK (K := K) rfl (pd_fldK (K := K) rfl (pd_fldK (K := K) rfl (pdv 0) (c_Barrier T) (n_Barrier_cells T)) (c_Cells T) (n_Cells_upright T)) (pdv 1)) (pd_op op_sub r2_I (pdv 2) pd_int)))
      (pbd_cut (psd_if (pdt_val (let oe := (pdv 0); let ae := (pda_cons (pd_call (k_least_worth T) (hr.mono (by decide)) (by rfl) (pda_cons (pdv 4) pda_nil)) pda_nil); pd_meth oe (k_Barrier_is_far T) (hr.mono (by decide)) ae (fun f fd cl h1 h2 h3 => pe_meth oe.run cl h1 h2 (hr.mono (by decide)) h3 .nil pass0 ae.run))) (pbd_one (let ae := (pd_tup (pda_cons (pdv 1) (pda_cons (pd_op op_sub r2_I (pdv 2) pd_int) (pda_cons (pd_sh (pl_lst pda_nil)) pda_nil)))); psd_app (i := 3) rfl (by first | exact .inl rfl | exact .inr (.inl rfl)) ae (pe_bm PySem.F.plainAttrs_list PySem.F.slot_list_append PySem.F.type_list_append mt_append (pv 3) (pa_cons ae.run pa_nil)))) pbd_nil)
      (pbd_cons (psd_for PassesOwn.never rfl (pid_range1 (by rfl) (f_range T) (pda_cons (pdv 1) pda_nil)) (pgd_name (i := 5) sc_Barrier_steps_down.nd rfl (by first | exact .inl rfl | exact .inr rfl))
      (pbd_cons (psd_set (i := 6) sc_Barrier_steps_down.nd rfl (by first | exact .inl rfl | exact .inr rfl) (pd_ixK (K := K) rfl (pd_ixK (K := K) rfl (pd_fldK (K := K) rfl (pd_fldK (K := K) rfl (pdv 0) (c_Barrier T) (n_Barrier_cells T)) (c_Cells T) (n_Cells_upright T)) (pdv 5)) (pd_op op_sub r2_I (pdv 2) pd_int)))
      (pbd_cons (psd_set (i := 7) sc_Barrier_steps_down.nd rfl (by first | exact .inl rfl | exact .inr rfl) (pd_call (k_crossing T) (hr.mono (by decide)) (by rfl) (pda_cons (pdv 6) (pda_cons (pdv 4) pda_nil))))
      (pbd_one (psd_if (pdw_and (pdt_cmp op_notN r2_notN (pdv 7) pd_non) (pdw_and1 (pdt_val (let oe := (pdv 0); let ae := (pda_cons (pd_call (k_worth T) (hr.mono (by decide)) (by rfl) (pda_cons (pdv 4) (pda_cons (pdv 7) pda_nil))) pda_nil); pd_meth oe (k_Barrier_is_far T) (hr.mono (by decide)) ae (fun f fd cl h1 h2 h3 => pe_meth oe.run cl h1 h2 (hr.mono (by decide)) h3 .nil pass0 ae.run))))).t (pbd_cons (psd_set (i := 8) sc_Barrier_steps_down.nd rfl (by first | exact .inl rfl | exact .inr rfl) (pd_call (k_place_of T) (hr.mono (by decide)) (by rfl) (pda_cons (pd_op op_sub r2_I (pdv 2) pd_int) (pda_cons (pdv 7) pda_nil))))
      (pbd_one (let ae := (pd_tup (pda_cons (pdv 5) (pda_cons (pd_op op_sub r2_I (pdv 2) pd_int) (pda_cons (pd_sh (pl_lst (pda_cons (pd_tup (pda_cons (pd_call (k_ratio1 T) (hr.mono (by decide)) (by rfl) (pda_cons (pdv 1) pda_nil)) (pda_cons (pdv 8) pda_nil))) (pda_cons (pd_tup (pda_cons (pd_call (k_ratio1 T) (hr.mono (by decide)) (by rfl) (pda_cons (pdv 5) pda_nil)) (pda_cons (pdv 8) pda_nil))) pda_nil)))) pda_nil)))); psd_app (i := 3) rfl (by first | exact .inl rfl | exact .inr (.inl rfl)) ae (pe_bm PySem.F.plainAttrs_list PySem.F.slot_list_append PySem.F.type_list_append mt_append (pv 3) (pa_cons ae.run pa_nil))))) pbd_nil)))))
      (pbd_one (psd_frz 3 (psd_ret (pdv 3)))))))), ?_⟩)
  rintro ds k ⟨one, other, s, also, i, j, rfl, z1, z2, zs, hi, hj0, hj, hk⟩
  have stlz1 := stl_len z1
  have stlz2 := stl_len z2
  have ew1 : (stl one).length = wd one + 1 := by unfold wd; omega
  have ew2 : (stl other).length = wd other + 1 := by unfold wd; omega
  have cj : ((j : Int) - 1) = ((j - 1 : Nat) : Int) := by omega
  have hz : ∀ k, k ≤ wd one → Cz (cq (stl one) (stl other) k (j - 1)) := fun k hk => cq_sz (stl_pz z1) (stl_pz z2) (by omega) (by omega)
  refine ⟨Nat.zero_le _, _, rfl, _, _, _, rfl, rfl, _, _, _, rfl, rfl, _, rfl, _, _, _, rfl, rfl, atm (rows_get (by omega)), _, rfl, _, _, rfl, rfl, _, _, _, rfl, rfl, atm3 cj (row_get (by omega)), ?_⟩
  refine ⟨fun ρ => ∃ (xs : List Dat) (a b c d : _), ρ = [some (.sh (barD K one other s also)), some (.sh (.int i)), some (.sh (.int j)), some (.ol xs), some (.sh (cv (cq (stl one) (stl other) i (j - 1)))), a, b, c, d] ∧ (∀ x ∈ xs, isSt (wd one) (wd other) x) ∧ xs.length ≤ 1, ?_, ?_⟩
  · refine ⟨_, rfl, _, _, rfl, by decide +kernel, _, rfl, _, rfl, hz _ hi, one, other, s, also, _, rfl, zs, (lw_sz (hz _ hi)).mono (by decide), fun b => ⟨_, rfl, ?_⟩⟩
    refine ite2 (fun h => ?_) (fun h => ?_)
    · refine ⟨_, rfl, by decide, _, rfl, _, rfl, _, _, rfl, rfl, Nat.zero_le _, tl3, ?_⟩
      refine ⟨_, _, _, _, _, rfl, isSt_snoc (fun x h => by cases h) ⟨i, j - 1, [], by rw [cj], hi, by omega, (fun x h => by cases h), by decide⟩, Nat.le_refl _⟩
    · exact ⟨[], _, _, _, _, rfl, (fun x h => by cases h), Nat.zero_le _⟩
  · rintro ρ ⟨xs, a, b, c, d, rfl, hx, hl⟩
    refine ⟨_, rfl, _, rfl, by omega, fun m ρ => ∃ (xs : List Dat) (a b c d : _), ρ = [some (.sh (barD K one other s also)), some (.sh (.int i)), some (.sh (.int j)), some (.ol xs), some (.sh (cv (cq (stl one) (stl other) i (j - 1)))), a, b, c, d] ∧ (∀ x ∈ xs, isSt (wd one) (wd other) x) ∧ xs.length ≤ 1 + m, ⟨xs, a, b, c, d, rfl, hx, hl⟩, ?_, ?_⟩
    · rintro m d ρ hm ⟨xs, a, b, c, d', rfl, hx, hl⟩
      obtain ⟨h3, rfl⟩ := rng0_get hm
      rw [Int.toNat_natCast] at h3
      refine ⟨_, rfl, _, _, _, rfl, rfl, _, _, _, rfl, rfl, _, rfl, _, _, _, rfl, rfl, atm (rows_get (by omega)), _, rfl, _, _, rfl, rfl, _, _, _, rfl, rfl, atm3 cj (row_get (by omega)), ?_⟩
      refine ⟨_, rfl, _, rfl, _, _, rfl, hz _ (by omega), hz _ hi, ?_⟩
      refine ⟨_, rfl, rfl, _, rfl, ?_⟩
      cases hc : crs (cq (stl one) (stl other) m (j - 1)) (cq (stl one) (stl other) i (j - 1)) with
      | none => exact iteF ⟨xs, _, _, _, _, rfl, hx, by omega⟩
      | some q =>
        have zq := crs_sz (hz _ (by omega)) (hz _ hi) hc
        refine iteT ⟨_, rfl, _, _, rfl, by decide +kernel, _, rfl, _, rfl, _, _, rfl, hz _ hi, zq, one, other, s, also, _, rfl, zs, (wv_sz (hz _ hi) zq).mono (by decide), fun b => ⟨_, rfl, ?_⟩⟩
        refine ite2 (fun h => ?_) (fun h => ?_)
        · refine ⟨_, rfl, _, _, rfl, rfl, _, rfl, _, _, rfl, szn (by omega) (by decide), zq.mono (by decide), ?_⟩
          refine ⟨_, rfl, by omega, _, rfl, _, rfl, _, _, rfl, rfl, _, rfl, _, _, rfl, by decide, szn (by omega) (by decide), sz1 (by decide), _, rfl, tl2, _, rfl, _, _, rfl, by decide, szn (by omega) (by decide), sz1 (by decide), _, rfl, tl2, tl2, tl3, ?_⟩
          refine ⟨_, _, _, _, _, rfl, isSt_snoc hx ⟨m, j - 1, _, by rw [cj], by omega, by omega, fun x h => ?_, Nat.le_refl _⟩, by rw [List.length_append]; exact Nat.add_le_add_right hl 1⟩
          rcases List.mem_cons.mp h with h | h
          · exact ⟨_, _, h⟩
          · exact ⟨_, _, List.mem_singleton.mp h⟩
        · exact ⟨xs, _, _, _, _, rfl, hx, by omega⟩
    · rintro ρ ⟨xs, a, b, c, d, rfl, hx, hl⟩
      rw [rng_len, Int.toNat_natCast] at hl
      refine .inl ⟨_, rfl, _, rfl, ?_⟩
      exact hk xs (by omega) hx
def t_Barrier_steps_over (K : PySem.W.Frag) : Tr := fun ds k => ∃ (one other : List Pt) (s : Rat) (also : Bool) (i j : Nat), ds = [barD K one other s also, .int i, .int j] ∧ Lz one ∧ Lz other ∧ Fz 4000 s ∧ i < wd one ∧ j ≤ wd other ∧ ∀ xs, xs.length ≤ 1000 → (∀ x ∈ xs, isSt (wd one) (wd other) x) → k (.lst xs)
theorem len_Barrier_steps_over {K : PySem.W.Frag} : ∀ ds k, t_Barrier_steps_over K ds k → ds.length = 3 := by
  rintro ds k ⟨_, _, _, _, _, _, rfl, _⟩
  rfl
abbrev nm_Barrier_steps_over : List Str := ["self", "i", "j", "found", "here", "k", "there", "part", "x"]
theorem sc_Barrier_steps_over : FnScope nm_Barrier_steps_over ["self", "i", "j"] (defScope s_Barrier_steps_over) := ⟨rfl, rfl, rfl, by decide +kernel, rfl, by decide +kernel, by decide +kernel⟩
theorem k_Barrier_steps_over (T : Txt K mg) : KeptM P w K mg base (He.ga K "Barrier") "steps_over" ["self", "i", "j"] 5 (t_Barrier_steps_over K) := by
  obtain ⟨fd, F⟩ := T.says.def_ 54 (d := d_Barrier_steps_over) rfl
  refine keptM_of (N := nm_Barrier_steps_over) (body := defBody s_Barrier_steps_over) (scope := defScope s_Barrier_steps_over) (params := defArgs s_Barrier_steps_over) F (c_Barrier T) (m_Barrier_steps_over T) sc_Barrier_steps_over (len_Barrier_steps_over) (fun _ _ _ _ _ _ us hl => match us, hl with | [_, _, _], _ => rfl) (fun cdv A outer s H E hr => ⟨_, _,
      (pbd_cons (psd_own (i := 3) sc_Barrier_steps_over.nd rfl (by first | exact .inl rfl | exact .inr rfl) (pl_lst pda_nil))
      (pbd_cons (psd_set (i := 4) sc_Barrier_steps_over.nd rfl (by first | exact .inl rfl | exact .inr rfl) (pd_ixK (K := K) rfl (pd_ixK (K := K) rfl (pd_fldK (K := K) rfl (pd_fldK (K := K) rfl (pdv 0) (c_Barrier T) (n_Barrier_cells T)) (c_Cells T) (n_Cells_level T)) (pdv 2)) (pdv 1)))
      (pbd_cut (psd_if (pdt_val (let oe := (pdv 0); let ae := (pda_cons (pd_call (k_least_worth T) (hr.mono (by decide)) (by rfl) (pda_cons (pdv 4) pda_nil)) pda_nil); pd_meth oe (k_Barrier_is_far T) (hr.mono (by decide)) ae (fun f fd cl h1 h2 h3 => pe_meth oe.run cl h1 h2 (hr.mono (by decide)) h3 .nil pass0 ae.run))) (pbd_one (let ae := (pd_tup (pda_cons (pd_op op_add r2_I (pdv 1) pd_int) (pda_cons (pdv 2) (pda_cons (pd_sh (pl_lst pda_nil)) pda_nil)))); psd_app (i := 3) rfl (by first | exact .inl rfl | exact .inr (.inl rfl)) ae (pe_bm PySem.F.plainAttrs_list PySem.F.slot_list_append PySem.F.type_list_append mt_append (pv 3) (pa_cons ae.run pa_nil)))) pbd_nil)
      (pbd_cons (psd_for PassesOwn.never rfl (pid_range2 (by rfl) (f_range T) (pda_cons (pd_op op_add r2_I (pdv 2) pd_int) (pda_cons (pd_op op_add r2_I (pd_fldK (K := K) rfl (pd_fldK (K := K) rfl (pdv 0) (c_Barrier T) (n_Barrier_cells T)) (c_Cells T) (n_Cells_high T)) pd_int) pda_nil))) (pgd_name (i := 5) sc_Barrier_steps_over.nd rfl (by first | exact .inl rfl | exact .inr rfl))
      (pbd_cons (psd_set (i := 6) sc_Barrier_steps_over.nd rfl (by first | exact .inl rfl | exact .inr rfl) (pd_ixK (K := K) rfl (pd_ixK (K := K) rfl (pd_fldK (K := K) rfl (pd_fldK (K := K) rfl (pdv 0) (c_Barrier T) (n_Barrier_cells T)) (c_Cells T) (n_Cells_level T)) (pdv 5)) (pdv 1)))
      (pbd_cons (psd_set (i := 7) sc_Barrier_steps_over.nd rfl (by first | exact .inl rfl | exact .inr rfl) (pd_call (k_crossing T) (hr.mono (by decide)) (by rfl) (pda_cons (pdv 4) (pda_cons (pdv 6) pda_nil))))
      (pbd_one (psd_if (pdw_and (pdt_cmp op_notN r2_notN (pdv 7) pd_non) (pdw_and1 (pdt_val (let oe := (pdv 0); let ae := (pda_cons (pd_call (k_worth T) (hr.mono (by decide)) (by rfl) (pda_cons (pdv 4) (pda_cons (pdv 7) pda_nil))) pda_nil); pd_meth oe (k_Barrier_is_far T) (hr.mono (by decide)) ae (fun f fd cl h1 h2 h3 => pe_meth oe.run cl h1 h2 (hr.mono (by decide)) h3 .nil pass0 ae.run))))).t (pbd_cons (psd_set (i := 8) sc_Barrier_steps_over.nd rfl (by first | exact .inl rfl | exact .inr rfl) (pd_call (k_place_of T) (hr.mono (by decide)) (by rfl) (pda_cons (pdv 1) (pda_cons (pdv 7) pda_nil))))
      (pbd_one (let ae := (pd_tup (pda_cons (pd_op op_add r2_I (pdv 1) pd_int) (pda_cons (pdv 5) (pda_cons (pd_sh (pl_lst (pda_cons (pd_tup (pda_cons (pdv 8) (pda_cons (pd_call (k_ratio1 T) (hr.mono (by decide)) (by rfl) (pda_cons (pdv 2) pda_nil)) pda_nil))) (pda_cons (pd_tup (pda_cons (pdv 8) (pda_cons (pd_call (k_ratio1 T) (hr.mono (by decide)) (by rfl) (pda_cons (pdv 5) pda_nil)) pda_nil))) pda_nil)))) pda_nil)))); psd_app (i := 3) rfl (by first | exact .inl rfl | exact .inr (.inl rfl)) ae (pe_bm PySem.F.plainAttrs_list PySem.F.slot_list_append PySem.F.type_list_append mt_append (pv 3) (pa_cons ae.run pa_nil))))) pbd_nil)))))
      (pbd_one (psd_frz 3 (psd_ret (pdv 3)))))))), ?_⟩)
  rintro ds k ⟨one, other, s, also, i, j, rfl, z1, z2, zs, hi, hj, hk⟩
  have stlz1 := stl_len z1
  have stlz2 := stl_len z2
  have ew1 : (stl one).length = wd one + 1 := by unfold wd; omega
  have ew2 : (stl other).length = wd other + 1 := by unfold wd; omega
  have fh : (((stl other).length : Int) - 1) = (wd other : Int) := by omega
  have hz : ∀ k, k ≤ wd other → Cz (cq (stl other) (stl one) k i) := fun k hk => cq_sz (stl_pz z2) (stl_pz z1) (by omega) (by omega)
  refine ⟨Nat.zero_le _, _, rfl, _, _, _, rfl, rfl, _, _, _, rfl, rfl, _, rfl, _, _, _, rfl, rfl, atm (rows_get (by omega)), _, rfl, _, _, _, rfl, rfl, atm (row_get (by omega)), ?_⟩
  refine ⟨fun ρ => ∃ (xs : List Dat) (a b c d : _), ρ = [some (.sh (barD K one other s also)), some (.sh (.int i)), some (.sh (.int j)), some (.ol xs), some (.sh (cv (cq (stl other) (stl one) j i))), a, b, c, d] ∧ (∀ x ∈ xs, isSt (wd one) (wd other) x) ∧ xs.length ≤ 1, ?_, ?_⟩
  · refine ⟨_, rfl, _, _, rfl, by decide +kernel, _, rfl, _, rfl, hz _ hj, one, other, s, also, _, rfl, zs, (lw_sz (hz _ hj)).mono (by decide), fun b => ⟨_, rfl, ?_⟩⟩
    refine ite2 (fun h => ?_) (fun h => ?_)
    · refine ⟨_, rfl, by decide, _, rfl, _, _, rfl, rfl, _, rfl, Nat.zero_le _, tl3, ?_⟩
      refine ⟨_, _, _, _, _, rfl, isSt_snoc (fun x h => by cases h) ⟨i + 1, j, [], rfl, by omega, by omega, (fun x h => by cases h), by decide⟩, Nat.le_refl _⟩
    · exact ⟨[], _, _, _, _, rfl, (fun x h => by cases h), Nat.zero_le _⟩
  · rintro ρ ⟨xs, a, b, c, d, rfl, hx, hl⟩
    refine ⟨_, rfl, _, _, rfl, rfl, _, rfl, _, _, _, rfl, rfl, _, _, _, rfl, rfl, _, _, rfl, rfl, _, _, rfl, ⟨by omega, by omega, by omega, by omega⟩, fun m ρ => ∃ (xs : List Dat) (a b c d : _), ρ = [some (.sh (barD K one other s also)), some (.sh (.int i)), some (.sh (.int j)), some (.ol xs), some (.sh (cv (cq (stl other) (stl one) j i))), a, b, c, d] ∧ (∀ x ∈ xs, isSt (wd one) (wd other) x) ∧ xs.length ≤ 1 + m, ⟨xs, a, b, c, d, rfl, hx, hl⟩, ?_, ?_⟩
    · rintro m d ρ hm ⟨xs, a, b, c, d', rfl, hx, hl⟩
      obtain ⟨h3, rfl⟩ := rng_get hm
      rw [fh] at h3
      have ck : ((j : Int) + 1 + (m : Int)) = ((j + 1 + m : Nat) : Int) := by omega
      refine ⟨_, rfl, _, _, _, rfl, rfl, _, _, _, rfl, rfl, _, rfl, _, _, _, rfl, rfl, atm3 ck (rows_get (by omega)), _, rfl, _, _, _, rfl, rfl, atm (row_get (by omega)), ?_⟩
      refine ⟨_, rfl, _, rfl, _, _, rfl, hz _ hj, hz _ (by omega), ?_⟩
      refine ⟨_, rfl, rfl, _, rfl, ?_⟩
      cases hc : crs (cq (stl other) (stl one) j i) (cq (stl other) (stl one) (j + 1 + m) i) with
      | none => exact iteF ⟨xs, _, _, _, _, rfl, hx, by omega⟩
      | some q =>
        have zq := crs_sz (hz _ hj) (hz _ (by omega)) hc
        refine iteT ⟨_, rfl, _, _, rfl, by decide +kernel, _, rfl, _, rfl, _, _, rfl, hz _ hj, zq, one, other, s, also, _, rfl, zs, (wv_sz (hz _ hj) zq).mono (by decide), fun b => ⟨_, rfl, ?_⟩⟩
        refine ite2 (fun h => ?_) (fun h => ?_)
        · refine ⟨_, rfl, _, rfl, _, _, rfl, szn (by omega) (by decide), zq.mono (by decide), ?_⟩
          refine ⟨_, rfl, by omega, _, rfl, _, _, rfl, rfl, _, rfl, _, rfl, _, rfl, _, _, rfl, by decide, szn (by omega) (by decide), sz1 (by decide), tl2, _, rfl, _, rfl, _, _, rfl, by decide, szn (by omega) (by decide), sz1 (by decide), tl2, tl2, tl3, ?_⟩
          refine ⟨_, _, _, _, _, rfl, isSt_snoc hx ⟨i + 1, j + 1 + m, _, by rw [ck]; rfl, by omega, by omega, fun x h => ?_, Nat.le_refl _⟩, by rw [List.length_append]; exact Nat.add_le_add_right hl 1⟩
          rcases List.mem_cons.mp h with h | h
          · exact ⟨_, _, h⟩
          · exact ⟨_, _, List.mem_singleton.mp h⟩
        · exact ⟨xs, _, _, _, _, rfl, hx, by omega⟩
    · rintro ρ ⟨xs, a, b, c, d, rfl, hx, hl⟩
      rw [rng_len, fh] at hl
      refine .inl ⟨_, rfl, _, rfl, ?_⟩
      exact hk xs (by omega) hx
end
end G
namespace G
open PySem PySem.Spec PyProof.Rows L2 DL M
section
variable {P : Program} {w : World} {K : PySem.W.Frag} {mg : Str → Option Value} {base : Heap}
def CameOk (n m : Nat) (ks : List (List Int)) (ds : List Dat) : Prop := ks.Nodup ∧ ks.length = ds.length ∧ (∀ k ∈ ks, ∃ a b : Nat, k = [(a : Int), (b : Int)] ∧ a ≤ n ∧ b ≤ m) ∧
  ∀ (i : Nat) (d : Dat), ds[i]? = some d → ∃ xs : List Dat, (∀ x ∈ xs, isP x) ∧ xs.length ≤ 2 ∧ (d = .tup [.non, .lst xs] ∨ ∃ (j : Nat) (k' : List Int), j < i ∧ ks[j]? = some k' ∧ d = .tup [.tup (k'.map .int), .lst xs])
theorem CameOk.nil {n m : Nat} : CameOk n m [] [] := ⟨List.nodup_nil, rfl, fun k h => (by cases h), fun i d h => (by cases h)⟩
theorem CameOk.snoc {n m : Nat} {ks : List (List Int)} {ds : List Dat} (h : CameOk n m ks ds) {a b : Nat} (ha : a ≤ n) (hb : b ≤ m) (hk : ¬ [(a : Int), (b : Int)] ∈ ks) {d : Dat} {xs : List Dat} (hx : ∀ x ∈ xs, isP x) (hl : xs.length ≤ 2)
    (hd : d = .tup [.non, .lst xs] ∨ ∃ (j : Nat) (k' : List Int), ks[j]? = some k' ∧ d = .tup [.tup (k'.map .int), .lst xs]) : CameOk n m (ks ++ [[(a : Int), (b : Int)]]) (ds ++ [d]) := by
  obtain ⟨h1, h2, h3, h4⟩ := h
  refine ⟨?_, by simp [h2], fun k hk' => ?_, fun i e he => ?_⟩
  · rw [List.nodup_append]
    exact ⟨h1, by simp, fun x hx y hy z => hk (by rw [← List.mem_singleton.mp hy, ← z]; exact hx)⟩
  · rcases List.mem_append.mp hk' with h | h
    · exact h3 k h
    · exact ⟨a, b, List.mem_singleton.mp h, ha, hb⟩
  · by_cases hlt : i < ds.length
    · rw [List.getElem?_append_left hlt] at he
      obtain ⟨ys, y1, y2, y3⟩ := h4 i e he
      refine ⟨ys, y1, y2, y3.imp id ?_⟩
      rintro ⟨j, k', q1, q2, q3⟩
      exact ⟨j, k', q1, by rw [List.getElem?_append_left (by omega)]; exact q2, q3⟩
    · have hi : i = ds.length := by
        have := (List.getElem?_eq_some_iff.mp he).1
        simp at this
        omega
      subst hi
      rw [List.getElem?_append_right (Nat.le_refl _)] at he
      simp at he
      subst he
      refine ⟨xs, hx, hl, hd.imp id ?_⟩
      rintro ⟨j, k', q2, q3⟩
      have hj := (List.getElem?_eq_some_iff.mp q2).1
      exact ⟨j, k', by omega, by rw [List.getElem?_append_left hj]; exact q2, q3⟩
theorem nodup_sub {α : Type} [BEq α] [LawfulBEq α] : ∀ {l1 l2 : List α}, l1.Nodup → l1 ⊆ l2 → l1.length ≤ l2.length
  | [], _, _, _ => Nat.zero_le _
  | a :: t, l2, hn, hs => by
    rw [List.nodup_cons] at hn
    have ha : a ∈ l2 := hs List.mem_cons_self
    have := nodup_sub (l1 := t) (l2 := l2.erase a) hn.2 (fun x hx => (List.mem_erase_of_ne (fun z => hn.1 (by rw [← z]; exact hx))).mpr (hs (List.mem_cons_of_mem _ hx)))
    rw [List.length_erase_of_mem ha] at this
    have h0 := List.length_pos_of_mem ha
    rw [List.length_cons]
    omega
theorem nodup_len {n m : Nat} : ∀ {ks : List (List Int)}, ks.Nodup → (∀ k ∈ ks, ∃ a b : Nat, k = [(a : Int), (b : Int)] ∧ a ≤ n ∧ b ≤ m) → ks.length ≤ (n + 1) * (m + 1) := fun {ks} hn hk => by
  have hs : ks ⊆ (List.range (n + 1)).flatMap fun a => (List.range (m + 1)).map fun b => [((a : Nat) : Int), ((b : Nat) : Int)] := fun k h => by
    obtain ⟨a, b, rfl, ha, hb⟩ := hk k h
    rw [List.mem_flatMap]
    exact ⟨a, List.mem_range.mpr (by omega), List.mem_map.mpr ⟨b, List.mem_range.mpr (by omega), rfl⟩⟩
  refine Nat.le_trans (nodup_sub hn hs) ?_
  simp [List.length_flatMap, List.map_const', List.sum_replicate_nat]
def t_Barrier_steps_back (K : PySem.W.Frag) : Tr := fun ds k => ∃ (one other : List Pt) (s : Rat) (also : Bool) (i j : Nat), ds = [barD K one other s also, .int i, .int j] ∧ Lz one ∧ Lz other ∧ Fz 4000 s ∧ i ≤ wd one ∧ j ≤ wd other ∧ ∀ xs, xs.length ≤ 1000 → (∀ x ∈ xs, isSt (wd one) (wd other) x) → k (.lst xs)
theorem len_Barrier_steps_back {K : PySem.W.Frag} : ∀ ds k, t_Barrier_steps_back K ds k → ds.length = 3 := by
  rintro ds k ⟨_, _, _, _, _, _, rfl, _⟩
  rfl
abbrev nm_Barrier_steps_back : List Str := ["self", "i", "j", "found", "k", "at"]
theorem sc_Barrier_steps_back : FnScope nm_Barrier_steps_back ["self", "i", "j"] (defScope s_Barrier_steps_back) := ⟨rfl, rfl, rfl, by decide +kernel, rfl, by decide +kernel, by decide +kernel⟩
theorem k_Barrier_steps_back (T : Txt K mg) : KeptM P w K mg base (He.ga K "Barrier") "steps_back" ["self", "i", "j"] 5 (t_Barrier_steps_back K) := by
  obtain ⟨fd, F⟩ := T.says.def_ 55 (d := d_Barrier_steps_back) rfl
  refine keptM_of (N := nm_Barrier_steps_back) (body := defBody s_Barrier_steps_back) (scope := defScope s_Barrier_steps_back) (params := defArgs s_Barrier_steps_back) F (c_Barrier T) (m_Barrier_steps_back T) sc_Barrier_steps_back (len_Barrier_steps_back) (fun _ _ _ _ _ _ us hl => match us, hl with | [_, _, _], _ => rfl) (fun cdv A outer s H E hr => ⟨_, _,
      (pbd_cons (psd_own (i := 3) sc_Barrier_steps_back.nd rfl (by first | exact .inl rfl | exact .inr rfl) (pl_lst pda_nil))
      (pbd_cons (psd_for PassesOwn.never rfl (pid_range1 (by rfl) (f_range T) (pda_cons (pd_op op_add r2_I (pdv 1) pd_int) pda_nil)) (pgd_name (i := 4) sc_Barrier_steps_back.nd rfl (by first | exact .inl rfl | exact .inr rfl))
      (pbd_one (psd_for PassesOwn.never rfl (pid_range2 (by rfl) (f_range T) (pda_cons (pdv 2) (pda_cons (pd_op op_add r2_I (pd_fldK (K := K) rfl (pd_fldK (K := K) rfl (pdv 0) (c_Barrier T) (n_Barrier_cells T)) (c_Cells T) (n_Cells_high T)) pd_int) pda_nil))) (pgd_name (i := 5) sc_Barrier_steps_back.nd rfl (by first | exact .inl rfl | exact .inr rfl))
      (pbd_one (psd_if (pdw_and (pdt_cmp (op_neA hr.units) r2_ne (pd_tup (pda_cons (pdv 4) (pda_cons (pdv 5) pda_nil))) (pd_tup (pda_cons (pdv 1) (pda_cons (pdv 2) pda_nil)))) (pdw_and1 (pdt_val (let oe := (pdv 0); let ae := (pda_cons (pdv 4) (pda_cons (pdv 5) pda_nil)); pd_meth oe (k_Barrier_is_pair T) (hr.mono (by decide)) ae (fun f fd cl h1 h2 h3 => pe_meth oe.run cl h1 h2 (hr.mono (by decide)) h3 .nil pass0 ae.run))))).t (pbd_one (let ae := (pd_tup (pda_cons (pdv 4) (pda_cons (pdv 5) (pda_cons (pd_sh (pl_lst pda_nil)) pda_nil)))); psd_app (i := 3) rfl (by first | exact .inl rfl | exact .inr (.inl rfl)) ae (pe_bm PySem.F.plainAttrs_list PySem.F.slot_list_append PySem.F.type_list_append mt_append (pv 3) (pa_cons ae.run pa_nil)))) pbd_nil)))))
      (pbd_one (psd_frz 3 (psd_ret (pdv 3)))))), ?_⟩)
  rintro ds k ⟨one, other, s, also, i, j, rfl, z1, z2, zs, hi, hj, hk⟩
  have stlz1 := stl_len z1
  have stlz2 := stl_len z2
  have ew1 : (stl one).length = wd one + 1 := by unfold wd; omega
  have ew2 : (stl other).length = wd other + 1 := by unfold wd; omega
  have fh : (((stl other).length : Int) - 1) = (wd other : Int) := by omega
  refine ⟨Nat.zero_le _, _, rfl, _, _, rfl, rfl, _, rfl, by omega, fun m ρ => ∃ (xs : List Dat) (a b : _), ρ = [some (.sh (barD K one other s also)), some (.sh (.int i)), some (.sh (.int j)), some (.ol xs), a, b] ∧ (∀ x ∈ xs, isSt (wd one) (wd other) x) ∧ xs.length ≤ 20 * m, ⟨[], _, _, rfl, (fun x h => by cases h), Nat.zero_le _⟩, ?_, ?_⟩
  · rintro m d ρ hm ⟨xs, a, b, rfl, hx, hl⟩
    obtain ⟨h3, rfl⟩ := rng0_get hm
    have h3' : m < i + 1 := by omega
    refine ⟨_, rfl, _, rfl, _, _, _, rfl, rfl, _, _, _, rfl, rfl, _, _, rfl, rfl, _, _, rfl, ⟨by omega, by omega, by omega, by omega⟩, fun n ρ => ∃ (xs : List Dat) (b : _), ρ = [some (.sh (barD K one other s also)), some (.sh (.int i)), some (.sh (.int j)), some (.ol xs), some (.sh (.int (m : Int))), b] ∧ (∀ x ∈ xs, isSt (wd one) (wd other) x) ∧ xs.length ≤ 20 * m + n, ⟨xs, _, rfl, hx, hl⟩, ?_, ?_⟩
    · rintro n d ρ hn ⟨xs, b, rfl, hx, hl⟩
      obtain ⟨h4, rfl⟩ := rng_get hn
      rw [fh] at h4
      have cj : ((j : Int) + (n : Int)) = ((j + n : Nat) : Int) := by omega
      refine ⟨_, rfl, _, rfl, tl2, _, rfl, _, rfl, tl2, _, rfl, _, rfl, ?_⟩
      refine ite2 (fun h => ?_) (fun h => ?_)
      · refine ⟨_, rfl, _, _, rfl, by decide +kernel, _, rfl, _, rfl, one, other, s, also, m, j + n, by rw [cj]; rfl, z1, z2, zs, by omega, by omega, fun b => ⟨_, rfl, ?_⟩⟩
        refine ite2 (fun h => ?_) (fun h => ?_)
        · refine ⟨_, rfl, by omega, _, rfl, _, rfl, Nat.zero_le _, tl3, ?_⟩
          refine ⟨_, _, rfl, isSt_snoc hx ⟨m, j + n, [], by rw [cj], by omega, by omega, (fun x h => by cases h), by decide⟩, by rw [List.length_append]; exact Nat.add_le_add_right hl 1⟩
        · exact ⟨xs, _, rfl, hx, by omega⟩
      · exact iteF ⟨xs, _, rfl, hx, by omega⟩
    · rintro ρ ⟨xs, b, rfl, hx, hl⟩
      rw [rng_len, fh] at hl
      exact ⟨xs, _, _, rfl, hx, by omega⟩
  · rintro ρ ⟨xs, a, b, rfl, hx, hl⟩
    rw [rng_len] at hl
    refine .inl ⟨_, rfl, _, rfl, ?_⟩
    exact hk xs (by omega) hx
def t_Barrier_steps (K : PySem.W.Frag) : Tr := fun ds k => ∃ (one other : List Pt) (s : Rat) (also : Bool) (i j : Nat), ds = [barD K one other s also, .int i, .int j] ∧ Lz one ∧ Lz other ∧ Fz 4000 s ∧ i ≤ wd one ∧ j ≤ wd other ∧ ∀ xs, xs.length ≤ 2000 → (∀ x ∈ xs, isSt (wd one) (wd other) x) → k (.lst xs)
theorem len_Barrier_steps {K : PySem.W.Frag} : ∀ ds k, t_Barrier_steps K ds k → ds.length = 3 := by
  rintro ds k ⟨_, _, _, _, _, _, rfl, _⟩
  rfl
abbrev nm_Barrier_steps : List Str := ["self", "i", "j", "found"]
theorem sc_Barrier_steps : FnScope nm_Barrier_steps ["self", "i", "j"] (defScope s_Barrier_steps) := ⟨rfl, rfl, rfl, by decide +kernel, rfl, by decide +kernel, by decide +kernel⟩
theorem k_Barrier_steps (T : Txt K mg) : KeptM P w K mg base (He.ga K "Barrier") "steps" ["self", "i", "j"] 6 (t_Barrier_steps K) := by
  obtain ⟨fd, F⟩ := T.says.def_ 52 (d := d_Barrier_steps) rfl
  refine keptM_of (N := nm_Barrier_steps) (body := defBody s_Barrier_steps) (scope := defScope s_Barrier_steps) (params := defArgs s_Barrier_steps) F (c_Barrier T) (m_Barrier_steps T) sc_Barrier_steps (len_Barrier_steps) (fun _ _ _ _ _ _ us hl => match us, hl with | [_, _, _], _ => rfl) (fun cdv A outer s H E hr => ⟨_, _,
      (pbd_cons (psd_set (i := 3) sc_Barrier_steps.nd rfl (by first | exact .inl rfl | exact .inr rfl) (pd_sh (pl_lst pda_nil)))
      (pbd_cut (psd_if (pdt_cmp op_gt r2_B (pdv 2) pd_int) (pbd_one (psd_set (i := 3) sc_Barrier_steps.nd rfl (by first | exact .inl rfl | exact .inr rfl) (let oe := (pdv 0); let ae := (pda_cons (pdv 1) (pda_cons (pdv 2) pda_nil)); pd_meth oe (k_Barrier_steps_down T) (hr.mono (by decide)) ae (fun f fd cl h1 h2 h3 => pe_meth oe.run cl h1 h2 (hr.mono (by decide)) h3 .nil pass0 ae.run)))) pbd_nil)
      (pbd_cons (psd_if (pdt_cmp op_lt r2_B (pdv 1) (pd_fldK (K := K) rfl (pd_fldK (K := K) rfl (pdv 0) (c_Barrier T) (n_Barrier_cells T)) (c_Cells T) (n_Cells_wide T))) (pbd_one (psd_set (i := 3) sc_Barrier_steps.nd rfl (by first | exact .inl rfl | exact .inr rfl) (pd_sh (pl_cat (pdv 3) (let oe := (pdv 0); let ae := (pda_cons (pdv 1) (pda_cons (pdv 2) pda_nil)); pd_meth oe (k_Barrier_steps_over T) (hr.mono (by decide)) ae (fun f fd cl h1 h2 h3 => pe_meth oe.run cl h1 h2 (hr.mono (by decide)) h3 .nil pass0 ae.run)))))) pbd_nil)
      (pbd_one (psd_ret (pdv 3)))))), ?_⟩)
  rintro ds k ⟨one, other, s, also, i, j, rfl, z1, z2, zs, hi, hj, hk⟩
  have stlz1 := stl_len z1
  have ew1 : (stl one).length = wd one + 1 := by unfold wd; omega
  have fw : (((stl one).length : Int) - 1) = (wd one : Int) := by omega
  refine ⟨Nat.zero_le _, ?_⟩
  refine ⟨fun ρ => ∃ (xs : List Dat), ρ = [some (.sh (barD K one other s also)), some (.sh (.int i)), some (.sh (.int j)), some (.sh (.lst xs))] ∧ (∀ x ∈ xs, isSt (wd one) (wd other) x) ∧ xs.length ≤ 1000, ?_, ?_⟩
  · refine ⟨_, rfl, _, _, rfl, rfl, _, rfl, ?_⟩
    refine ite2 (fun h => ?_) (fun h => ?_)
    · have h' : (0 : Int) < (j : Int) := by simpa using h
      exact ⟨_, rfl, _, _, rfl, by decide +kernel, _, rfl, _, rfl, one, other, s, also, i, j, rfl, z1, z2, zs, hi, by omega, hj, fun xs hl hx => ⟨xs, rfl, hx, hl⟩⟩
    · exact ⟨[], rfl, (fun x h => by cases h), Nat.zero_le _⟩
  · rintro ρ ⟨xs, rfl, hx, hl⟩
    refine ⟨_, rfl, _, rfl, _, _, _, rfl, rfl, _, _, _, rfl, rfl, _, _, rfl, rfl, _, rfl, ?_⟩
    refine ite2 (fun h => ?_) (fun h => ?_)
    · have h' : (i : Int) < (wd one : Int) := by rw [← fw]; simpa using h
      refine ⟨_, rfl, _, rfl, _, _, rfl, by decide +kernel, _, rfl, _, rfl, one, other, s, also, i, j, rfl, z1, z2, zs, by omega, hj, fun ys hl2 hy => ?_⟩
      refine ⟨_, _, rfl, rfl, by omega, _, rfl, ?_⟩
      exact hk _ (by rw [List.length_append]; omega) fun x h => (List.mem_append.mp h).elim (hx x) (hy x)
    · exact ⟨_, rfl, hk xs (by omega) hx⟩
def t_told_way (K : PySem.W.Frag) : Tr := fun ds k => ∃ (one other : List Pt) (ks : List (List Int)) (vs : List Dat) (i : Nat) (kk : List Int), ds = [ceD K one other, .dct ks vs, .tup (kk.map .int)] ∧ Lz one ∧ Lz other ∧ CameOk (wd one) (wd other) ks vs ∧ ks[i]? = some kk ∧ i < 1000 ∧ ∀ xs, k (.lst xs)
theorem len_told_way {K : PySem.W.Frag} : ∀ ds k, t_told_way K ds k → ds.length = 3 := by
  rintro ds k ⟨_, _, _, _, _, _, rfl, _⟩
  rfl
abbrev nm_told_way : List Str := ["cells", "came", "goal", "pairs", "ahead", "between", "x", "y"]
theorem sc_told_way : FnScope nm_told_way ["cells", "came", "goal"] (defScope s_told_way) := ⟨rfl, rfl, rfl, by decide +kernel, rfl, by decide +kernel, by decide +kernel⟩
theorem k_told_way (T : Txt K mg) : Kept P w K mg base "told_way" ["cells", "came", "goal"] [] 3 (t_told_way K) := by
  obtain ⟨fd, F⟩ := T.says.def_ 56 (d := d_told_way) rfl
  refine kept_of (N := nm_told_way) (body := defBody s_told_way) (scope := defScope s_told_way) (params := defArgs s_told_way) F (g_told_way T) sc_told_way (len_told_way) (fun _ _ _ _ _ _ us hl => match us, hl with | [_, _, _], _ => rfl) (fun cdv A outer s H E hr => ⟨_, _,
      (pbd_cons (psd_set (i := 3) sc_told_way.nd rfl (by first | exact .inl rfl | exact .inr rfl) (pd_sh (pl_lst pda_nil)))
      (pbd_cons (psd_while PassesOwn.never (pdt_cmp op_notN r2_notN (pdv 2) pd_non)
      (pbd_cons (psd_asg (pd_dget (hu_of hr) (pdv 1) (pdv 2)) (pgd_tupK (K := K) (n := 2) rfl rfl (pgds_cons (pgd_name (i := 4) sc_told_way.nd rfl (by first | exact .inl rfl | exact .inr rfl)) (pgds_cons (pgd_name (i := 5) sc_told_way.nd rfl (by first | exact .inl rfl | exact .inr rfl)) pgds_nil))))
      (pbd_cons (psd_set (i := 3) sc_told_way.nd rfl (by first | exact .inl rfl | exact .inr rfl) (pd_sh (pl_cat (pd_sh (pl_cat (pdv 5) (pd_sh (pl_lst (pda_cons (pd_tup (pda_cons (pd_call (k_ratio1 T) (hr.mono (by decide)) (by rfl) (pda_cons (pd_ixK (K := K) rfl (pdv 2) pd_int) pda_nil)) (pda_cons (pd_call (k_ratio1 T) (hr.mono (by decide)) (by rfl) (pda_cons (pd_ixK (K := K) rfl (pdv 2) pd_int) pda_nil)) pda_nil))) pda_nil))))) (pdv 3))))
      (pbd_one (psd_set (i := 2) sc_told_way.nd rfl (by first | exact .inl rfl | exact .inr rfl) (pdv 4))))))
      (pbd_one (psd_ret (pd_sh (pl_lc (own := [("x", 6), ("y", 7)]) rfl sc_told_way.nd (pid_list (pdv 3)) (blkOk_by (N := nm_told_way) (sc := defScope s_told_way) (by decide +kernel)) (fun _ _ _ _ _ => (pgd_tupK (K := K) (n := 2) rfl rfl (pgds_cons (pgd_name (i := 6) sc_told_way.nd rfl (by first | exact .inl rfl | exact .inr rfl)) (pgds_cons (pgd_name (i := 7) sc_told_way.nd rfl (by first | exact .inl rfl | exact .inr rfl)) pgds_nil)))) (fun _ _ _ _ _ => pdts_nil) (fun _ _ _ _ _ => (let oe := (pdv 0); let ae := (pda_cons (pdv 6) (pda_cons (pdv 7) pda_nil)); pd_meth oe (k_Cells_pair_told T) (hr.mono (by decide)) ae (fun f fd cl h1 h2 h3 => pe_meth oe.run cl h1 h2 (hr.mono (by decide)) h3 .nil pass0 ae.run))))))))), ?_⟩)
  rintro ds k ⟨one, other, ks, vs, i0, kk0, rfl, z1, z2, hc, h0, hi0, hk⟩
  have stlz1 := stl_len z1
  have stlz2 := stl_len z2
  have ew1 : (stl one).length = wd one + 1 := by unfold wd; omega
  have ew2 : (stl other).length = wd other + 1 := by unfold wd; omega
  obtain ⟨c1, c2, c3, c4⟩ := hc
  refine ⟨Nat.zero_le _, fun m ρ => ∃ (g : Dat) (xs : List Dat) (a b c d : _), ρ = [some (.sh (ceD K one other)), some (.sh (.dct ks vs)), some (.sh g), some (.sh (.lst xs)), a, b, c, d] ∧ (∀ x ∈ xs, isP x) ∧ xs.length + 3 * m ≤ 3 * (i0 + 1) ∧ ((g = .non ∧ m = 0) ∨ ∃ i kk, m = i + 1 ∧ ks[i]? = some kk ∧ g = .tup (kk.map .int)),
    ⟨i0 + 1, _, [], _, _, _, _, rfl, (fun x h => by cases h), by simp, .inr ⟨i0, kk0, rfl, h0, rfl⟩⟩, ?_⟩
  rintro m ρ ⟨g, xs, a, b, c, d, rfl, hx, hl, hg⟩
  refine ⟨_, rfl, rfl, _, rfl, ?_⟩
  rcases hg with ⟨rfl, rfl⟩ | ⟨i, kk, rfl, hi, rfl⟩
  · refine iteF ?_
    refine ⟨_, rfl, _, rfl, fun m acc => acc.length = m, rfl, ?_, ?_⟩
    · rintro m d acc hm rfl
      obtain ⟨u, v, rfl⟩ := hx _ (List.mem_of_getElem? hm)
      have hm' := (List.getElem?_eq_some_iff.mp hm).1
      refine ⟨_, rfl, rfl, _, _, rfl, _, _, rfl, rfl, ?_⟩
      refine ⟨_, rfl, _, _, rfl, by decide +kernel, _, rfl, _, rfl, one, other, u, v, rfl, ?_⟩
      exact ⟨by omega, by simp⟩
    · intro acc _
      exact hk acc
  · refine iteT ?_
    obtain ⟨v, hv⟩ : ∃ v, vs[i]? = some v := ⟨_, List.getElem?_eq_getElem (by rw [← c2]; exact (List.getElem?_eq_some_iff.mp hi).1)⟩
    obtain ⟨ys, hy1, hy2, hy3⟩ := c4 i v hv
    have hget : getK ks vs kk = some v := (getK_at c1 c2 hi).trans hv
    obtain ⟨a', b', rfl, ha, hb⟩ := c3 kk (List.mem_of_getElem? hi)
    obtain ⟨g, rfl, hg⟩ : ∃ g, v = .tup [g, .lst ys] ∧ (g = .non ∨ ∃ (j : Nat) (k' : List Int), j < i ∧ ks[j]? = some k' ∧ g = .tup (k'.map .int)) := by
      rcases hy3 with h | ⟨j, k', q1, q2, q3⟩
      · exact ⟨_, h, .inl rfl⟩
      · exact ⟨_, q3, .inr ⟨j, k', q1, q2, rfl⟩⟩
    refine ⟨_, rfl, _, _, rfl, _, rfl, _, _, rfl, hget, _, rfl, rfl, _, _, rfl, _, _, rfl, rfl, ?_⟩
    refine ⟨_, rfl, _, rfl, _, _, _, rfl, rfl, rfl, _, _, rfl, by decide, szn (by omega) (by decide), sz1 (by decide), _, rfl, _, _, _, rfl, rfl, rfl, _, _, rfl, by decide, szn (by omega) (by decide), sz1 (by decide), tl2, Nat.le_of_ble_eq_true rfl, _, _, rfl, rfl, ?_, _, rfl, _, _, rfl, rfl, ?_, ?_⟩
    · simp
      omega
    · simp
      omega
    have hxs : ∀ z ∈ ys ++ [Dat.tup [fr (Rat.divInt (a' : Int) 1), fr (Rat.divInt (b' : Int) 1)]] ++ xs, isP z := fun z hz => by
      rcases List.mem_append.mp hz with h | h
      · rcases List.mem_append.mp h with h | h
        · exact hy1 z h
        · exact ⟨_, _, List.mem_singleton.mp h⟩
      · exact hx z h
    have hln : (ys ++ [Dat.tup [fr (Rat.divInt (a' : Int) 1), fr (Rat.divInt (b' : Int) 1)]] ++ xs).length ≤ xs.length + 3 := by
      simp
      omega
    rcases hg with rfl | ⟨j, k', q1, q2, rfl⟩
    · exact ⟨_, rfl, 0, by omega, _, _, _, _, _, _, rfl, hxs, by omega, .inl ⟨rfl, rfl⟩⟩
    · exact ⟨_, rfl, j + 1, by omega, _, _, _, _, _, _, rfl, hxs, by omega, .inr ⟨j, k', rfl, q2, rfl⟩⟩
end
end G
namespace G
open PySem PySem.Spec PyProof.Rows L2 DL M
section
variable {P : Program} {w : World} {K : PySem.W.Frag} {mg : Str → Option Value} {base : Heap}
def kD (k : List Int) : Dat := .tup (k.map .int)
def fEnv (K : PySem.W.Frag) (one other : List Pt) (s : Rat) (also part : Bool) (ks : List (List Int)) (vs : List Dat) (t : EnvD) : EnvD := [some (.sh (ceD K one other)), some (.sh (fr s)), some (.sh (.bl also)), some (.sh (.bl part)), some (.sh (barD K one other s also)), some (.od ks vs), some (.ol (ks.map kD))] ++ t
theorem isKey2 (a b : Int) : isKey (.tup [.int a, .int b]) [a, b] := rfl
theorem snoc_kD (ks : List (List Int)) (a b : Int) : ks.map kD ++ [Dat.tup [.int a, .int b]] = (ks ++ [[a, b]]).map kD := by
  rw [List.map_append]
  rfl
theorem ofNot {b : Bool} (h : ¬ (b = true)) : b = false := by cases b <;> simp_all
def t_fence_of (K : PySem.W.Frag) : Tr := fun ds k => ∃ (one other : List Pt) (s : Rat) (also part : Bool), ds = [ceD K one other, fr s, .bl also, .bl part] ∧ Lz one ∧ Lz other ∧ Fz 4000 s ∧ ∀ d, k d
theorem len_fence_of {K : PySem.W.Frag} : ∀ ds k, t_fence_of K ds k → ds.length = 4 := by
  rintro ds k ⟨_, _, _, _, _, rfl, _⟩
  rfl
abbrev nm_fence_of : List Str := ["cells", "square", "also", "part", "barrier", "came", "waiting", "i", "j", "at", "a", "b", "between"]
theorem sc_fence_of : FnScope nm_fence_of ["cells", "square", "also", "part"] (defScope s_fence_of) := ⟨rfl, rfl, rfl, by decide +kernel, rfl, by decide +kernel, by decide +kernel⟩
theorem k_fence_of (T : Txt K mg) : Kept P w K mg base "fence_of" ["cells", "square", "also", "part"] [] 7 (t_fence_of K) := by
  obtain ⟨fd, F⟩ := T.says.def_ 57 (d := d_fence_of) rfl
  refine kept_of (N := nm_fence_of) (body := defBody s_fence_of) (scope := defScope s_fence_of) (params := defArgs s_fence_of) F (g_fence_of T) sc_fence_of (len_fence_of) (fun _ _ _ _ _ _ us hl => match us, hl with | [_, _, _, _], _ => rfl) (fun cdv A outer s H E hr => ⟨_, _,
      (pbd_cons (psd_set (i := 4) sc_fence_of.nd rfl (by first | exact .inl rfl | exact .inr rfl) (pd_make (mk_Barrier T) (hr.mono (by decide)) (by rfl) (pda_cons (pdv 0) (pda_cons (pdv 1) (pda_cons (pdv 2) pda_nil)))))
      (pbd_cons (psd_ownD (i := 5) sc_fence_of.nd rfl (by first | exact .inl rfl | exact .inr rfl))
      (pbd_cons (psd_own (i := 6) sc_fence_of.nd rfl (by first | exact .inl rfl | exact .inr rfl) (pl_lst pda_nil))
      (pbd_cons (psd_for PassesOwn.never rfl (pid_range1 (by rfl) (f_range T) (pda_cons (pd_op op_add r2_I (pd_fldK (K := K) rfl (pdv 0) (c_Cells T) (n_Cells_wide T)) pd_int) pda_nil)) (pgd_name (i := 7) sc_fence_of.nd rfl (by first | exact .inl rfl | exact .inr rfl))
      (pbd_one (psd_for PassesOwn.never rfl (pid_range1 (by rfl) (f_range T) (pda_cons (pd_op op_add r2_I (pd_fldK (K := K) rfl (pdv 0) (c_Cells T) (n_Cells_high T)) pd_int) pda_nil)) (pgd_name (i := 8) sc_fence_of.nd rfl (by first | exact .inl rfl | exact .inr rfl))
      (pbd_one (psd_if (pdw_and (pdw_or (pdt_cmp (op_eqA hr.units) r2_eq (pdv 8) (pd_fldK (K := K) rfl (pdv 0) (c_Cells T) (n_Cells_high T))) (pdw_or1 (pdw_and (pdt_cmp (op_eqA hr.units) r2_eq (pdv 7) pd_int) (pdw_and1 (pdt_not (pdt_val (pdv 3))))).t)).t (pdw_and1 (pdt_val (let oe := (pdv 4); let ae := (pda_cons (pdv 7) (pda_cons (pdv 8) pda_nil)); pd_meth oe (k_Barrier_is_pair T) (hr.mono (by decide)) ae (fun f fd cl h1 h2 h3 => pe_meth oe.run cl h1 h2 (hr.mono (by decide)) h3 .nil pass0 ae.run))))).t (pbd_cons (psd_put (i := 5) (hu_of hr) (pv 5) (pd_tup (pda_cons (pdv 7) (pda_cons (pdv 8) pda_nil))) (pd_tup (pda_cons pd_non (pda_cons (pd_sh (pl_lst pda_nil)) pda_nil))))
      (pbd_one (let ae := (pd_tup (pda_cons (pdv 7) (pda_cons (pdv 8) pda_nil))); psd_app (i := 6) rfl (by first | exact .inl rfl | exact .inr (.inl rfl)) ae (pe_bm PySem.F.plainAttrs_list PySem.F.slot_list_append PySem.F.type_list_append mt_append (pv 6) (pa_cons ae.run pa_nil))))) pbd_nil)))))
      (pbd_cons (psd_set (i := 9) sc_fence_of.nd rfl (by first | exact .inl rfl | exact .inr rfl) pd_int)
      (pbd_cons (psd_while PassesOwn.never (pdt_cmp op_lt r2_B (pdv 9) (pd_lenO (x := "len") (by rfl) (f_len T) (pv 6)))
      (pbd_cons (psd_asg (pd_ixO (pv 6) (pdv 9)) (pgd_tupK (K := K) (n := 2) rfl rfl (pgds_cons (pgd_name (i := 7) sc_fence_of.nd rfl (by first | exact .inl rfl | exact .inr rfl)) (pgds_cons (pgd_name (i := 8) sc_fence_of.nd rfl (by first | exact .inl rfl | exact .inr rfl)) pgds_nil))))
      (pbd_cons (psd_set (i := 9) sc_fence_of.nd rfl (by first | exact .inl rfl | exact .inr rfl) (pd_op op_add r2_I (pdv 9) pd_int))
      (pbd_cut (psd_if (pdw_or (pdt_cmp (op_eqA hr.units) r2_eq (pdv 8) pd_int) (pdw_or1 (pdw_and (pdt_cmp (op_eqA hr.units) r2_eq (pdv 7) (pd_fldK (K := K) rfl (pdv 0) (c_Cells T) (n_Cells_wide T))) (pdw_and1 (pdt_not (pdt_val (pdv 3))))).t)).t (pbd_one (psd_frz 5 (psd_ret (pd_call (k_told_way T) (hr.mono (by decide)) (by rfl) (pda_cons (pdv 0) (pda_cons (pdv 5) (pda_cons (pd_tup (pda_cons (pdv 7) (pda_cons (pdv 8) pda_nil))) pda_nil))))))) pbd_nil)
      (pbd_one (psd_for PassesOwn.never rfl (pid_list (pd_sh (pl_cat (let oe := (pdv 4); let ae := (pda_cons (pdv 7) (pda_cons (pdv 8) pda_nil)); pd_meth oe (k_Barrier_steps T) (hr.mono (by decide)) ae (fun f fd cl h1 h2 h3 => pe_meth oe.run cl h1 h2 (hr.mono (by decide)) h3 .nil pass0 ae.run)) (let oe := (pdv 4); let ae := (pda_cons (pdv 7) (pda_cons (pdv 8) pda_nil)); pd_meth oe (k_Barrier_steps_back T) (hr.mono (by decide)) ae (fun f fd cl h1 h2 h3 => pe_meth oe.run cl h1 h2 (hr.mono (by decide)) h3 .nil pass0 ae.run))))) (pgd_tupK (K := K) (n := 3) rfl rfl (pgds_cons (pgd_name (i := 10) sc_fence_of.nd rfl (by first | exact .inl rfl | exact .inr rfl)) (pgds_cons (pgd_name (i := 11) sc_fence_of.nd rfl (by first | exact .inl rfl | exact .inr rfl)) (pgds_cons (pgd_name (i := 12) sc_fence_of.nd rfl (by first | exact .inl rfl | exact .inr rfl)) pgds_nil))))
      (pbd_one (psd_if (pdt_dninO (hu_of hr) (pd_tup (pda_cons (pdv 10) (pda_cons (pdv 11) pda_nil))) (pv 5)) (pbd_cons (psd_put (i := 5) (hu_of hr) (pv 5) (pd_tup (pda_cons (pdv 10) (pda_cons (pdv 11) pda_nil))) (pd_tup (pda_cons (pd_tup (pda_cons (pdv 7) (pda_cons (pdv 8) pda_nil))) (pda_cons (pdv 12) pda_nil))))
      (pbd_one (let ae := (pd_tup (pda_cons (pdv 10) (pda_cons (pdv 11) pda_nil))); psd_app (i := 6) rfl (by first | exact .inl rfl | exact .inr (.inl rfl)) ae (pe_bm PySem.F.plainAttrs_list PySem.F.slot_list_append PySem.F.type_list_append mt_append (pv 6) (pa_cons ae.run pa_nil))))) pbd_nil))))))))
      (pbd_one (psd_ret pd_non)))))))), ?_⟩)
  rintro ds k ⟨one, other, s, also, part, rfl, z1, z2, zs, hk⟩
  have stlz1 := stl_len z1
  have stlz2 := stl_len z2
  have ew1 : (stl one).length = wd one + 1 := by unfold wd; omega
  have ew2 : (stl other).length = wd other + 1 := by unfold wd; omega
  have fw : (((stl one).length : Int) - 1) = (wd one : Int) := by omega
  have fh : (((stl other).length : Int) - 1) = (wd other : Int) := by omega
  refine ⟨_, rfl, _, rfl, _, rfl, one, other, s, also, rfl, Nat.zero_le _, ?_⟩
  refine ⟨_, rfl, _, _, _, rfl, rfl, _, _, rfl, rfl, _, rfl, by omega, fun m ρ => ∃ ks vs a b c d e f, ρ = fEnv K one other s also part ks vs [a, b, c, d, e, f] ∧ CameOk (wd one) (wd other) ks vs ∧ ∀ a b : Nat, [(a : Int), (b : Int)] ∈ ks → a < m, ⟨[], [], _, _, _, _, _, _, rfl, CameOk.nil, fun a b h => by cases h⟩, ?_, ?_⟩
  · rintro m d ρ hm ⟨ks, vs, a, b, c, d', e, f, rfl, hc, hlt⟩
    obtain ⟨h3, rfl⟩ := rng0_get hm
    rw [fw] at h3
    have h3' : m ≤ wd one := by omega
    refine ⟨_, rfl, _, _, _, rfl, rfl, _, _, rfl, rfl, _, rfl, by omega, fun n ρ => ∃ ks vs b c d e f, ρ = fEnv K one other s also part ks vs [some (.sh (.int (m : Int))), b, c, d, e, f] ∧ CameOk (wd one) (wd other) ks vs ∧ ∀ a b : Nat, [(a : Int), (b : Int)] ∈ ks → a < m ∨ (a = m ∧ b < n), ⟨ks, vs, _, _, _, _, _, rfl, hc, fun a b h => .inl (hlt a b h)⟩, ?_, ?_⟩
    · rintro n d ρ hn ⟨ks, vs, b, c, d', e, f, rfl, hc, hlt⟩
      obtain ⟨h4, rfl⟩ := rng0_get hn
      rw [fh] at h4
      have h4' : n ≤ wd other := by omega
      have hni : ¬ [(m : Int), (n : Int)] ∈ ks := fun h => by rcases hlt m n h with h | ⟨_, h⟩ <;> omega
      have hnk : ¬ (getK ks vs [(m : Int), (n : Int)]).isSome = true := fun h => hni ((getK_not hc.2.1).mp h)
      have hlen := nodup_len hc.1 hc.2.2.1
      have hlen2 : (wd one + 1) * (wd other + 1) ≤ 20 * 20 := Nat.mul_le_mul (by omega) (by omega)
      have hlt2 : ∀ a b : Nat, [(a : Int), (b : Int)] ∈ ks ++ [[(m : Int), (n : Int)]] → a < m ∨ (a = m ∧ b < n + 1) := fun a b h => by
        rcases List.mem_append.mp h with h | h
        · rcases hlt a b h with h | ⟨h, _⟩ <;> omega
        · have := List.mem_singleton.mp h
          simp at this
          omega
      have hno : ∃ ks' vs' b' c' d0 e' f', fEnv K one other s also part ks vs [some (.sh (.int (m : Int))), some (.sh (.int (n : Int))), c, d', e, f] = fEnv K one other s also part ks' vs' [some (.sh (.int (m : Int))), b', c', d0, e', f'] ∧ CameOk (wd one) (wd other) ks' vs' ∧ ∀ a b : Nat, [(a : Int), (b : Int)] ∈ ks' → a < m ∨ (a = m ∧ b < n + 1) :=
        ⟨ks, vs, _, _, _, _, _, rfl, hc, fun a b h => by rcases hlt a b h with h | ⟨h, _⟩ <;> omega⟩
      refine ⟨_, rfl, _, rfl, _, _, _, rfl, rfl, _, rfl, _, rfl, ?_⟩
      refine ite2 (fun h1 => ?_) (fun h1 => ?_)
      · refine iteT ?_
        refine ⟨_, rfl, _, _, rfl, by decide +kernel, _, rfl, _, rfl, one, other, s, also, m, n, rfl, z1, z2, zs, h3', h4', fun b => ⟨_, rfl, ?_⟩⟩
        refine ite2 (fun hb => ?_) (fun hb => ?_)
        · refine ⟨_, _, rfl, by omega, Nat.zero_le _, tl2, _, rfl, _, rfl, tl2, _, isKey2 _ _, ?_⟩
          rw [putKs_new hnk, putVs_new hnk]
          refine ⟨_, rfl, by rw [List.length_map]; omega, _, rfl, _, rfl, tl2, ?_⟩
          exact ⟨ks ++ [[(m : Int), (n : Int)]], vs ++ [.tup [.non, .lst []]], _, _, _, _, _, (by unfold fEnv; rw [← snoc_kD]; rfl), hc.snoc h3' h4' hni (fun x h => by cases h) (Nat.zero_le _) (.inl rfl), hlt2⟩
        · try rw [ofNot hb]
          first | exact iteF hno | exact hno
      · refine ⟨_, rfl, _, rfl, _, rfl, ?_⟩
        refine ite2 (fun h2 => ?_) (fun h2 => ?_)
        · refine ⟨_, rfl, _, rfl, ?_⟩
          cases part with
          | true => exact iteF (iteF hno)
          | false =>
            refine iteT ?_
            refine ⟨_, rfl, _, _, rfl, by decide +kernel, _, rfl, _, rfl, one, other, s, also, m, n, rfl, z1, z2, zs, h3', h4', fun b => ⟨_, rfl, ?_⟩⟩
            refine ite2 (fun hb => ?_) (fun hb => ?_)
            · refine ⟨_, _, rfl, by omega, Nat.zero_le _, tl2, _, rfl, _, rfl, tl2, _, isKey2 _ _, ?_⟩
              rw [putKs_new hnk, putVs_new hnk]
              refine ⟨_, rfl, by rw [List.length_map]; omega, _, rfl, _, rfl, tl2, ?_⟩
              exact ⟨ks ++ [[(m : Int), (n : Int)]], vs ++ [.tup [.non, .lst []]], _, _, _, _, _, (by unfold fEnv; rw [← snoc_kD]; rfl), hc.snoc h3' h4' hni (fun x h => by cases h) (Nat.zero_le _) (.inl rfl), hlt2⟩
            · try rw [ofNot hb]
              first | exact iteF hno | exact hno
        · exact iteF (iteF hno)
    · rintro ρ ⟨ks, vs, b, c, d, e, f, rfl, hc, hlt⟩
      rw [rng_len, fh] at hlt
      refine ⟨ks, vs, _, _, _, _, _, _, rfl, hc, fun a b h => ?_⟩
      rcases hlt a b h with h | ⟨h, _⟩ <;> omega
  · rintro ρ ⟨ks, vs, a, b, c, d, e, f, rfl, hc, _⟩
    refine ⟨fun m ρ => ∃ (ks : List (List Int)) (vs : List Dat) (at_ : Nat) (i j a b t : _), ρ = fEnv K one other s also part ks vs [i, j, some (.sh (.int (at_ : Int))), a, b, t] ∧ CameOk (wd one) (wd other) ks vs ∧ at_ ≤ ks.length ∧ m = 1000 - at_, ⟨_, ks, vs, 0, _, _, _, _, _, rfl, hc, Nat.zero_le _, rfl⟩, ?_⟩
    rintro m ρ ⟨ks, vs, at_, i, j, a, b, t, rfl, hc, hat, rfl⟩
    have hlen := nodup_len hc.1 hc.2.2.1
    have hlen2 : (wd one + 1) * (wd other + 1) ≤ 20 * 20 := Nat.mul_le_mul (by omega) (by omega)
    refine ⟨_, rfl, _, rfl, _, _, rfl, rfl, _, rfl, ?_⟩
    refine ite2 (fun h1 => ?_) (fun h1 => hk _)
    have h1' : (at_ : Int) < ((ks.map kD).length : Int) := by simpa using h1
    rw [List.length_map] at h1'
    have h2 : at_ < ks.length := by omega
    obtain ⟨kk, hkk⟩ : ∃ kk, ks[at_]? = some kk := ⟨_, List.getElem?_eq_getElem h2⟩
    obtain ⟨p, q, rfl, hp, hq⟩ := hc.2.2.1 kk (List.mem_of_getElem? hkk)
    refine ⟨_, rfl, _, rfl, _, _, rfl, atm hkk, _, rfl, rfl, _, _, rfl, _, _, rfl, rfl, ?_⟩
    refine ⟨_, rfl, _, _, rfl, rfl, ?_⟩
    refine ⟨fun ρ => ρ = fEnv K one other s also part ks vs [some (.sh (.int (p : Int))), some (.sh (.int (q : Int))), some (.sh (.int ((at_ : Int) + 1))), a, b, t], ?_, ?_⟩
    · refine ⟨_, rfl, _, rfl, _, rfl, ?_⟩
      refine ite2 (fun h3 => ?_) (fun h3 => ?_)
      · exact iteT (.inr ⟨_, _, rfl, _, rfl, _, rfl, _, rfl, _, rfl, tl2, one, other, ks, vs, at_, _, rfl, z1, z2, hc, hkk, by omega, fun xs => hk _⟩)
      · refine ⟨_, rfl, _, rfl, _, _, _, rfl, rfl, _, rfl, _, rfl, ?_⟩
        refine ite2 (fun h4 => ?_) (fun h4 => ?_)
        · refine ⟨_, rfl, _, rfl, ?_⟩
          cases part with
          | true => exact iteF rfl
          | false => exact iteT (.inr ⟨_, _, rfl, _, rfl, _, rfl, _, rfl, _, rfl, tl2, one, other, ks, vs, at_, _, rfl, z1, z2, hc, hkk, by omega, fun xs => hk _⟩)
        · exact iteF rfl
    · rintro ρ rfl
      refine ⟨_, rfl, _, _, rfl, by decide +kernel, _, rfl, _, rfl, one, other, s, also, p, q, rfl, z1, z2, zs, hp, hq, fun xs hl hx => ?_⟩
      refine ⟨_, rfl, _, _, rfl, by decide +kernel, _, rfl, _, rfl, one, other, s, also, p, q, rfl, z1, z2, zs, hp, hq, fun ys hl2 hy => ?_⟩
      refine ⟨_, _, rfl, rfl, by omega, _, rfl, ?_⟩
      refine ⟨fun n ρ => ∃ (ks : List (List Int)) (vs : List Dat) (a b t : _), ρ = fEnv K one other s also part ks vs [some (.sh (.int (p : Int))), some (.sh (.int (q : Int))), some (.sh (.int ((at_ : Int) + 1))), a, b, t] ∧ CameOk (wd one) (wd other) ks vs ∧ ks[at_]? = some [(p : Int), (q : Int)], ⟨ks, vs, a, b, t, rfl, hc, hkk⟩, ?_, ?_⟩
      · rintro n d ρ hn ⟨ks, vs, a, b, t, rfl, hc, hkk⟩
        obtain ⟨u, v, zs', rfl, hu, hv, hz1, hz2⟩ : isSt (wd one) (wd other) d := (List.mem_append.mp (List.mem_of_getElem? hn)).elim (hx d) (hy d)
        have hlen := nodup_len hc.1 hc.2.2.1
        refine ⟨_, rfl, rfl, _, _, rfl, _, _, rfl, _, _, rfl, rfl, ?_⟩
        refine ⟨_, rfl, _, rfl, tl2, _, _, _, isKey2 _ _, rfl, _, rfl, ?_⟩
        by_cases hin : (getK ks vs [(u : Int), (v : Int)]).isSome = true
        · rw [hin]
          exact iteF ⟨ks, vs, _, _, _, rfl, hc, hkk⟩
        · rw [ofNot hin]
          have hni : ¬ [(u : Int), (v : Int)] ∈ ks := fun h => hin ((getK_not hc.2.1).mpr h)
          refine iteT ⟨_, _, rfl, by omega, _, rfl, _, rfl, tl2, _, rfl, tl2, _, rfl, _, rfl, tl2, _, isKey2 _ _, ?_⟩
          rw [putKs_new hin, putVs_new hin]
          refine ⟨_, rfl, by rw [List.length_map]; omega, _, rfl, _, rfl, tl2, ?_⟩
          exact ⟨ks ++ [[(u : Int), (v : Int)]], vs ++ [.tup [.tup [.int p, .int q], .lst zs']], _, _, _, (by unfold fEnv; rw [← snoc_kD]; rfl), hc.snoc hu hv hni hz1 hz2 (.inr ⟨at_, _, hkk, rfl⟩), by rw [List.getElem?_append_left (List.getElem?_eq_some_iff.mp hkk).1]; exact hkk⟩
      · rintro ρ ⟨ks, vs, a, b, t, rfl, hc, hkk⟩
        have h5 := (List.getElem?_eq_some_iff.mp hkk).1
        exact ⟨1000 - (at_ + 1), by omega, ks, vs, at_ + 1, _, _, _, _, _, rfl, hc, by omega, rfl⟩
end
end G
namespace G
open PySem PySem.Spec PyProof.Rows L2 DL M
section
variable {P : Program} {w : World} {K : PySem.W.Frag} {mg : Str → Option Value} {base : Heap}
def goD (b : Bool) (d : Dat) : Dat := .tup [.str (if b = true then "walk" else "fence"), d]
def t_on_walk : Tr := fun ds k => ∃ (one other : List Pt) (s : Rat), ds = [ln one, ln other, fr s] ∧ Lz one ∧ Lz other ∧ Fz 4000 s ∧ (onOk (tS s) (stl one) (stl other) = false → k .non) ∧ (onOk (tS s) (stl one) (stl other) = true → ∀ xs, k (.lst xs))
theorem len_on_walk : ∀ ds k, t_on_walk ds k → ds.length = 3 := by
  rintro ds k ⟨_, _, _, rfl, _⟩
  rfl
abbrev nm_on_walk : List Str := ["one", "other", "square"]
theorem sc_on_walk : FnScope nm_on_walk ["one", "other", "square"] (defScope s_on_walk) := ⟨rfl, rfl, rfl, by decide +kernel, rfl, by decide +kernel, by decide +kernel⟩
theorem k_on_walk (T : Txt K mg) : Kept P w K mg base "on_walk" ["one", "other", "square"] [] 13 t_on_walk := by
  obtain ⟨fd, F⟩ := T.says.def_ 68 (d := d_on_walk) rfl
  refine kept_of (N := nm_on_walk) (body := defBody s_on_walk) (scope := defScope s_on_walk) (params := defArgs s_on_walk) F (g_on_walk T) sc_on_walk len_on_walk (fun _ _ _ _ _ _ us hl => match us, hl with | [_, _, _], _ => rfl) (fun cdv A outer s H E hr => ⟨_, _,
      (pbd_one (psd_ret (pd_call (k_walk_on T) (hr.mono (by decide)) (by rfl) (pda_cons (pd_make (mk_Cells T) (hr.mono (by decide)) (by rfl) (pda_cons (pdv 0) (pda_cons (pdv 1) pda_nil))) (pda_cons (pdv 2) pda_nil))))), ?_⟩)
  rintro ds k ⟨one, other, s, rfl, z1, z2, zs, h0, h1⟩
  exact ⟨_, rfl, _, rfl, one, other, rfl, z1, z2, _, rfl, one, other, s, rfl, z1, z2, zs, h0, h1⟩
def t_on_fence : Tr := fun ds k => ∃ (one other : List Pt) (s : Rat) (also : Bool), ds = [ln one, ln other, fr s, .bl also] ∧ Lz one ∧ Lz other ∧ Fz 4000 s ∧ ∀ d, k d
theorem len_on_fence : ∀ ds k, t_on_fence ds k → ds.length = 4 := by
  rintro ds k ⟨_, _, _, _, rfl, _⟩
  rfl
abbrev nm_on_fence : List Str := ["one", "other", "square", "also"]
theorem sc_on_fence : FnScope nm_on_fence ["one", "other", "square", "also"] (defScope s_on_fence) := ⟨rfl, rfl, rfl, by decide +kernel, rfl, by decide +kernel, by decide +kernel⟩
theorem k_on_fence (T : Txt K mg) : Kept P w K mg base "on_fence" ["one", "other", "square", "also"] [] 8 t_on_fence := by
  obtain ⟨fd, F⟩ := T.says.def_ 69 (d := d_on_fence) rfl
  refine kept_of (N := nm_on_fence) (body := defBody s_on_fence) (scope := defScope s_on_fence) (params := defArgs s_on_fence) F (g_on_fence T) sc_on_fence len_on_fence (fun _ _ _ _ _ _ us hl => match us, hl with | [_, _, _, _], _ => rfl) (fun cdv A outer s H E hr => ⟨_, _,
      (pbd_one (psd_ret (pd_call (k_fence_of T) (hr.mono (by decide)) (by rfl) (pda_cons (pd_make (mk_Cells T) (hr.mono (by decide)) (by rfl) (pda_cons (pdv 0) (pda_cons (pdv 1) pda_nil))) (pda_cons (pdv 2) (pda_cons (pdv 3) (pda_cons pd_bl pda_nil))))))), ?_⟩)
  rintro ds k ⟨one, other, s, also, rfl, z1, z2, zs, hk⟩
  exact ⟨_, rfl, _, rfl, one, other, rfl, z1, z2, _, rfl, _, rfl, one, other, s, also, false, rfl, z1, z2, zs, hk⟩
def t_part_walk : Tr := fun ds k => ∃ (one other : List Pt) (s : Rat), ds = [ln one, ln other, fr s] ∧ Lz one ∧ Lz other ∧ Fz 4000 s ∧ (partOk (tS s) (stl one) (stl other) = false → k .non) ∧ (partOk (tS s) (stl one) (stl other) = true → ∀ xs, k (.lst xs))
theorem len_part_walk : ∀ ds k, t_part_walk ds k → ds.length = 3 := by
  rintro ds k ⟨_, _, _, rfl, _⟩
  rfl
abbrev nm_part_walk : List Str := ["one", "other", "square"]
theorem sc_part_walk : FnScope nm_part_walk ["one", "other", "square"] (defScope s_part_walk) := ⟨rfl, rfl, rfl, by decide +kernel, rfl, by decide +kernel, by decide +kernel⟩
theorem k_part_walk (T : Txt K mg) : Kept P w K mg base "part_walk" ["one", "other", "square"] [] 13 t_part_walk := by
  obtain ⟨fd, F⟩ := T.says.def_ 70 (d := d_part_walk) rfl
  refine kept_of (N := nm_part_walk) (body := defBody s_part_walk) (scope := defScope s_part_walk) (params := defArgs s_part_walk) F (g_part_walk T) sc_part_walk len_part_walk (fun _ _ _ _ _ _ us hl => match us, hl with | [_, _, _], _ => rfl) (fun cdv A outer s H E hr => ⟨_, _,
      (pbd_one (psd_ret (pd_call (k_walk_part T) (hr.mono (by decide)) (by rfl) (pda_cons (pd_make (mk_Cells T) (hr.mono (by decide)) (by rfl) (pda_cons (pdv 0) (pda_cons (pdv 1) pda_nil))) (pda_cons (pdv 2) pda_nil))))), ?_⟩)
  rintro ds k ⟨one, other, s, rfl, z1, z2, zs, h0, h1⟩
  exact ⟨_, rfl, _, rfl, one, other, rfl, z1, z2, _, rfl, one, other, s, rfl, z1, z2, zs, h0, h1⟩
def t_part_fence : Tr := fun ds k => ∃ (one other : List Pt) (s : Rat) (also : Bool), ds = [ln one, ln other, fr s, .bl also] ∧ Lz one ∧ Lz other ∧ Fz 4000 s ∧ ∀ d, k d
theorem len_part_fence : ∀ ds k, t_part_fence ds k → ds.length = 4 := by
  rintro ds k ⟨_, _, _, _, rfl, _⟩
  rfl
abbrev nm_part_fence : List Str := ["one", "other", "square", "also"]
theorem sc_part_fence : FnScope nm_part_fence ["one", "other", "square", "also"] (defScope s_part_fence) := ⟨rfl, rfl, rfl, by decide +kernel, rfl, by decide +kernel, by decide +kernel⟩
theorem k_part_fence (T : Txt K mg) : Kept P w K mg base "part_fence" ["one", "other", "square", "also"] [] 8 t_part_fence := by
  obtain ⟨fd, F⟩ := T.says.def_ 71 (d := d_part_fence) rfl
  refine kept_of (N := nm_part_fence) (body := defBody s_part_fence) (scope := defScope s_part_fence) (params := defArgs s_part_fence) F (g_part_fence T) sc_part_fence len_part_fence (fun _ _ _ _ _ _ us hl => match us, hl with | [_, _, _, _], _ => rfl) (fun cdv A outer s H E hr => ⟨_, _,
      (pbd_one (psd_ret (pd_call (k_fence_of T) (hr.mono (by decide)) (by rfl) (pda_cons (pd_make (mk_Cells T) (hr.mono (by decide)) (by rfl) (pda_cons (pdv 0) (pda_cons (pdv 1) pda_nil))) (pda_cons (pdv 2) (pda_cons (pdv 3) (pda_cons pd_bl pda_nil))))))), ?_⟩)
  rintro ds k ⟨one, other, s, also, rfl, z1, z2, zs, hk⟩
  exact ⟨_, rfl, _, rfl, one, other, rfl, z1, z2, _, rfl, _, rfl, one, other, s, also, true, rfl, z1, z2, zs, hk⟩
def t_go_on : Tr := fun ds k => ∃ (one other : List Pt) (s : Rat), ds = [ln one, ln other, fr s] ∧ Lz one ∧ Lz other ∧ Fz 4000 s ∧ 0 ≤ s ∧ ∀ d, k (goD (onOk (tS s) (stl one) (stl other)) d)
theorem len_go_on : ∀ ds k, t_go_on ds k → ds.length = 3 := by
  rintro ds k ⟨_, _, _, rfl, _⟩
  rfl
abbrev nm_go_on : List Str := ["one", "other", "square", "walk"]
theorem sc_go_on : FnScope nm_go_on ["one", "other", "square"] (defScope s_go_on) := ⟨rfl, rfl, rfl, by decide +kernel, rfl, by decide +kernel, by decide +kernel⟩
theorem k_go_on (T : Txt K mg) : Kept P w K mg base "go_on" ["one", "other", "square"] [] 14 t_go_on := by
  obtain ⟨fd, F⟩ := T.says.def_ 72 (d := d_go_on) rfl
  refine kept_of (N := nm_go_on) (body := defBody s_go_on) (scope := defScope s_go_on) (params := defArgs s_go_on) F (g_go_on T) sc_go_on len_go_on (fun _ _ _ _ _ _ us hl => match us, hl with | [_, _, _], _ => rfl) (fun cdv A outer s H E hr => ⟨_, _,
      (pbd_cons (psd_expr (pd_call (k_look_at_square T) (hr.mono (by decide)) (by rfl) (pda_cons (pdv 2) pda_nil)))
      (pbd_cons (psd_set (i := 3) sc_go_on.nd rfl (by first | exact .inl rfl | exact .inr rfl) (pd_call (k_on_walk T) (hr.mono (by decide)) (by rfl) (pda_cons (pdv 0) (pda_cons (pdv 1) (pda_cons (pdv 2) pda_nil)))))
      (pbd_cons (psd_if (pdt_cmp op_notN r2_notN (pdv 3) pd_non) (pbd_one (psd_ret (pd_tup (pda_cons pd_str (pda_cons (pdv 3) pda_nil))))) pbd_nil)
      (pbd_one (psd_ret (pd_tup (pda_cons pd_str (pda_cons (pd_call (k_on_fence T) (hr.mono (by decide)) (by rfl) (pda_cons (pdv 0) (pda_cons (pdv 1) (pda_cons (pdv 2) (pda_cons pd_bl pda_nil))))) pda_nil)))))))), ?_⟩)
  rintro ds k ⟨one, other, s, rfl, z1, z2, zs, s0, hk⟩
  refine ⟨_, rfl, s, rfl, s0, _, rfl, _, rfl, _, rfl, one, other, s, rfl, z1, z2, zs, fun h => ?_, fun h xs => ?_⟩
  · rw [h] at hk
    refine ⟨_, rfl, rfl, _, rfl, iteF ?_⟩
    refine ⟨_, rfl, _, rfl, _, rfl, one, other, s, false, rfl, z1, z2, zs, fun d => ⟨tl2, hk d⟩⟩
  · rw [h] at hk
    refine ⟨_, rfl, rfl, _, rfl, iteT ?_⟩
    exact ⟨_, rfl, tl2, hk _⟩
def t_go_part : Tr := fun ds k => ∃ (one other : List Pt) (s : Rat), ds = [ln one, ln other, fr s] ∧ Lz one ∧ Lz other ∧ Fz 4000 s ∧ 0 ≤ s ∧ ∀ d, k (goD (partOk (tS s) (stl one) (stl other)) d)
theorem len_go_part : ∀ ds k, t_go_part ds k → ds.length = 3 := by
  rintro ds k ⟨_, _, _, rfl, _⟩
  rfl
abbrev nm_go_part : List Str := ["one", "other", "square", "walk"]
theorem sc_go_part : FnScope nm_go_part ["one", "other", "square"] (defScope s_go_part) := ⟨rfl, rfl, rfl, by decide +kernel, rfl, by decide +kernel, by decide +kernel⟩
theorem k_go_part (T : Txt K mg) : Kept P w K mg base "go_part" ["one", "other", "square"] [] 14 t_go_part := by
  obtain ⟨fd, F⟩ := T.says.def_ 73 (d := d_go_part) rfl
  refine kept_of (N := nm_go_part) (body := defBody s_go_part) (scope := defScope s_go_part) (params := defArgs s_go_part) F (g_go_part T) sc_go_part len_go_part (fun _ _ _ _ _ _ us hl => match us, hl with | [_, _, _], _ => rfl) (fun cdv A outer s H E hr => ⟨_, _,
      (pbd_cons (psd_expr (pd_call (k_look_at_square T) (hr.mono (by decide)) (by rfl) (pda_cons (pdv 2) pda_nil)))
      (pbd_cons (psd_set (i := 3) sc_go_part.nd rfl (by first | exact .inl rfl | exact .inr rfl) (pd_call (k_part_walk T) (hr.mono (by decide)) (by rfl) (pda_cons (pdv 0) (pda_cons (pdv 1) (pda_cons (pdv 2) pda_nil)))))
      (pbd_cons (psd_if (pdt_cmp op_notN r2_notN (pdv 3) pd_non) (pbd_one (psd_ret (pd_tup (pda_cons pd_str (pda_cons (pdv 3) pda_nil))))) pbd_nil)
      (pbd_one (psd_ret (pd_tup (pda_cons pd_str (pda_cons (pd_call (k_part_fence T) (hr.mono (by decide)) (by rfl) (pda_cons (pdv 0) (pda_cons (pdv 1) (pda_cons (pdv 2) (pda_cons pd_bl pda_nil))))) pda_nil)))))))), ?_⟩)
  rintro ds k ⟨one, other, s, rfl, z1, z2, zs, s0, hk⟩
  refine ⟨_, rfl, s, rfl, s0, _, rfl, _, rfl, _, rfl, one, other, s, rfl, z1, z2, zs, fun h => ?_, fun h xs => ?_⟩
  · rw [h] at hk
    refine ⟨_, rfl, rfl, _, rfl, iteF ?_⟩
    refine ⟨_, rfl, _, rfl, _, rfl, one, other, s, false, rfl, z1, z2, zs, fun d => ⟨tl2, hk d⟩⟩
  · rw [h] at hk
    refine ⟨_, rfl, rfl, _, rfl, iteT ?_⟩
    exact ⟨_, rfl, tl2, hk _⟩
end
end G
/-! Places on lines: sizes, the point at a place. -/
namespace M
theorem den2 (a b : Rat) : (a.den : Int) * (b.den : Int) ≠ 0 := Int.mul_ne_zero (Int.ne_of_gt (den_pos a)) (Int.ne_of_gt (den_pos b))
theorem Fz.add {n m : Nat} {a b : Rat} (ha : Fz n a) (hb : Fz m b) : Fz (n + m + 1) (a + b) := by
  have e : a + b = Rat.divInt (a.num * b.den + b.num * a.den) (a.den * b.den) := by rw [Rat.add_def', ← Rat.divInt_ofNat, Int.natCast_mul]
  rw [e]
  have h := hb.1.mul ha.2
  rw [Nat.add_comm m n] at h
  exact Fz.divInt ((ha.1.mul hb.2).add h) ((ha.2.mul hb.2).mono (Nat.le_succ _)) (den2 a b) (Nat.succ_pos _)
theorem Fz.sub {n m : Nat} {a b : Rat} (ha : Fz n a) (hb : Fz m b) : Fz (n + m + 1) (a - b) := by
  have e : a - b = Rat.divInt (a.num * b.den - b.num * a.den) (a.den * b.den) := by rw [Rat.sub_def', ← Rat.divInt_ofNat, Int.natCast_mul]
  rw [e]
  have h := hb.1.mul ha.2
  rw [Nat.add_comm m n] at h
  exact Fz.divInt ((ha.1.mul hb.2).sub h) ((ha.2.mul hb.2).mono (Nat.le_succ _)) (den2 a b) (Nat.succ_pos _)
theorem Fz.mul {n m : Nat} {a b : Rat} (ha : Fz n a) (hb : Fz m b) : Fz (n + m + 1) (a * b) := by
  have e : a * b = Rat.divInt (a.num * b.num) (a.den * b.den) := by rw [Rat.mul_def', ← Rat.divInt_ofNat, Int.natCast_mul]
  rw [e]
  exact Fz.divInt ((ha.1.mul hb.1).mono (Nat.le_succ _)) ((ha.2.mul hb.2).mono (Nat.le_succ _)) (den2 a b) (Nat.succ_pos _)
theorem Fz.div {n m : Nat} {a b : Rat} (ha : Fz n a) (hb : Fz m b) (h0 : b ≠ 0) : Fz (n + m + 1) (a / b) := by
  have e : a / b = Rat.divInt (a.num * b.den) (a.den * b.num) := by rw [Rat.div_def, Rat.inv_def, ← Rat.num_divInt_den a, Rat.divInt_mul_divInt, Rat.num_divInt_den]
  rw [e]
  exact Fz.divInt ((ha.1.mul hb.2).mono (Nat.le_succ _)) ((ha.2.mul hb.1).mono (Nat.le_succ _)) (Int.mul_ne_zero (Int.ne_of_gt (den_pos a)) (fun z => h0 (Rat.num_eq_zero.mp z))) (Nat.succ_pos _)
/-- the point at a place -/
def ef (l : List Pt) (q : Rat) : Pt × Pt := (gp l q.floor.toNat, gp l (min (q.floor.toNat + 1) (l.length - 1)))
def poi (l : List Pt) (q : Rat) : Rat × Rat := (((ef l q).1.1 : Rat) + (q - (q.floor : Rat)) * (((ef l q).2.1 - (ef l q).1.1 : Int) : Rat), ((ef l q).1.2 : Rat) + (q - (q.floor : Rat)) * (((ef l q).2.2 - (ef l q).1.2 : Int) : Rat))
def sqb (p q : Rat × Rat) : Rat := (p.1 - q.1) * (p.1 - q.1) + (p.2 - q.2) * (p.2 - q.2)
theorem floor_int (i : Int) : ((i : Int) : Rat).floor = i := by
  rw [Rat.floor_intCast]
theorem poi_int (l : List Pt) (i : Nat) : poi l ((i : Int) : Rat) = (((gp l i).1 : Rat), ((gp l i).2 : Rat)) := by
  unfold poi ef
  rw [floor_int, Int.toNat_natCast]
  simp only [Prod.mk.injEq]
  constructor <;> grind
theorem sqb_ap (p q : Pt) : sqb (((p.1 : Int) : Rat), ((p.2 : Int) : Rat)) (((q.1 : Int) : Rat), ((q.2 : Int) : Rat)) = ap p q := by
  unfold sqb ap
  simp only [Rat.intCast_add, Rat.intCast_mul, Rat.intCast_sub]
theorem sqb_self (p : Rat × Rat) : sqb p p = 0 := by
  unfold sqb
  grind
end M
namespace G
open PySem PySem.Spec PyProof.Rows L2 DL M
section
variable {P : Program} {w : World} {K : PySem.W.Frag} {mg : Str → Option Value} {base : Heap}
def PlQ (l : List Pt) (q : Rat) : Prop := 0 ≤ q ∧ q ≤ (((l.length : Int) - 1 : Int) : Rat)
theorem le_num {q : Rat} {m : Int} : q ≤ (m : Rat) ↔ q.num ≤ m * (q.den : Int) := by
  rw [Rat.le_iff]
  simp
theorem PlQ.floor {l : List Pt} {q : Rat} (h : PlQ l q) : ∃ n : Nat, q.floor = (n : Int) ∧ (n : Int) ≤ (l.length : Int) - 1 := by
  have h1 : 0 ≤ q.floor := Rat.le_floor_iff.mpr (by simpa using h.1)
  have h2 : q.floor ≤ (l.length : Int) - 1 := by
    have h3 : (q.floor : Rat) ≤ q := Rat.floor_le q
    exact Rat.intCast_le_intCast.mp (Rat.le_trans h3 h.2)
  exact ⟨q.floor.toNat, by omega, by omega⟩
def t_is_place : Tr := fun ds k => ∃ (l : List Pt) (q : Rat), ds = [ln l, fr q] ∧ Lz l ∧ PlQ l q ∧ Fz 4000 q ∧ k (.bl true)
theorem len_is_place : ∀ ds k, t_is_place ds k → ds.length = 2 := by
  rintro ds k ⟨_, _, rfl, _⟩
  rfl
abbrev nm_is_place : List Str := ["line", "thing"]
theorem sc_is_place : FnScope nm_is_place ["line", "thing"] (defScope s_is_place) := ⟨rfl, rfl, rfl, by decide +kernel, rfl, by decide +kernel, by decide +kernel⟩
theorem k_is_place (T : Txt K mg) : Kept P w K mg base "is_place" ["line", "thing"] [] 3 t_is_place := by
  obtain ⟨fd, F⟩ := T.says.def_ 22 (d := d_is_place) rfl
  refine kept_of (N := nm_is_place) (body := defBody s_is_place) (scope := defScope s_is_place) (params := defArgs s_is_place) F (g_is_place T) sc_is_place len_is_place (fun _ _ _ _ _ _ us hl => match us, hl with | [_, _], _ => rfl) (fun cdv A outer s H E hr => ⟨_, _,
      (pbd_one (psd_ret (pd_and (pd_call (k_is_ratio T) (hr.mono (by decide)) (by rfl) (pda_cons (pdv 1) pda_nil)) (pd_one (pd_chain op_le op_le r2_B r2_B pd_int (pd_ixK (K := K) rfl (pdv 1) pd_int) (pd_op op_mulW r2_Ic (pd_call (k_last_of T) (hr.mono (by decide)) (by rfl) (pda_cons (pdv 0) pda_nil)) (pd_ixK (K := K) rfl (pdv 1) pd_int))))))), ?_⟩)
  rintro ds k ⟨l, q, rfl, zl, hq, zq, hk⟩
  refine ⟨_, rfl, _, rfl, true, rfl, iteT ?_⟩
  refine ⟨_, rfl, _, _, _, rfl, rfl, rfl, _, _, rfl, rfl, _, rfl, ?_⟩
  have h1 : (0 : Int) ≤ q.num := Rat.num_nonneg.mpr hq.1
  have h2 : q.num ≤ ((l.length : Int) - 1) * (q.den : Int) := le_num.mp hq.2
  refine ite2 (fun _ => ?_) (fun h => absurd (decide_eq_true h1) h)
  have z20 := zl.2.1
  refine ⟨_, rfl, _, rfl, _, rfl, _, _, _, rfl, rfl, rfl, _, _, rfl, rfl, ?_, _, _, rfl, rfl, ?_⟩
  · exact mulok9 (szn (by rw [List.length_map]; omega) (by decide)) (zq.2.mono (by decide))
  · rw [List.length_map]
    show k (.bl (decide (q.num ≤ ((l.length : Int) - 1) * (q.den : Int))))
    rw [decide_eq_true h2]
    exact hk
def t_look_at_place : Tr := fun ds k => ∃ (l : List Pt) (q : Rat), ds = [ln l, fr q] ∧ Lz l ∧ PlQ l q ∧ Fz 4000 q ∧ k .non
theorem len_look_at_place : ∀ ds k, t_look_at_place ds k → ds.length = 2 := by
  rintro ds k ⟨_, _, rfl, _⟩
  rfl
abbrev nm_look_at_place : List Str := ["line", "thing"]
theorem sc_look_at_place : FnScope nm_look_at_place ["line", "thing"] (defScope s_look_at_place) := ⟨rfl, rfl, rfl, by decide +kernel, rfl, by decide +kernel, by decide +kernel⟩
theorem k_look_at_place (T : Txt K mg) : Kept P w K mg base "look_at_place" ["line", "thing"] [] 4 t_look_at_place := by
  obtain ⟨fd, F⟩ := T.says.def_ 23 (d := d_look_at_place) rfl
  refine kept_of (N := nm_look_at_place) (body := defBody s_look_at_place) (scope := defScope s_look_at_place) (params := defArgs s_look_at_place) F (g_look_at_place T) sc_look_at_place len_look_at_place (fun _ _ _ _ _ _ us hl => match us, hl with | [_, _], _ => rfl) (fun cdv A outer s H E hr => ⟨_, _,
      (pbd_one (psd_if (pdt_not (pdt_val (pd_call (k_is_place T) (hr.mono (by decide)) (by rfl) (pda_cons (pdv 0) (pda_cons (pdv 1) pda_nil))))) (pbd_one psd_never) pbd_nil)), ?_⟩)
  rintro ds k ⟨l, q, rfl, zl, hq, zq, hk⟩
  refine ⟨_, rfl, _, rfl, l, q, rfl, zl, hq, zq, _, rfl, ?_⟩
  exact iteF hk
def t_ends_of : Tr := fun ds k => ∃ (l : List Pt) (n : Nat), ds = [ln l, .int n] ∧ n < l.length ∧ k (.tup [pt (gp l n), pt (gp l (min (n + 1) (l.length - 1)))])
theorem len_ends_of : ∀ ds k, t_ends_of ds k → ds.length = 2 := by
  rintro ds k ⟨_, _, rfl, _⟩
  rfl
abbrev nm_ends_of : List Str := ["line", "number"]
theorem sc_ends_of : FnScope nm_ends_of ["line", "number"] (defScope s_ends_of) := ⟨rfl, rfl, rfl, by decide +kernel, rfl, by decide +kernel, by decide +kernel⟩
theorem k_ends_of (T : Txt K mg) : Kept P w K mg base "ends_of" ["line", "number"] [] 2 t_ends_of := by
  obtain ⟨fd, F⟩ := T.says.def_ 24 (d := d_ends_of) rfl
  refine kept_of (N := nm_ends_of) (body := defBody s_ends_of) (scope := defScope s_ends_of) (params := defArgs s_ends_of) F (g_ends_of T) sc_ends_of len_ends_of (fun _ _ _ _ _ _ us hl => match us, hl with | [_, _], _ => rfl) (fun cdv A outer s H E hr => ⟨_, _,
      (pbd_one (psd_ret (pd_tup (pda_cons (pd_ixK (K := K) rfl (pdv 0) (pdv 1)) (pda_cons (pd_ixK (K := K) rfl (pdv 0) (pd_bi (call_min2 rfl) rc_min (by rfl) (f_min T) (by decide +kernel) (pda_cons (pd_op op_add r2_I (pdv 1) pd_int) (pda_cons (pd_call (k_last_of T) (hr.mono (by decide)) (by rfl) (pda_cons (pdv 0) pda_nil)) pda_nil)))) pda_nil))))), ?_⟩)
  rintro ds k ⟨l, n, rfl, hn, hk⟩
  have e : min ((n : Int) + 1) (((l.map pt).length : Int) - 1) = ((min (n + 1) (l.length - 1) : Nat) : Int) := by rw [List.length_map]; omega
  refine ⟨_, rfl, _, rfl, _, _, _, rfl, rfl, atm (gp_get hn), _, rfl, _, rfl, _, _, rfl, rfl, _, rfl, _, rfl, _, _, rfl, _, _, _, rfl, rfl, atm3 e (gp_get (by omega)), tl2, hk⟩
def t_point_at : Tr := fun ds k => ∃ (l : List Pt) (q : Rat), ds = [ln l, fr q] ∧ Lz l ∧ PlQ l q ∧ Fz 300 q ∧ k (.tup [fr (poi l q).1, fr (poi l q).2])
theorem len_point_at : ∀ ds k, t_point_at ds k → ds.length = 2 := by
  rintro ds k ⟨_, _, rfl, _⟩
  rfl
abbrev nm_point_at : List Str := ["line", "place", "number", "begin", "end", "part", "x"]
theorem sc_point_at : FnScope nm_point_at ["line", "place"] (defScope s_point_at) := ⟨rfl, rfl, rfl, by decide +kernel, rfl, by decide +kernel, by decide +kernel⟩
theorem k_point_at (T : Txt K mg) : Kept P w K mg base "point_at" ["line", "place"] [] 5 t_point_at := by
  obtain ⟨fd, F⟩ := T.says.def_ 25 (d := d_point_at) rfl
  refine kept_of (N := nm_point_at) (body := defBody s_point_at) (scope := defScope s_point_at) (params := defArgs s_point_at) F (g_point_at T) sc_point_at len_point_at (fun _ _ _ _ _ _ us hl => match us, hl with | [_, _], _ => rfl) (fun cdv A outer s H E hr => ⟨_, _,
      (pbd_cons (psd_expr (pd_call (k_look_at_place T) (hr.mono (by decide)) (by rfl) (pda_cons (pdv 0) (pda_cons (pdv 1) pda_nil))))
      (pbd_cons (psd_set (i := 2) sc_point_at.nd rfl (by first | exact .inl rfl | exact .inr rfl) (pd_call (k_floor_of T) (hr.mono (by decide)) (by rfl) (pda_cons (pdv 1) pda_nil)))
      (pbd_cons (psd_asg (pd_call (k_ends_of T) (hr.mono (by decide)) (by rfl) (pda_cons (pdv 0) (pda_cons (pdv 2) pda_nil))) (pgd_tupK (K := K) (n := 2) rfl rfl (pgds_cons (pgd_name (i := 3) sc_point_at.nd rfl (by first | exact .inl rfl | exact .inr rfl)) (pgds_cons (pgd_name (i := 4) sc_point_at.nd rfl (by first | exact .inl rfl | exact .inr rfl)) pgds_nil))))
      (pbd_cons (psd_set (i := 5) sc_point_at.nd rfl (by first | exact .inl rfl | exact .inr rfl) (pd_call (k_minus T) (hr.mono (by decide)) (by rfl) (pda_cons (pdv 1) (pda_cons (pd_tup (pda_cons (pdv 2) (pda_cons pd_int pda_nil))) pda_nil))))
      (pbd_cons (psd_set (i := 6) sc_point_at.nd rfl (by first | exact .inl rfl | exact .inr rfl) (pd_call (k_plus T) (hr.mono (by decide)) (by rfl) (pda_cons (pd_tup (pda_cons (pd_ixK (K := K) rfl (pdv 3) pd_int) (pda_cons pd_int pda_nil))) (pda_cons (pd_call (k_times T) (hr.mono (by decide)) (by rfl) (pda_cons (pdv 5) (pda_cons (pd_tup (pda_cons (pd_op op_sub r2_I (pd_ixK (K := K) rfl (pdv 4) pd_int) (pd_ixK (K := K) rfl (pdv 3) pd_int)) (pda_cons pd_int pda_nil))) pda_nil))) pda_nil))))
      (pbd_one (psd_ret (pd_tup (pda_cons (pdv 6) (pda_cons (pd_call (k_plus T) (hr.mono (by decide)) (by rfl) (pda_cons (pd_tup (pda_cons (pd_ixK (K := K) rfl (pdv 3) pd_int) (pda_cons pd_int pda_nil))) (pda_cons (pd_call (k_times T) (hr.mono (by decide)) (by rfl) (pda_cons (pdv 5) (pda_cons (pd_tup (pda_cons (pd_op op_sub r2_I (pd_ixK (K := K) rfl (pdv 4) pd_int) (pd_ixK (K := K) rfl (pdv 3) pd_int)) (pda_cons pd_int pda_nil))) pda_nil))) pda_nil))) pda_nil)))))))))), ?_⟩)
  rintro ds k ⟨l, q, rfl, zl, hq, zq, hk⟩
  obtain ⟨n, hn, hl⟩ := hq.floor
  have z20 := zl.2.1
  refine ⟨_, rfl, _, rfl, l, q, rfl, zl, hq, zq.mono (by decide), ?_⟩
  refine ⟨_, rfl, _, rfl, zq.mono (by decide), ?_⟩
  rw [hn]
  refine ⟨_, rfl, _, rfl, l, n, rfl, by omega, _, rfl, rfl, _, _, rfl, _, _, rfl, rfl, ?_⟩
  have zb := zl.2.2 _ (gp_mem (i := n) (by omega))
  have ze := zl.2.2 _ (gp_mem (l := l) (i := min (n + 1) (l.length - 1)) (by omega))
  have zn : Fz 10 ((n : Int) : Rat) := Fz.ofInt (szn (by omega) (by decide)) (by decide)
  have zp : Fz 311 (q - ((n : Int) : Rat)) := zq.sub zn
  have fi : ∀ {a : Int}, Sz 61 a → Fz 61 (a : Rat) := fun h => Fz.ofInt h (by decide)
  refine ⟨_, rfl, _, rfl, tl2, q, ((n : Int) : Rat), rfl, zq.mono (by decide), zn.mono (by decide), ?_⟩
  refine ⟨_, rfl, _, _, _, rfl, rfl, rfl, tl2, _, rfl, _, rfl, _, _, _, rfl, rfl, rfl, _, rfl, _, _, _, rfl, rfl, rfl, _, _, rfl, rfl, tl2, _, (((gp l (min (n + 1) (l.length - 1))).1 - (gp l n).1 : Int) : Rat), rfl, zp.mono (by decide), (fi (ze.1.sub zb.1)).mono (by decide), ((gp l n).1 : Rat), _, rfl, (fi (zb.1.mono (by decide))).mono (by decide), (zp.mul (fi (ze.1.sub zb.1))).mono (by decide), ?_⟩
  refine ⟨_, rfl, _, rfl, _, _, _, rfl, rfl, rfl, tl2, _, rfl, _, rfl, _, _, _, rfl, rfl, rfl, _, rfl, _, _, _, rfl, rfl, rfl, _, _, rfl, rfl, tl2, _, (((gp l (min (n + 1) (l.length - 1))).2 - (gp l n).2 : Int) : Rat), rfl, zp.mono (by decide), (fi (ze.2.sub zb.2)).mono (by decide), ((gp l n).2 : Rat), _, rfl, (fi (zb.2.mono (by decide))).mono (by decide), (zp.mul (fi (ze.2.sub zb.2))).mono (by decide), tl2, ?_⟩
  unfold poi ef at hk
  rw [hn, Int.toNat_natCast] at hk
  exact hk
end
end G
namespace G
open PySem PySem.Spec PyProof.Rows L2 DL M
section
variable {P : Program} {w : World} {K : PySem.W.Frag} {mg : Str → Option Value} {base : Heap}
def foot (p b e : Pt) : Rat := ((((p.1 : Int) : Rat) - ((b.1 : Int) : Rat)) * ((e.1 - b.1 : Int) : Rat) + (((p.2 : Int) : Rat) - ((b.2 : Int) : Rat)) * ((e.2 - b.2 : Int) : Rat)) / ((((e.1 - b.1) * (e.1 - b.1) + (e.2 - b.2) * (e.2 - b.2) : Int)) : Rat)
theorem sq_pos {x y : Int} (h : x * x + y * y = 0) : x = 0 ∧ y = 0 := by
  have nn : ∀ z : Int, 0 ≤ z * z := fun z => (Int.le_total 0 z).elim (fun h => Int.mul_nonneg h h) (fun h => Int.mul_nonneg_of_nonpos_of_nonpos h h)
  have h1 := nn x
  have h2 := nn y
  have a1 : x * x = 0 := by omega
  have a2 : y * y = 0 := by omega
  exact ⟨by simpa using Int.mul_eq_zero.mp a1, by simpa using Int.mul_eq_zero.mp a2⟩
theorem len_nz {b e : Pt} (h : b ≠ e) : (e.1 - b.1) * (e.1 - b.1) + (e.2 - b.2) * (e.2 - b.2) ≠ 0 := fun z => by
  obtain ⟨h1, h2⟩ := sq_pos z
  exact h (Prod.ext (by omega) (by omega))
theorem foot_begin {b e : Pt} : foot b b e = 0 := by
  unfold foot
  rw [Rat.sub_self, Rat.sub_self, Rat.zero_mul, Rat.zero_mul, Rat.add_zero, Rat.div_def, Rat.zero_mul]
theorem foot_end {b e : Pt} (h : b ≠ e) : foot e b e = 1 := by
  unfold foot
  have e1 : (((e.1 : Int) : Rat) - ((b.1 : Int) : Rat)) * ((e.1 - b.1 : Int) : Rat) + (((e.2 : Int) : Rat) - ((b.2 : Int) : Rat)) * ((e.2 - b.2 : Int) : Rat) = (((e.1 - b.1) * (e.1 - b.1) + (e.2 - b.2) * (e.2 - b.2) : Int) : Rat) := by
    simp only [Rat.intCast_add, Rat.intCast_mul, Rat.intCast_sub]
  rw [e1]
  rw [Rat.div_def]
  exact Rat.mul_inv_cancel _ (fun z => len_nz h (Rat.intCast_eq_zero_iff.mp z))
theorem foot_num_sz {p b e : Pt} (hp : Pz p) (hb : Pz b) (he : Pz e) : Fz 190 (((p.1 : Int) : Rat) - ((b.1 : Int) : Rat)) ∧ Fz 61 ((e.1 - b.1 : Int) : Rat) ∧ Fz 190 (((p.2 : Int) : Rat) - ((b.2 : Int) : Rat)) ∧ Fz 61 ((e.2 - b.2 : Int) : Rat) := by
  have fi : ∀ {n : Nat} {a : Int}, 0 < n → Sz n a → Fz n (a : Rat) := fun h0 h => Fz.ofInt h h0
  exact ⟨((fi (by decide) hp.1).sub (fi (by decide) hb.1)).mono (by decide), fi (by decide) (he.1.sub hb.1), ((fi (by decide) hp.2).sub (fi (by decide) hb.2)).mono (by decide), fi (by decide) (he.2.sub hb.2)⟩
theorem foot_bot_sz {b e : Pt} (hb : Pz b) (he : Pz e) : Sz 130 ((e.1 - b.1) * (e.1 - b.1) + (e.2 - b.2) * (e.2 - b.2)) := (((he.1.sub hb.1).mul (he.1.sub hb.1)).add ((he.2.sub hb.2).mul (he.2.sub hb.2))).mono (by decide)
theorem foot_sz {p b e : Pt} (hp : Pz p) (hb : Pz b) (he : Pz e) (h : b ≠ e) : Fz 140 (foot p b e) := by
  have e1 : foot p b e = Rat.divInt ((p.1 - b.1) * (e.1 - b.1) + (p.2 - b.2) * (e.2 - b.2)) ((e.1 - b.1) * (e.1 - b.1) + (e.2 - b.2) * (e.2 - b.2)) := by
    unfold foot
    rw [Rat.divInt_eq_div]
    simp only [Rat.intCast_add, Rat.intCast_mul, Rat.intCast_sub]
  rw [e1]
  exact Fz.divInt ((((hp.1.sub hb.1).mul (he.1.sub hb.1)).add ((hp.2.sub hb.2).mul (he.2.sub hb.2))).mono (by decide)) ((foot_bot_sz hb he).mono (by decide)) (len_nz h) (by decide)
theorem poi_sz {l : List Pt} {q : Rat} {n : Nat} (zl : Lz l) (hq : PlQ l q) (zq : Fz n q) : Fz (n + 140) (poi l q).1 ∧ Fz (n + 140) (poi l q).2 := by
  obtain ⟨m, hn, hl⟩ := hq.floor
  have z20 := zl.2.1
  have zb := zl.2.2 _ (gp_mem (i := m) (by omega))
  have ze := zl.2.2 _ (gp_mem (l := l) (i := min (m + 1) (l.length - 1)) (by omega))
  have zn : Fz 10 ((m : Int) : Rat) := Fz.ofInt (szn (by omega) (by decide)) (by decide)
  have fi : ∀ {n : Nat} {a : Int}, 0 < n → Sz n a → Fz n (a : Rat) := fun h0 h => Fz.ofInt h h0
  have zp := zq.sub zn
  unfold poi ef
  rw [hn, Int.toNat_natCast]
  exact ⟨((fi (by decide) zb.1).add (zp.mul (fi (by decide) (ze.1.sub zb.1)))).mono (by omega), ((fi (by decide) zb.2).add (zp.mul (fi (by decide) (ze.2.sub zb.2)))).mono (by omega)⟩
def t_square_between : Tr := fun ds k => ∃ p q : Rat × Rat, ds = [.tup [fr p.1, fr p.2], .tup [fr q.1, fr q.2]] ∧ (Fz 500 p.1 ∧ Fz 500 p.2) ∧ (Fz 500 q.1 ∧ Fz 500 q.2) ∧ k (fr (sqb p q))
theorem len_square_between : ∀ ds k, t_square_between ds k → ds.length = 2 := by
  rintro ds k ⟨_, _, rfl, _⟩
  rfl
abbrev nm_square_between : List Str := ["point", "other", "x", "y"]
theorem sc_square_between : FnScope nm_square_between ["point", "other"] (defScope s_square_between) := ⟨rfl, rfl, rfl, by decide +kernel, rfl, by decide +kernel, by decide +kernel⟩
theorem k_square_between (T : Txt K mg) : Kept P w K mg base "square_between" ["point", "other"] [] 4 t_square_between := by
  obtain ⟨fd, F⟩ := T.says.def_ 26 (d := d_square_between) rfl
  refine kept_of (N := nm_square_between) (body := defBody s_square_between) (scope := defScope s_square_between) (params := defArgs s_square_between) F (g_square_between T) sc_square_between len_square_between (fun _ _ _ _ _ _ us hl => match us, hl with | [_, _], _ => rfl) (fun cdv A outer s H E hr => ⟨_, _,
      (pbd_cons (psd_set (i := 2) sc_square_between.nd rfl (by first | exact .inl rfl | exact .inr rfl) (pd_call (k_minus T) (hr.mono (by decide)) (by rfl) (pda_cons (pd_ixK (K := K) rfl (pdv 0) pd_int) (pda_cons (pd_ixK (K := K) rfl (pdv 1) pd_int) pda_nil))))
      (pbd_cons (psd_set (i := 3) sc_square_between.nd rfl (by first | exact .inl rfl | exact .inr rfl) (pd_call (k_minus T) (hr.mono (by decide)) (by rfl) (pda_cons (pd_ixK (K := K) rfl (pdv 0) pd_int) (pda_cons (pd_ixK (K := K) rfl (pdv 1) pd_int) pda_nil))))
      (pbd_one (psd_ret (pd_call (k_plus T) (hr.mono (by decide)) (by rfl) (pda_cons (pd_call (k_times T) (hr.mono (by decide)) (by rfl) (pda_cons (pdv 2) (pda_cons (pdv 2) pda_nil))) (pda_cons (pd_call (k_times T) (hr.mono (by decide)) (by rfl) (pda_cons (pdv 3) (pda_cons (pdv 3) pda_nil))) pda_nil))))))), ?_⟩)
  rintro ds k ⟨p, q, rfl, ⟨p1, p2⟩, ⟨q1, q2⟩, hk⟩
  have x1 := p1.sub q1
  have x2 := p2.sub q2
  refine ⟨_, rfl, _, _, _, rfl, rfl, rfl, _, rfl, _, _, _, rfl, rfl, rfl, _, _, rfl, p1.mono (by decide), q1.mono (by decide), ?_⟩
  refine ⟨_, rfl, _, _, _, rfl, rfl, rfl, _, rfl, _, _, _, rfl, rfl, rfl, _, _, rfl, p2.mono (by decide), q2.mono (by decide), ?_⟩
  refine ⟨_, rfl, _, rfl, _, _, rfl, x1.mono (by decide), x1.mono (by decide), _, rfl, _, rfl, _, _, rfl, x2.mono (by decide), x2.mono (by decide), _, _, rfl, (x1.mul x1).mono (by decide), (x2.mul x2).mono (by decide), ?_⟩
  exact hk
def t_square_of : Tr := fun ds k => ∃ (one other : List Pt) (x y : Rat), ds = [ln one, fr x, ln other, fr y] ∧ Lz one ∧ Lz other ∧ PlQ one x ∧ PlQ other y ∧ Fz 100 x ∧ Fz 100 y ∧ k (fr (sqb (poi one x) (poi other y)))
theorem len_square_of : ∀ ds k, t_square_of ds k → ds.length = 4 := by
  rintro ds k ⟨_, _, _, _, rfl, _⟩
  rfl
abbrev nm_square_of : List Str := ["one", "x", "other", "y"]
theorem sc_square_of : FnScope nm_square_of ["one", "x", "other", "y"] (defScope s_square_of) := ⟨rfl, rfl, rfl, by decide +kernel, rfl, by decide +kernel, by decide +kernel⟩
theorem k_square_of (T : Txt K mg) : Kept P w K mg base "square_of" ["one", "x", "other", "y"] [] 6 t_square_of := by
  obtain ⟨fd, F⟩ := T.says.def_ 27 (d := d_square_of) rfl
  refine kept_of (N := nm_square_of) (body := defBody s_square_of) (scope := defScope s_square_of) (params := defArgs s_square_of) F (g_square_of T) sc_square_of len_square_of (fun _ _ _ _ _ _ us hl => match us, hl with | [_, _, _, _], _ => rfl) (fun cdv A outer s H E hr => ⟨_, _,
      (pbd_one (psd_ret (pd_call (k_square_between T) (hr.mono (by decide)) (by rfl) (pda_cons (pd_call (k_point_at T) (hr.mono (by decide)) (by rfl) (pda_cons (pdv 0) (pda_cons (pdv 1) pda_nil))) (pda_cons (pd_call (k_point_at T) (hr.mono (by decide)) (by rfl) (pda_cons (pdv 2) (pda_cons (pdv 3) pda_nil))) pda_nil))))), ?_⟩)
  rintro ds k ⟨one, other, x, y, rfl, z1, z2, hx, hy, zx, zy, hk⟩
  obtain ⟨a1, a2⟩ := poi_sz z1 hx zx
  obtain ⟨b1, b2⟩ := poi_sz z2 hy zy
  refine ⟨_, rfl, _, rfl, one, x, rfl, z1, hx, zx.mono (by decide), ?_⟩
  refine ⟨_, rfl, _, rfl, other, y, rfl, z2, hy, zy.mono (by decide), ?_⟩
  exact ⟨_, _, rfl, ⟨a1.mono (by decide), a2.mono (by decide)⟩, ⟨b1.mono (by decide), b2.mono (by decide)⟩, hk⟩
def t_foot_on : Tr := fun ds k => ∃ p b e : Pt, ds = [.tup [fr (p.1 : Rat), fr (p.2 : Rat)], pt b, pt e] ∧ Pz p ∧ Pz b ∧ Pz e ∧ b ≠ e ∧ k (fr (foot p b e))
theorem len_foot_on : ∀ ds k, t_foot_on ds k → ds.length = 3 := by
  rintro ds k ⟨_, _, _, rfl, _⟩
  rfl
abbrev nm_foot_on : List Str := ["point", "begin", "end", "x", "y", "along"]
theorem sc_foot_on : FnScope nm_foot_on ["point", "begin", "end"] (defScope s_foot_on) := ⟨rfl, rfl, rfl, by decide +kernel, rfl, by decide +kernel, by decide +kernel⟩
theorem k_foot_on (T : Txt K mg) : Kept P w K mg base "foot_on" ["point", "begin", "end"] [] 4 t_foot_on := by
  obtain ⟨fd, F⟩ := T.says.def_ 28 (d := d_foot_on) rfl
  refine kept_of (N := nm_foot_on) (body := defBody s_foot_on) (scope := defScope s_foot_on) (params := defArgs s_foot_on) F (g_foot_on T) sc_foot_on len_foot_on (fun _ _ _ _ _ _ us hl => match us, hl with | [_, _, _], _ => rfl) (fun cdv A outer s H E hr => ⟨_, _,
      (pbd_cons (psd_set (i := 3) sc_foot_on.nd rfl (by first | exact .inl rfl | exact .inr rfl) (pd_op op_sub r2_I (pd_ixK (K := K) rfl (pdv 2) pd_int) (pd_ixK (K := K) rfl (pdv 1) pd_int)))
      (pbd_cons (psd_set (i := 4) sc_foot_on.nd rfl (by first | exact .inl rfl | exact .inr rfl) (pd_op op_sub r2_I (pd_ixK (K := K) rfl (pdv 2) pd_int) (pd_ixK (K := K) rfl (pdv 1) pd_int)))
      (pbd_cons (psd_set (i := 5) sc_foot_on.nd rfl (by first | exact .inl rfl | exact .inr rfl) (pd_call (k_times T) (hr.mono (by decide)) (by rfl) (pda_cons (pd_call (k_minus T) (hr.mono (by decide)) (by rfl) (pda_cons (pd_ixK (K := K) rfl (pdv 0) pd_int) (pda_cons (pd_tup (pda_cons (pd_ixK (K := K) rfl (pdv 1) pd_int) (pda_cons pd_int pda_nil))) pda_nil))) (pda_cons (pd_tup (pda_cons (pdv 3) (pda_cons pd_int pda_nil))) pda_nil))))
      (pbd_cons (psd_set (i := 5) sc_foot_on.nd rfl (by first | exact .inl rfl | exact .inr rfl) (pd_call (k_plus T) (hr.mono (by decide)) (by rfl) (pda_cons (pdv 5) (pda_cons (pd_call (k_times T) (hr.mono (by decide)) (by rfl) (pda_cons (pd_call (k_minus T) (hr.mono (by decide)) (by rfl) (pda_cons (pd_ixK (K := K) rfl (pdv 0) pd_int) (pda_cons (pd_tup (pda_cons (pd_ixK (K := K) rfl (pdv 1) pd_int) (pda_cons pd_int pda_nil))) pda_nil))) (pda_cons (pd_tup (pda_cons (pdv 4) (pda_cons pd_int pda_nil))) pda_nil))) pda_nil))))
      (pbd_one (psd_ret (pd_call (k_over T) (hr.mono (by decide)) (by rfl) (pda_cons (pdv 5) (pda_cons (pd_tup (pda_cons (pd_op op_add r2_I (pd_op op_mulW r2_Ic (pdv 3) (pdv 3)) (pd_op op_mulW r2_Ic (pdv 4) (pdv 4))) (pda_cons pd_int pda_nil))) pda_nil))))))))), ?_⟩)
  rintro ds k ⟨p, b, e, rfl, hp, hb, he, hne, hk⟩
  obtain ⟨s1, s2, s3, s4⟩ := foot_num_sz hp hb he
  have fi : ∀ {n : Nat} {a : Int}, 0 < n → Sz n a → Fz n (a : Rat) := fun h0 h => Fz.ofInt h h0
  refine ⟨_, rfl, _, _, _, rfl, rfl, rfl, _, rfl, _, _, _, rfl, rfl, rfl, _, _, rfl, rfl, ?_⟩
  refine ⟨_, rfl, _, _, _, rfl, rfl, rfl, _, rfl, _, _, _, rfl, rfl, rfl, _, _, rfl, rfl, ?_⟩
  refine ⟨_, rfl, _, _, _, rfl, rfl, rfl, _, rfl, _, _, _, rfl, rfl, rfl, tl2, ((p.1 : Int) : Rat), ((b.1 : Int) : Rat), rfl, (fi (by decide) hp.1).mono (by decide), (fi (by decide) hb.1).mono (by decide), ?_⟩
  refine ⟨_, rfl, tl2, _, ((e.1 - b.1 : Int) : Rat), rfl, s1.mono (by decide), s2.mono (by decide), ?_⟩
  refine ⟨_, rfl, _, rfl, _, _, _, rfl, rfl, rfl, _, rfl, _, _, _, rfl, rfl, rfl, tl2, ((p.2 : Int) : Rat), ((b.2 : Int) : Rat), rfl, (fi (by decide) hp.2).mono (by decide), (fi (by decide) hb.2).mono (by decide), ?_⟩
  refine ⟨_, rfl, tl2, _, ((e.2 - b.2 : Int) : Rat), rfl, s3.mono (by decide), s4.mono (by decide), ?_⟩
  refine ⟨_, _, rfl, (s1.mul s2).mono (by decide), (s3.mul s4).mono (by decide), ?_⟩
  refine ⟨_, rfl, _, rfl, _, rfl, _, _, rfl, rfl, mulok9 ((he.1.sub hb.1).mono (by decide)) ((he.1.sub hb.1).mono (by decide)), _, rfl, _, rfl, _, _, rfl, rfl, mulok9 ((he.2.sub hb.2).mono (by decide)) ((he.2.sub hb.2).mono (by decide)), _, _, rfl, rfl, tl2, _, (((e.1 - b.1) * (e.1 - b.1) + (e.2 - b.2) * (e.2 - b.2) : Int) : Rat), rfl, fun z => len_nz hne (Rat.intCast_eq_zero_iff.mp z), ((s1.mul s2).add (s3.mul s4)).mono (by decide), (fi (by decide) (foot_bot_sz hb he)).mono (by decide), ?_⟩
  exact hk
def lpl0 (one other : List Pt) (i j : Nat) : Rat := if gp other j = gp other (j + 1) then ((j : Int) : Rat) else ((j : Int) : Rat) + foot (gp one i) (gp other j) (gp other (j + 1))
def lpl1 (one other : List Pt) (i j : Nat) : Rat := if (((j : Int) + 1 : Int) : Rat) < lpl0 one other i j then (((j : Int) + 1 : Int) : Rat) else lpl0 one other i j
def lpl2 (one other : List Pt) (i j : Nat) : Rat := if lpl1 one other i j < ((j : Int) : Rat) then ((j : Int) : Rat) else lpl1 one other i j
theorem lt_succ (j : Int) : ((j : Int) : Rat) < ((j + 1 : Int) : Rat) := Rat.intCast_lt_intCast.mpr (by omega)
theorem lpl2_in (one other : List Pt) (i j : Nat) : ((j : Int) : Rat) ≤ lpl2 one other i j ∧ lpl2 one other i j ≤ (((j : Int) + 1 : Int) : Rat) := by
  have h := lt_succ (j : Int)
  have h1 : lpl1 one other i j ≤ (((j : Int) + 1 : Int) : Rat) := by
    unfold lpl1
    split <;> grind
  unfold lpl2
  split <;> grind
theorem lpl2_begin {one other : List Pt} {i j : Nat} (h : gp one i = gp other j) : lpl2 one other i j = ((j : Int) : Rat) := by
  have h0 : lpl0 one other i j = ((j : Int) : Rat) := by
    unfold lpl0
    split
    · rfl
    · rw [h, foot_begin, Rat.add_zero]
  have hs := lt_succ (j : Int)
  have h1 : lpl1 one other i j = ((j : Int) : Rat) := by
    unfold lpl1
    rw [h0, if_neg (by grind)]
  unfold lpl2
  rw [h1, if_neg (by grind)]
theorem lpl2_end {one other : List Pt} {i j : Nat} (h : gp one i = gp other (j + 1)) (hne : gp other j ≠ gp other (j + 1)) : lpl2 one other i j = (((j : Int) + 1 : Int) : Rat) := by
  have h0 : lpl0 one other i j = (((j : Int) + 1 : Int) : Rat) := by
    unfold lpl0
    rw [if_neg hne, h, foot_end hne, Rat.intCast_add]
    rfl
  have hs := lt_succ (j : Int)
  have h1 : lpl1 one other i j = (((j : Int) + 1 : Int) : Rat) := by
    unfold lpl1
    rw [h0, if_neg (by grind)]
  unfold lpl2
  rw [h1, if_neg (by grind)]
def lenv (one other : List Pt) (i j : Nat) (q : Rat) : EnvD := [some (.sh (ln one)), some (.sh (.tup [.int i, .int 1])), some (.sh (ln other)), some (.sh (.tup [.int j, .int 1])), some (.sh (.tup [.int ((j : Int) + 1), .int 1])), some (.sh (.tup [fr ((gp one i).1 : Rat), fr ((gp one i).2 : Rat)])), some (.sh (.int j)), some (.sh (pt (gp other j))), some (.sh (pt (gp other (j + 1)))), some (.sh (fr q))]
def t_least_along : Tr := fun ds k => ∃ (one other : List Pt) (i j : Nat), ds = [ln one, .tup [.int i, .int 1], ln other, .tup [.int j, .int 1], .tup [.int ((j : Int) + 1), .int 1]] ∧ Lz one ∧ Lz other ∧ i < one.length ∧ j + 1 < other.length ∧ ∀ v p : Rat, Fz 2000 v → (gp one i = gp other j ∨ gp one i = gp other (j + 1) → v = 0) → k (.tup [fr v, fr p])
theorem len_least_along : ∀ ds k, t_least_along ds k → ds.length = 5 := by
  rintro ds k ⟨_, _, _, _, rfl, _⟩
  rfl
abbrev nm_least_along : List Str := ["one", "x", "other", "low", "high", "point", "number", "begin", "end", "place"]
theorem sc_least_along : FnScope nm_least_along ["one", "x", "other", "low", "high"] (defScope s_least_along) := ⟨rfl, rfl, rfl, by decide +kernel, rfl, by decide +kernel, by decide +kernel⟩
theorem k_least_along (T : Txt K mg) : Kept P w K mg base "least_along" ["one", "x", "other", "low", "high"] [] 6 t_least_along := by
  obtain ⟨fd, F⟩ := T.says.def_ 29 (d := d_least_along) rfl
  refine kept_of (N := nm_least_along) (body := defBody s_least_along) (scope := defScope s_least_along) (params := defArgs s_least_along) F (g_least_along T) sc_least_along len_least_along (fun _ _ _ _ _ _ us hl => match us, hl with | [_, _, _, _, _], _ => rfl) (fun cdv A outer s H E hr => ⟨_, _,
      (pbd_cons (psd_set (i := 5) sc_least_along.nd rfl (by first | exact .inl rfl | exact .inr rfl) (pd_call (k_point_at T) (hr.mono (by decide)) (by rfl) (pda_cons (pdv 0) (pda_cons (pdv 1) pda_nil))))
      (pbd_cons (psd_expr (pd_call (k_look_at_place T) (hr.mono (by decide)) (by rfl) (pda_cons (pdv 2) (pda_cons (pdv 3) pda_nil))))
      (pbd_cons (psd_expr (pd_call (k_look_at_place T) (hr.mono (by decide)) (by rfl) (pda_cons (pdv 2) (pda_cons (pdv 4) pda_nil))))
      (pbd_cons (psd_set (i := 6) sc_least_along.nd rfl (by first | exact .inl rfl | exact .inr rfl) (pd_call (k_floor_of T) (hr.mono (by decide)) (by rfl) (pda_cons (pdv 3) pda_nil)))
      (pbd_cons (psd_asg (pd_call (k_ends_of T) (hr.mono (by decide)) (by rfl) (pda_cons (pdv 2) (pda_cons (pdv 6) pda_nil))) (pgd_tupK (K := K) (n := 2) rfl rfl (pgds_cons (pgd_name (i := 7) sc_least_along.nd rfl (by first | exact .inl rfl | exact .inr rfl)) (pgds_cons (pgd_name (i := 8) sc_least_along.nd rfl (by first | exact .inl rfl | exact .inr rfl)) pgds_nil))))
      (pbd_cons (psd_set (i := 9) sc_least_along.nd rfl (by first | exact .inl rfl | exact .inr rfl) (pdv 3))
      (pbd_cut (psd_if (pdt_cmp (op_neA hr.units) r2_ne (pdv 7) (pdv 8)) (pbd_one (psd_set (i := 9) sc_least_along.nd rfl (by first | exact .inl rfl | exact .inr rfl) (pd_call (k_plus T) (hr.mono (by decide)) (by rfl) (pda_cons (pd_tup (pda_cons (pdv 6) (pda_cons pd_int pda_nil))) (pda_cons (pd_call (k_foot_on T) (hr.mono (by decide)) (by rfl) (pda_cons (pdv 5) (pda_cons (pdv 7) (pda_cons (pdv 8) pda_nil)))) pda_nil))))) pbd_nil)
      (pbd_cut (psd_if (pdt_val (pd_call (k_less T) (hr.mono (by decide)) (by rfl) (pda_cons (pdv 4) (pda_cons (pdv 9) pda_nil)))) (pbd_one (psd_set (i := 9) sc_least_along.nd rfl (by first | exact .inl rfl | exact .inr rfl) (pdv 4))) pbd_nil)
      (pbd_cut (psd_if (pdt_val (pd_call (k_less T) (hr.mono (by decide)) (by rfl) (pda_cons (pdv 9) (pda_cons (pdv 3) pda_nil)))) (pbd_one (psd_set (i := 9) sc_least_along.nd rfl (by first | exact .inl rfl | exact .inr rfl) (pdv 3))) pbd_nil)
      (pbd_one (psd_ret (pd_tup (pda_cons (pd_call (k_square_between T) (hr.mono (by decide)) (by rfl) (pda_cons (pdv 5) (pda_cons (pd_call (k_point_at T) (hr.mono (by decide)) (by rfl) (pda_cons (pdv 2) (pda_cons (pdv 9) pda_nil))) pda_nil))) (pda_cons (pdv 9) pda_nil)))))))))))))), ?_⟩)
  rintro ds k ⟨one, other, i, j, rfl, z1, z2, hi, hj, hk⟩
  have w1 := z1.2.1
  have w2 := z2.2.1
  have zP := z1.2.2 _ (gp_mem hi)
  have zb := z2.2.2 _ (gp_mem (i := j) (by omega))
  have ze := z2.2.2 _ (gp_mem hj)
  have fi : ∀ {n : Nat} {a : Int}, 0 < n → Sz n a → Fz n (a : Rat) := fun h0 h => Fz.ofInt h h0
  have pq : ∀ {l : List Pt} {n : Int}, 0 ≤ n → n ≤ (l.length : Int) - 1 → PlQ l ((n : Int) : Rat) := fun h1 h2 => ⟨by have := Rat.intCast_le_intCast.mpr h1; simpa using this, Rat.intCast_le_intCast.mpr h2⟩
  have sj : Fz 20 ((j : Int) : Rat) := fi (by decide) (szn (by omega) (by decide))
  have sj1 : Fz 20 (((j : Int) + 1 : Int) : Rat) := fi (by decide) (szn (by omega) (by decide))
  have si : Fz 20 ((i : Int) : Rat) := fi (by decide) (szn (by omega) (by decide))
  have s0 : Fz 170 (lpl0 one other i j) := by
    unfold lpl0
    split
    · exact sj.mono (by decide)
    · rename_i h
      exact (sj.add (foot_sz zP zb ze h)).mono (by decide)
  have s1 : Fz 170 (lpl1 one other i j) := by
    unfold lpl1
    split
    · exact sj1.mono (by decide)
    · exact s0
  have s2 : Fz 170 (lpl2 one other i j) := by
    unfold lpl2
    split
    · exact sj.mono (by decide)
    · exact s1
  have pj : PlQ other ((j : Int) : Rat) := pq (by omega) (by omega)
  have pj1 : PlQ other (((j : Int) + 1 : Int) : Rat) := pq (by omega) (by omega)
  have p2 : PlQ other (lpl2 one other i j) := ⟨Rat.le_trans pj.1 (lpl2_in one other i j).1, Rat.le_trans (lpl2_in one other i j).2 pj1.2⟩
  refine ⟨_, rfl, _, rfl, one, ((i : Int) : Rat), rfl, z1, pq (by omega) (by omega), si.mono (by decide), ?_⟩
  refine ⟨_, rfl, _, rfl, other, ((j : Int) : Rat), rfl, z2, pj, sj.mono (by decide), ?_⟩
  refine ⟨_, rfl, _, rfl, other, (((j : Int) + 1 : Int) : Rat), rfl, z2, pj1, sj1.mono (by decide), ?_⟩
  refine ⟨_, rfl, ((j : Int) : Rat), rfl, sj.mono (by decide), ?_⟩
  rw [floor_int, poi_int]
  refine ⟨_, rfl, _, rfl, other, j, rfl, by omega, _, rfl, rfl, _, _, rfl, _, _, rfl, rfl, ?_⟩
  have em : min (j + 1) (other.length - 1) = j + 1 := by omega
  rw [em]
  refine ⟨_, rfl, ?_⟩
  refine ⟨fun ρ => ρ = lenv one other i j (lpl0 one other i j), ?_, ?_⟩
  · refine ⟨_, rfl, _, rfl, _, rfl, _, rfl, ?_⟩
    by_cases h : gp other j = gp other (j + 1)
    · have hd : decide ((gp other j).1 = (gp other (j + 1)).1 ∧ (gp other j).2 = (gp other (j + 1)).2) = true := by rw [h]; simp
      rw [hd]
      refine iteF ?_
      unfold lpl0
      rw [if_pos h]
      rfl
    · have hd : decide ((gp other j).1 = (gp other (j + 1)).1 ∧ (gp other j).2 = (gp other (j + 1)).2) = false := decide_eq_false (fun z => h (Prod.ext z.1 z.2))
      rw [hd]
      refine iteT ?_
      refine ⟨_, rfl, tl2, _, rfl, _, rfl, _, rfl, _, _, _, rfl, zP, zb, ze, h, ((j : Int) : Rat), _, rfl, sj.mono (by decide), (foot_sz zP zb ze h).mono (by decide), ?_⟩
      unfold lpl0
      rw [if_neg h]
      rfl
  rintro ρ rfl
  refine ⟨fun ρ => ρ = lenv one other i j (lpl1 one other i j), ?_, ?_⟩
  · refine ⟨_, rfl, _, rfl, (((j : Int) + 1 : Int) : Rat), lpl0 one other i j, rfl, sj1.mono (by decide), s0.mono (by decide), _, rfl, ?_⟩
    unfold lpl1
    refine ite2 (fun h => ?_) (fun h => ?_)
    · rw [if_pos (by simpa using h)]
      exact ⟨_, rfl, rfl⟩
    · rw [if_neg (by simpa using h)]
      rfl
  rintro ρ rfl
  refine ⟨fun ρ => ρ = lenv one other i j (lpl2 one other i j), ?_, ?_⟩
  · refine ⟨_, rfl, _, rfl, lpl1 one other i j, ((j : Int) : Rat), rfl, s1.mono (by decide), sj.mono (by decide), _, rfl, ?_⟩
    unfold lpl2
    refine ite2 (fun h => ?_) (fun h => ?_)
    · rw [if_pos (by simpa using h)]
      exact ⟨_, rfl, rfl⟩
    · rw [if_neg (by simpa using h)]
      rfl
  rintro ρ rfl
  obtain ⟨a1, a2⟩ := poi_sz z2 p2 s2
  have b1 : Fz 60 (((gp one i).1 : Int) : Rat) := fi (by decide) zP.1
  have b2 : Fz 60 (((gp one i).2 : Int) : Rat) := fi (by decide) zP.2
  refine ⟨_, rfl, _, rfl, _, rfl, other, lpl2 one other i j, rfl, z2, p2, s2.mono (by decide), (((gp one i).1 : Rat), ((gp one i).2 : Rat)), poi other (lpl2 one other i j), rfl, ⟨b1.mono (by decide), b2.mono (by decide)⟩, ⟨a1.mono (by decide), a2.mono (by decide)⟩, _, rfl, tl2, ?_⟩
  refine hk _ _ ?_ ?_
  · exact ((((b1.sub a1).mul (b1.sub a1))).add ((b2.sub a2).mul (b2.sub a2))).mono (by decide)
  · intro h
    have hz : poi other (lpl2 one other i j) = (((gp one i).1 : Rat), ((gp one i).2 : Rat)) := by
      by_cases hb : gp one i = gp other j
      · rw [lpl2_begin hb, poi_int, hb]
      · have he := h.resolve_left hb
        rw [lpl2_end he (fun z => hb (he.trans z.symm))]
        have := poi_int other (j + 1)
        rw [show (((j + 1 : Nat) : Int)) = (j : Int) + 1 by omega] at this
        rw [this, he]
    rw [hz]
    exact sqb_self _
end
end G
/-! Loops over owned lists, a dict's keys, a list turned about, a display of one pair. -/
namespace DL
open PySem PySem.Spec PyProof.Rows L2 Evl
theorem isKeys_tup {H : Hp} : ∀ {ws : List (List Key × V)} {bs : List Addr}, IsKeys H ws bs → ∀ b ∈ bs, ∃ xs, H b = some (.tup xs)
  | _, _, .nil, b, hb => by cases hb
  | _, _, .cons h1 h2, b, hb => by
    rcases List.mem_cons.mp hb with e | hb
    · rw [e]; exact ⟨_, h1⟩
    · exact isKeys_tup h2 b hb
section
variable {X : Cx} {pos : Pos} {e a b o tg : Expr} {te ta tb : TE} {p q : ED}
/-- list(d), d a dict with keys of ints -/
def keyT (k : List Int) : Dat := .tup (k.map .int)
def hKeys (p : ED) : EA := fun ρ k => p ρ fun x => ∃ ks ds, x = .dct ks ds ∧ ks.length ≤ 100000 ∧ k (ks.map keyT)
theorem rpl_keys {F H : Hp} : ∀ {ws : List (List Key × V)} {ks : List (List Int)} {bs : List Addr}, ws.map (·.1) = ks.map kL → IsKeys H ws bs → (∀ b ∈ bs, F b = H b) → RpL F (ks.map keyT) (bs.map V.ref)
  | [], [], _, _, h, _ => by
    cases h
    rfl
  | [], _ :: _, _, h, _, _ => by cases h
  | _ :: _, [], _, h, _, _ => by cases h
  | w :: ws, k :: ks, _, h, .cons (b := b) h1 h2, hb => by
    rw [List.map_cons, List.map_cons] at h
    injection h with e1 e2
    refine ⟨_, _, rfl, ⟨b, k.map V.int, rfl, ?_, ?_⟩, rpl_keys e2 h2 (fun c hc => hb c (List.mem_cons_of_mem _ hc))⟩
    · rw [hb b List.mem_cons_self, h1, e1, key_kV]
    · exact RpL.mapOf (f := Dat.int) (g := V.int) (fun i => by unfold Rp; rfl) k
theorem pl_keys {p2 : Pos} (hc : X.calm = true) (hg : Gl X "list") (hm : X.mg "list" = none) (h : PD X e te p) (he : starEach [e] X.env = (false, eval e X.env) :: starEach [] X.env := by rfl) (hpl : (backTo pos (starEach [] X.env)).any (·.1) = false := by rfl) :
    PL X (.Call (.Name "list" p2) [e] [] pos) (tCB (fun xs H Q => ∃ d kvs, xs = [V.ref d] ∧ Rd H d (.dT kvs) ∧ ∀ p bs, H p = none → IsKeys H kvs bs → Q (.ref p) (upd H p (.lst (bs.map V.ref)))) (tCons te tNil)) (hKeys p) :=
  ⟨pe_callTy (call_list_dT hc) hg hm (by decide +kernel) (pa_cons h.run pa_nil he) (by decide) (by decide) he hpl, fun F0 H0 F H ρ σ k Q ok hp hq => h.ev F0 H0 F H ρ σ _ _ ok hp fun x v F1 H1 g r1 ⟨ks, ds, ex, hl, hk⟩ => by
    subst ex
    obtain ⟨a, ws, e1, e2, e3, e4⟩ := r1
    subst e1
    refine ⟨a, ws, rfl, .inl (g.fh _ _ e2), fun c bs hc hbs => ?_⟩
    have g2 : Gr F1 H1 (fun b => if b ∈ bs then H1 b else F1 b) H1 := by
      refine ⟨fun b o h => ?_, Ex.refl H1, fun b o h => ?_, fun b o h => ?_⟩
      · show (if b ∈ bs then H1 b else F1 b) = some o
        split
        · exact g.fh b o h
        · exact h
      · have h : (if b ∈ bs then H1 b else F1 b) = some o := h
        split at h
        · exact h
        · exact g.fh b o h
      · have h : (if b ∈ bs then H1 b else F1 b) = some o := h
        split at h
        · rename_i hb
          obtain ⟨xs, hx⟩ := isKeys_tup hbs b hb
          rw [hx] at h
          cases h
          exact .inr (.inr ⟨xs, rfl⟩)
        · exact .inl h
    refine hq _ c (bs.map V.ref) (fun b => if b ∈ bs then H1 b else F1 b) _ ((g.trans g2).trans (Gr.made g2.fh hc)) (fresh_back g.eH hc) ?_ upd_same (rpl_keys e3 hbs (fun b hb => if_pos hb)) hk
    exact fresh_back g2.fh hc⟩
/-! ### for over an owned list -/
def sForO1 (i0 : Nat) (g : TGD) (B : TSD) : TSD := fun D ρ => ∃ ds, ρ[i0]? = some (some (.ol ds)) ∧ ∀ a, ∃ W : Nat → EnvD → Prop, W 0 (ρ.set i0 (some (.la a ds))) ∧ (∀ i ρ', W i ρ' → ρ'[i0]? = some (some (.la a ds))) ∧
  (∀ i d ρ', ds[i]? = some d → W i ρ' → g d ρ' fun ρ'' => B { nx := W (i + 1), rt := D.rt, bk := fun _ => False, ct := W (i + 1) } ρ'') ∧ ∀ ρ', W ds.length ρ' → D.nx (ρ'.set i0 (some (.ol ds)))
theorem Ok.tell {F0 H0 F H : Hp} {ρ : EnvD} {σ : L2.St} (ok : Ok F0 H0 F H ρ σ) {i : Nat} {s t : Slot} {a : Addr} {o : HO} (hi : ρ[i]? = some (some s)) (hx : σ[i]? = some (some (.ref a))) (hs : s.own = true) (hH : H a = some o) (ht : SlOk H0 F H (some (some (.ref a))) t) : Ok F0 H0 F H (ρ.set i (some t)) σ := by
  have e : upd H a o = H := by
    funext b
    by_cases h : b = a
    · subst h; rw [upd_same, hH]
    · rw [upd_ne h]
  have := ok.change (o := o) (t := t) hi hx hs (by rw [e]; exact ht)
  rw [e] at this
  exact this
theorem psd_forO1 {i0 : Nat} {iter : Expr} {body : List Stmt} {g : TG} {vs : List Nat} {z : TGD} {tb : TS} {B : TSD} (hp : PassesOwn (model X.prog X.w) X.A X.env X.xe) (hc : X.calm = true) (hi : PE X iter (tVar i0)) (hg : PGd X tg g vs z) (hb : PBd X body tb B) (hs : ∀ x, foldedSetIterable iter X.env x = pure x := by intro _; rfl) :
    PSd X (.For tg iter body [] pos) (tFor (iList X.K (tVar i0)) g tb) (sForO1 i0 z B) :=
  ⟨ps_for hp hc (pi_list hi) hg.run hb.run hs, fun F0 H0 F H ρ σ D E ok L ⟨ds, hi0, hw⟩ => by
    obtain ⟨a, us, h1, h2, h3, h4, h5⟩ := ok.slot i0 _ hi0
    obtain ⟨W, w0, hstay, hstep, hd⟩ := hw a
    have okT : Ok F0 H0 F H (ρ.set i0 (some (.la a ds))) σ := ok.tell hi0 h1 rfl h4 ⟨us, rfl, h2, h3, h4, h5⟩
    refine ⟨.ref a, h1, a, rfl, ⟨us, SqL.of h4⟩, fun i m σ' H' => m = ds.length - i ∧ i ≤ ds.length ∧ ∃ F' ρ', Ok F0 H0 F' H' ρ' σ' ∧ W i ρ', ⟨ds.length, by simp, Nat.zero_le _, F, _, okT, w0⟩, ?_⟩
    rintro i m σ' H' ⟨em, hi', F', ρ', ok', w⟩
    subst em
    obtain ⟨us', q1, q2, q3, q4, q5⟩ := ok'.slot i0 _ (hstay i ρ' w)
    by_cases hlt : i < ds.length
    · refine .inr ⟨⟨us', us'[i]'(by rw [← q5.length]; exact hlt), SqL.of q4, by simp [← q5.length, hlt]⟩, fun σ2 H2 => ∃ F2 ρ2, Ok F0 H0 F2 H2 ρ2 σ2 ∧ W (i + 1) ρ2, fun σ2 H2 ⟨F2, ρ2, ok2, w2⟩ => ⟨ds.length - (i + 1), by omega, rfl, hlt, F2, ρ2, ok2, w2⟩, fun x H2 hy => ?_⟩
      obtain ⟨e, y⟩ := hy
      subst e
      obtain ⟨d, hd1, r2⟩ := q5.back (y us' (SqL.of q4))
      refine hg.ev F0 H0 F' H2 ρ' σ' d x _ _ ok' r2 (hstep i d ρ' hd1 w) fun ρ3 σ3 ok3 _ hk3 => ?_
      exact hb.ev F0 H0 F' H2 ρ3 σ3 { nx := W (i + 1), rt := D.rt, bk := fun _ => False, ct := W (i + 1) } _ ok3 ⟨fun F4 H4 ρ4 σ4 ok4 w4 => ⟨F4, ρ4, ok4, w4⟩, fun F4 H4 d4 v4 g4 r4 hk4 => L.rt F4 H4 d4 v4 g4 r4 hk4, fun F4 H4 ρ4 σ4 ok4 hk4 => hk4.elim, fun F4 H4 ρ4 σ4 ok4 w4 => ⟨F4, ρ4, ok4, w4⟩⟩ hk3
    · have e : i = ds.length := by omega
      subst e
      refine .inl ⟨⟨us', SqL.of q4, by rw [q5.length]; exact Nat.le_refl _⟩, L.nx F' H' _ σ' (ok'.tell (t := .ol ds) (hstay _ ρ' w) q1 rfl q4 ⟨a, us', rfl, q2, q3, q4, q5⟩) (hd ρ' w)⟩⟩
end
end DL
/-! list(reversed(xs)). -/
namespace DL
open PySem PySem.Calls PySem.Spec PyProof.Rows PyProof.V L2 Evl RT
section
variable {prog : Program} {w : World} {A : Around} {E : Value → Shared → Prop} {s : Shared}
theorem lrev_extend {it l S : Addr} {c₀ : Nat} {items : Array Value} {R : Result → Shared → Prop} (hh : A.handled = none) (hit : s.heap.IsRevIter it l ((items.size : Int) - 1)) (hl : s.heap.IsList l items) (hSi : S ≠ it) (hSl : S ≠ l) (hne : l ≠ it) (hn : items.size ≤ sizeLine)
    (hS : s.heap.get? S = some { cls := .type "list", data := .seq #[] c₀ })
    (hR : ∀ (h' : Heap) (tk : Nat) (acc : Array Value) (c' : Nat), (∀ b o, b ≠ it → b ≠ S → s.heap.get? b = some o → h'.get? b = some o) → h'.get? S = some { cls := .type "list", data := .seq acc c' } → ItemsOf (fun i v => items[items.size - 1 - i]? = some v) acc items.size → R (.ok (.ret .none)) { s with heap := h', toks := tk }) :
    wpAny (model prog w) A.in1 (Builtin.List.listExtendWith (.ref S) (.ref it) .none)
      (fun fin s' => match fin with | .done f => R (.ok f) s' | .again c' => c'.quiet = true ∧ codeAny (model prog w) A c' R s') (fun e s' => R (.error e) s') s := by
  have W := (Walks.listRev (prog := prog) (w := w) (A := A.in1) hh it l hne items).toS
  have hSf : S ∉ [it, l] := by simp only [List.mem_cons, List.not_mem_nil, or_false, not_or]; exact ⟨hSi, hSl⟩
  have hT : s.TypeIs (.ref it) "list_reverseiterator" := Heap.IsRevIter.typeIs hit
  have h1 : Builtin.List.listSameRef (.ref S) (.ref it) = false := by simp [Builtin.List.listSameRef, hSi]
  unfold Builtin.List.listExtendWith
  refine wpAny_bind (wpAny_typeOf hT ?_)
  rw [if_neg (by rw [h1]; decide)]
  refine wpAny_bind (wpAny_pyIter_revIter (s := s) hit ?_)
  refine wpAny_bind (wpAny_holding ?_)
  unfold Builtin.List.listLengthHint
  refine wpAny_bind (wpAny_specialOf hT nolen_lri ?_)
  show wpAny _ A.in1 (specialOf (Value.ref it) (Str.ofString "__length_hint__") >>= _) _ _ _
  refine wpAny_bind (wpAny_specialOf hT hint_lri ?_)
  generalize hid : ("list_reverseiterator.__length_hint__" : String) = id0
  wp_delta
  rw [show splitId id0 = some ("list_reverseiterator", "__length_hint__") from by subst hid; decide +kernel]
  subst hid
  refine wpAny_bind (wpAny_isInstance (b := true) hT (by rw [isSubtype_type]; kernel_rfl) ?_)
  refine wpAny_pure ?_
  rw [if_neg (by decide)]
  have e0 : ((items.size : Nat) : Int) - 1 - ((0 : Nat) : Int) = (items.size : Int) - 1 := by omega
  refine wpAny_pure ⟨plainId_quiet F.plain_extend_loop _, codeAny_extend_loopS W hn _ hSf _ items.size 0 _ _ _ rfl (Nat.zero_le _) ⟨Nat.zero_le _, by rw [e0]; exact hit, hl⟩ hS (ItemsOf.nil _) fun s' acc' c' hm hS' hacc => ?_⟩
  rw [Moved.eq_with hm]
  refine hR s'.heap s'.toks acc' c' (fun b o hb hb2 e => hm.heap b o (fun hmem => ?_) e) hS' hacc
  rcases List.mem_cons.mp hmem with e' | hmem
  · exact hb2 e'
  · exact hb (List.mem_singleton.mp hmem)
theorem lrev_call {it l : Addr} {items : Array Value} {Q : Value → Shared → Prop} (hh : A.handled = none) (hit : s.heap.IsRevIter it l ((items.size : Int) - 1)) (hl : s.heap.IsList l items) (hne : l ≠ it) (hn : items.size ≤ sizeLine)
    (hQ : ∀ (h' : Heap) (tk : Nat) (acc : Array Value) (c' : Nat), (∀ b o, b ≠ it → s.heap.get? b = some o → h'.get? b = some o) → h'.get? s.heap.objs.size = some { cls := .type "list", data := .seq acc c' } → ItemsOf (fun i v => items[items.size - 1 - i]? = some v) acc items.size → Q (.ref s.heap.objs.size) { s with heap := h', toks := tk }) :
    wpAny (model prog w) A (call (.type "list") [.ref it]) Q E s := by
  refine callType_codes (Q₁ := fun obj s₁ => obj = .ref s.heap.objs.size ∧ s₁ = { s with heap := s.heap.push { cls := .type "list", data := .seq #[] } }) PySem.F.called_list (PySem.F.typeCall_list_1 _) PySem.F.entry_list_init
    (code_list_new _ ⟨rfl, rfl⟩) fun obj s₁ h₁ => ?_
  obtain ⟨rfl, rfl⟩ := h₁
  obtain ⟨oi, hoi, _⟩ := id hit
  obtain ⟨ol, hol, _⟩ := id hl
  have hSi : s.heap.objs.size ≠ it := Nat.ne_of_gt (Heap.lt_size hoi)
  have hSl : s.heap.objs.size ≠ l := Nat.ne_of_gt (Heap.lt_size hol)
  have hS : (s.heap.push { cls := .type "list", data := .seq #[] }).get? s.heap.objs.size = some { cls := .type "list", data := .seq #[] } := Heap.get?_push_size _ rfl
  refine ⟨⟨_, hS, rfl⟩, PySem.F.args_list_init_2 _ _, ?_⟩
  show wpAny _ _ (do let old ← Builtin.List.listItems (.ref s.heap.objs.size); Builtin.List.listUpdate (.ref s.heap.objs.size) (fun _ => #[]); letGo old.toList.reverse; Builtin.List.listExtendWith (.ref s.heap.objs.size) (.ref it) .none) _ _ _
  refine wpAny_bind ?_
  unfold Builtin.List.listItems
  refine wpAny_bind (wpAny_seqItems hS rfl (wpAny_pure ?_))
  show wpAny _ _ (updateSeq s.heap.objs.size (fun _ => #[]) >>= fun _ => letGo (#[] : Array Value).toList.reverse >>= fun _ => Builtin.List.listExtendWith (.ref s.heap.objs.size) (.ref it) .none) _ _ _
  refine wpAny_bind (wpAny_updateSeq hS rfl ?_)
  have hS₂ := Heap.get?_update_self (Obj.mapSeq (fun _ => (#[] : Array Value))) hS rfl
  have oth : ∀ b o, b ≠ s.heap.objs.size → (s.heap.push { cls := .type "list", data := .seq #[] }).get? b = some o → ((s.heap.push { cls := .type "list", data := .seq #[] }).update s.heap.objs.size (Obj.mapSeq (fun _ => (#[] : Array Value)))).get? b = some o :=
    fun b o hb e => (Heap.get?_update_other _ _ (Ne.symm hb)).trans e
  have oth2 : ∀ b o, s.heap.get? b = some o → ((s.heap.push { cls := .type "list", data := .seq #[] }).update s.heap.objs.size (Obj.mapSeq (fun _ => (#[] : Array Value)))).get? b = some o :=
    fun b o e => oth b o (Nat.ne_of_lt (Heap.lt_size e)) (Heap.get?_push_of_some _ e)
  refine wpAny_bind (wpAny_letGo ?_)
  refine lrev_extend (A := A.in1) (s := { s with heap := (s.heap.push { cls := .type "list", data := .seq #[] }).update s.heap.objs.size (Obj.mapSeq (fun _ => (#[] : Array Value))) }) hh (hit.at fun o e => oth2 _ _ e) ?_ hSi hSl hne hn hS₂ (fun h' tk acc c' hk hS' hacc => ?_)
  · obtain ⟨o, ho, h2⟩ := hl
    exact ⟨o, oth2 _ _ ho, h2⟩
  · exact ⟨rfl, hQ h' tk acc c' (fun b o hb e => hk b o hb (Nat.ne_of_lt (Heap.lt_size e)) (oth2 b o e)) hS' hacc⟩
end
section
variable {X : Cx} {pos : Pos} {e : Expr} {te : TE} {p q : ED}
def tListRev (K : PySem.W.Frag) (te : TE) : TE := fun σ H Q => te σ H fun v H1 => ∃ (a : Addr) (xs : List V), v = .ref a ∧ SqL K H1 a xs ∧ ∀ q, H1 q = none → Q (.ref q) (upd H1 q (.lst xs.reverse))
theorem pe_listRev {p p2 pos pos2 : Pos} (hc : X.calm = true) (hg : Gl X "list") (hm : X.mg "list" = none) (hg2 : Gl X "reversed") (hm2 : X.mg "reversed" = none) (he : PE X e te)
    (hs : starEach [e] X.env = (false, eval e X.env) :: starEach [] X.env := by rfl)
    (hs2 : starEach [.Call (.Name "reversed" p2) [e] [] pos2] X.env = (false, eval (.Call (.Name "reversed" p2) [e] [] pos2) X.env) :: starEach [] X.env := by rfl) :
    PE X (.Call (.Name "list" p) [.Call (.Name "reversed" p2) [e] [] pos2] [] pos) (tListRev X.K te) := by
  refine ⟨fun pins s σ H Q I h => ?_⟩
  refine Call_ (ld_blt I hg hm (show bootBuiltins "list" = some (.type "list") by decide +kernel) (PyProof.Rows.callWith_type1 (args_cons (Call_ (ld_blt I hg2 hm2 PyProof.Rows.boot_reversed (PyProof.Rows.callWith_type1 (args_cons (thn (he.run pins s σ H _ I h) fun u s1 ⟨v, H1, I1, r1, q1⟩ => args_nil ?_) hs) hs rfl))) hs2) hs2 rfl))
  obtain ⟨a, xs, ev, hq, q⟩ := q1
  subst ev
  obtain rfl : u = Value.ref a := r1
  obtain ⟨its, rv, p', hz⟩ := I1.list hq
  refine call_reversed_list p'.isList (args_nil ?_)
  have k0 : ∀ b o, s1.heap.get? b = some o → (s1.heap.push (revObj a ((its.toArray.size : Int) - 1))).get? b = some o := fun b o e => Heap.get?_push_of_some _ e
  have I2 : Inv X pins σ H1 { s1 with heap := s1.heap.push (revObj a ((its.toArray.size : Int) - 1)) } := I1.kept (t' := s1.toks) k0
  obtain ⟨f0, f1, f2, f3, f4, f5⟩ := I1.fpOk (H' := H1) (b := s1.heap.objs.size) (Nat.le_refl _) (I1.hok.fresh (Nat.le_refl _))
  have hl := p'.isList
  obtain ⟨ol, hol, _⟩ := id hl
  have hne : a ≠ s1.heap.objs.size := Nat.ne_of_lt (Heap.lt_size hol)
  have hn : its.toArray.size ≤ sizeLine := by rw [List.size_toArray, ← rv.length]; exact hz
  refine lrev_call (s := { s1 with heap := s1.heap.push (revObj a ((its.toArray.size : Int) - 1)) }) (I1.ok.hd hc) ⟨_, Heap.get?_push_size _ rfl, rfl, rfl⟩ (hl.push _) hne hn fun h' tk acc c' hk hS hi => ?_
  have hfp : ∀ b ∈ [s1.heap.objs.size], FpOk X pins H1 b := fun b hb => by
    rw [List.mem_singleton.mp hb]
    exact ⟨f0, f1, f2, f3, f4, f5⟩
  have hnew : ObjOk X.prog X.w (upd H1 (s1.heap.push (revObj a ((its.toArray.size : Int) - 1))).objs.size (.lst xs.reverse)) h' (s1.heap.push (revObj a ((its.toArray.size : Int) - 1))).objs.size (.lst xs.reverse) := by
    refine ⟨by rw [List.length_reverse]; exact hz, acc.toList, c', vals_rev rv hi, ?_⟩
    rw [Array.toArray_toList]
    exact hS
  refine ⟨.ref (s1.heap.push (revObj a ((its.toArray.size : Int) - 1))).objs.size, _, I2.turnedNew (t' := tk) (ch := [s1.heap.objs.size]) (fun b o hb e => hk b o (fun z => hb (by rw [z]; exact List.mem_singleton.mpr rfl)) e) hfp (Nat.le_refl _) hnew, rfl, q _ (I2.hok.fresh (Nat.le_refl _))⟩
def hListRev (p : ED) : EA := fun ρ k => p ρ fun x => ∃ xs, x = .lst xs ∧ k xs.reverse
theorem pl_listrev {p1 p2 pos2 : Pos} (hc : X.calm = true) (hg : Gl X "list") (hm : X.mg "list" = none) (hg2 : Gl X "reversed") (hm2 : X.mg "reversed" = none) (h : PD X e te p)
    (hs : starEach [e] X.env = (false, eval e X.env) :: starEach [] X.env := by rfl)
    (hs2 : starEach [.Call (.Name "reversed" p2) [e] [] pos2] X.env = (false, eval (.Call (.Name "reversed" p2) [e] [] pos2) X.env) :: starEach [] X.env := by rfl) :
    PL X (.Call (.Name "list" p1) [.Call (.Name "reversed" p2) [e] [] pos2] [] pos) (tListRev X.K te) (hListRev p) :=
  ⟨pe_listRev hc hg hm hg2 hm2 h.run hs hs2, fun F0 H0 F H ρ σ k Q ok hp hq => h.ev F0 H0 F H ρ σ _ _ ok hp fun x v F1 H1 g r1 ⟨xs, ex, hk⟩ => by
    subst ex
    obtain ⟨l, vs, e1, e2, e3⟩ := r1
    exact ⟨l, vs, e1, SqL.of (g.fh _ _ e2), fun c hc => hq _ c _ F1 _ (g.trans (Gr.made g.fh hc)) (fresh_back g.eH hc) (fresh_back g.fh hc) upd_same (RpL.reverse e3) hk⟩⟩
end
end DL
/-! {k: v}, k a tuple of ints. -/
namespace DL
open PySem PySem.Spec PyProof.Rows L2 Evl
def tDisp1T (tk tv : TE) : TE := fun σ H Q => ∀ p, H p = none → tPairs [(tk, tv)] σ (upd H p (.dT [])) fun ps H2 => H2 p = some (.dT []) ∧ ∃ (k : List Key) (b : Addr) (y : V), ps = [(.ref b, y)] ∧ H2 b = some (.tup (k.map kV)) ∧ Q (.ref p) (upd H2 p (.dT [(k, y)]))
theorem pe_disp1T {X : Cx} {pos : Pos} {k v : Expr} {tk tv : TE} (hu : X.A.units + 1 < cLine) (hk : PE X k tk) (hv : PE X v tv) : PE X (.Dict [some k] [v] pos) (tDisp1T tk tv) := by
  refine ⟨fun pins s σ H Q I q => ?_⟩
  have hn := I.hok.fresh (Nat.le_refl s.heap.objs.size)
  have I1 := I.laid (a := s.heap.objs.size) (o := .dT []) (h' := s.heap.push { cls := .type "dict", data := .dict #[] }) (t' := s.toks) (fun _ _ q => Heap.get?_push_of_some _ q) (Nat.le_refl _) (dt_empty s.heap I.big)
  rw [arm_eval_Dict, zip_pairTrees [some k] [v] X.env pos rfl rfl, dictDisplay_pairs (pairTrees [some k] [v] X.env pos) (by simp [pairTrees]) (by simp [pairTrees])]
  refine wpAny_bind (wpAny_standAt (wpAny_bind ?_))
  unfold subDict
  refine wpAny_bind (wpAny_alloc ?_)
  refine wpAny_bind (wpAny_holding ?_)
  rw [if_pos (by simp [pairTrees])]
  refine wpAny_bind (thn ((pps_cons (pos := pos) hk hv pps_nil).run pins _ σ _ _ I1 (q _ hn)) fun ws s2 ⟨ps, H2, I2, rel, e, kk, b, y, ep, eb, q2⟩ => ?_)
  subst ep
  cases rel with
  | @cons p1 p2 as bs h t =>
  cases t
  obtain ⟨r1, r2⟩ := h
  obtain ⟨kv, vv⟩ := p2
  obtain rfl : kv = Value.ref b := r1
  refine wpAny_holding ?_
  obtain ⟨z, hd, xs, rx, dd⟩ := dt_of I2.hok e
  have hz : xs.length ≤ sizeLine := by rw [← Paired.length rx]; exact Nat.zero_le _
  refine wpAny_bind ?_
  rw [List.forIn_cons]
  refine wpAny_bind (wpAny_bind (wpAny_dictSet_heap (hsz := hz) (Nat.lt_of_succ_lt hu) (key_of I2.hok eb) dd fun h' dd' hs => wpAny_pure ?_))
  dsimp only
  rw [List.forIn_nil]
  refine wpAny_pure (wpAny_pure ?_)
  refine wpAny_pure ?_
  refine wpAny_pure ?_
  obtain ⟨q, es, ep, hq, h2, h3, h4, _, h5⟩ := dd'
  refine ⟨.ref s.heap.objs.size, _, ?_, rfl, q2⟩
  refine d_write I2 (by rw [e]; exact True.intro) hs ⟨q, hq⟩ ⟨?_, hd, _, (rx.put kk eb r2).keeps fun c ys ec => ?_, q, es, ep, hq, h2, h3, h4, h5⟩
  · exact small_len (n := 1) (by decide)
  · rw [upd_ne (ne_of ec e (fun z => nomatch z))]
    exact ec
/-- x = {k: v} -/
def sOwnD1 (i : Nat) (pk pv : ED) : TSD := fun D ρ => pk ρ fun y => pv ρ fun d => ∃ kk, isKey y kk ∧ D.nx (ρ.set i (some (.od [kk] [d])))
theorem psd_ownD1 {X : Cx} {pos : Pos} {k v : Expr} {tk tv : TE} {pk pv : ED} {i : Nat} {x : Str} {pos' p2 : Pos} (hu : X.A.units + 1 < cLine) (hN : X.N.Nodup) (hi : X.N[i]? = some x) (hx : Loc X.env.scope x) (hk : PD X k tk pk) (hv : PD X v tv pv)
    (hs : swapsWith (.Dict [some k] [v] p2) (some (.Name x pos')) pos.line X.env = pure false := by rfl) (hf : X.fn x = true ∨ X.env.scope.names.lookup x = some .local := by first | exact .inl rfl | exact .inr rfl | assumption) :
    PSd X (.Assign [.Name x pos'] (.Dict [some k] [v] p2) pos) (tAsg (tDisp1T tk tv) (gName i)) (sOwnD1 i pk pv) :=
  ⟨ps_set hN hi hx (pe_disp1T hu hk.run hv.run) hs hf, fun F0 H0 F H ρ σ D E ok L hp a ha => by
    have g1 : Gr F H F (upd H a (.dT [])) := ⟨Ex.refl F, Ex.new ha, fun b o h => by
      rw [upd_ne (fun z => by rw [z] at h; rw [ok.fh _ _ h] at ha; cases ha)]
      exact ok.fh b o h, fun b o h => .inl h⟩
    refine hk.ev F0 H0 F _ ρ σ _ _ (ok.gr g1) hp fun y w F1 H1 g2 r1 hp1 => hv.ev F0 H0 F1 H1 ρ σ _ _ (ok.gr (g1.trans g2)) hp1 fun d u F2 H2 g3 r2 ⟨kk, ey, hk⟩ => ?_
    subst ey
    have g := g1.trans (g2.trans g3)
    have hFa : F a = none := fresh_back ok.fh ha
    obtain ⟨m1, m2⟩ := (g2.trans g3).out hFa upd_same
    obtain ⟨b, e1, e2⟩ := key_at g3.fh (Rp.mono g3.eF _ r1)
    subst e1
    refine ⟨m2, kL kk, b, u, rfl, e2, ?_⟩
    have okm : Ok F0 H0 F2 H2 ρ σ := ok.gr g
    have h0 : H0 a = none := fresh_back ok.eH ha
    have okm' : Ok F0 H0 F2 (upd H2 a (.dT [(kL kk, u)])) ρ σ := by
      refine ⟨okm.len, Ex.mut okm.eH h0, okm.eF, Ex.mut okm.fh m1, okm.new, fun j s h => ?_, okm.inj⟩
      refine (okm.slot j s h).move (Ex.refl F2) fun b u' hb ho hF hH _ => ⟨hF, ?_⟩
      have : b ≠ a := fun z => by
        subst z
        obtain ⟨c, u2, q1, _, _, q4, _⟩ := (ok.slot j s h).addr ho
        rw [hb] at q1
        cases q1
        rw [ha] at q4
        cases q4
      rw [upd_ne this]
      exact hH
    exact L.nx F2 _ _ _ (ok.setOwn (s := .od [kk] [d]) okm' ha ⟨a, [(kL kk, u)], rfl, m1, h0, upd_same, rfl, RpL.one r2⟩ i) hk⟩
end DL
namespace G
open PySem PySem.Spec PyProof.Rows L2 DL M
section
variable {P : Program} {w : World} {K : PySem.W.Frag} {mg : Str → Option Value} {base : Heap}
def rowT (P Q : List Pt) (x : Nat) : List Dat := (List.range Q.length).map fun y => fr (ap (gp P x) (gp Q y))
def tabl (P Q : List Pt) : Dat := .lst ((List.range P.length).map fun x => .lst (rowT P Q x))
theorem pq_nat {l : List Pt} {n : Nat} (h : n < l.length) : PlQ l (((n : Nat) : Int) : Rat) := ⟨by have := Rat.intCast_le_intCast.mpr (show (0 : Int) ≤ (n : Int) by omega); simpa using this, Rat.intCast_le_intCast.mpr (by omega)⟩
theorem fz_nat {n : Nat} (h : n < 1000) : Fz 20 (((n : Nat) : Int) : Rat) := Fz.ofInt (szn (by omega) (by decide)) (by decide)
theorem enum_get {ds : List Dat} {i : Nat} {d : Dat} (h : (enumD ds)[i]? = some d) : ∃ e, ds[i]? = some e ∧ d = .tup [.int (i : Nat), e] := by
  unfold enumD at h
  rw [List.getElem?_mapIdx] at h
  cases e : ds[i]? with
  | none => rw [e] at h; cases h
  | some x => rw [e] at h; exact ⟨x, rfl, (Option.some.inj h).symm⟩
theorem map_get {α : Type} {f : Nat → α} {n i : Nat} {d : α} (h : ((List.range n).map f)[i]? = some d) : i < n ∧ d = f i := by
  rw [List.getElem?_map] at h
  by_cases hi : i < n
  · rw [List.getElem?_range hi] at h
    exact ⟨hi, (Option.some.inj h).symm⟩
  · rw [List.getElem?_eq_none (by simpa using hi)] at h
    cases h
theorem getK_updK (k k' : List Int) (d : Dat) : ∀ (ks : List (List Int)) (ds : List Dat), getK ks (updK ks ds k d) k' = if k = k' then (getK ks ds k).map (fun _ => d) else getK ks ds k'
  | [], ds => by simp [getK]
  | a :: ks, [] => by simp [getK, updK]
  | a :: ks, e :: ds => by
    have ih := getK_updK k k' d ks ds
    by_cases h1 : a = k
    · subst h1
      by_cases h2 : a = k'
      · subst h2
        simp [getK, updK]
      · simp [getK, updK, h2] at ih ⊢
        exact ih
    · by_cases h2 : a = k'
      · subst h2
        have h3 : ¬ k = a := fun z => h1 z.symm
        simp [getK, updK, h1, h3]
      · by_cases h3 : k = k'
        · subst h3
          simp [getK, updK, h1] at ih ⊢
          exact ih
        · simp [getK, updK, h1, h2, h3] at ih ⊢
          exact ih
theorem getK_app (k k' : List Int) (d : Dat) : ∀ (ks : List (List Int)) (ds : List Dat), ks.length = ds.length → getK (ks ++ [k]) (ds ++ [d]) k' = (getK ks ds k').or (if k = k' then some d else none)
  | [], [], _ => by simp [getK]
  | [], _ :: _, h => by simp at h
  | _ :: _, [], h => by simp at h
  | a :: ks, e :: ds, h => by
    simp at h
    have ih := getK_app k k' d ks ds h
    by_cases h1 : a = k'
    · simp [getK, h1]
    · simp [getK, h1, ih]
theorem getK_put (k k' : List Int) (d : Dat) {ks : List (List Int)} {ds : List Dat} (hl : ks.length = ds.length) : getK (putKs ks ds k) (putVs ks ds k d) k' = if k = k' then some d else getK ks ds k' := by
  unfold putKs putVs
  split
  · rename_i h
    rw [getK_updK]
    obtain ⟨v, hv⟩ := Option.isSome_iff_exists.mp h
    rw [hv]
    rfl
  · rename_i h
    rw [getK_app _ _ _ _ _ hl]
    by_cases h2 : k = k'
    · subst h2
      have : getK ks ds k = none := by simpa using h
      simp [this]
    · simp [h2]
theorem updK_len (k : List Int) (d : Dat) : ∀ (ks : List (List Int)) (ds : List Dat), ks.length = ds.length → (updK ks ds k d).length = ks.length
  | [], [], _ => rfl
  | [], _ :: _, h => by simp at h
  | _ :: _, [], h => by simp at h
  | a :: ks, e :: ds, h => by
    simp at h
    simp [updK, updK_len k d ks ds h]
theorem put_len {k : List Int} {d : Dat} {ks : List (List Int)} {ds : List Dat} (hl : ks.length = ds.length) : (putKs ks ds k).length = (putVs ks ds k d).length := by
  unfold putKs putVs
  split
  · exact (updK_len k d ks ds hl).symm
  · simp [hl]
def t_squares_of : Tr := fun ds k => ∃ (one other : List Pt), ds = [ln one, ln other] ∧ Lz one ∧ Lz other ∧ k (tabl one other)
theorem len_squares_of : ∀ ds k, t_squares_of ds k → ds.length = 2 := by
  rintro ds k ⟨_, _, rfl, _⟩
  rfl
abbrev nm_squares_of : List Str := ["one", "other", "table", "x", "y"]
theorem sc_squares_of : FnScope nm_squares_of ["one", "other"] (defScope s_squares_of) := ⟨rfl, rfl, rfl, by decide +kernel, rfl, by decide +kernel, by decide +kernel⟩
theorem k_squares_of (T : Txt K mg) : Kept P w K mg base "squares_of" ["one", "other"] [] 7 t_squares_of := by
  obtain ⟨fd, F⟩ := T.says.def_ 74 (d := d_squares_of) rfl
  refine kept_of (N := nm_squares_of) (body := defBody s_squares_of) (scope := defScope s_squares_of) (params := defArgs s_squares_of) F (g_squares_of T) sc_squares_of len_squares_of (fun _ _ _ _ _ _ us hl => match us, hl with | [_, _], _ => rfl) (fun cdv A outer s H E hr => ⟨_, _,
      (pbd_cons (psd_own (i := 2) sc_squares_of.nd rfl (by first | exact .inl rfl | exact .inr rfl) (pl_lst pda_nil))
      (pbd_cons (psd_for PassesOwn.never rfl (pid_range1 (by rfl) (f_range T) (pda_cons (pd_bi call_len_seq rc_len (by rfl) (f_len T) PySem.boot_len (pda_cons (pdv 0) pda_nil)) pda_nil)) (pgd_name (i := 3) sc_squares_of.nd rfl (by first | exact .inl rfl | exact .inr rfl))
      (pbd_one (let ae := (pd_sh (pl_lc (own := [("y", 4)]) rfl sc_squares_of.nd (pid_range1 (by rfl) (f_range T) (pda_cons (pd_bi call_len_seq rc_len (by rfl) (f_len T) PySem.boot_len (pda_cons (pdv 1) pda_nil)) pda_nil)) (blkOk_by (N := nm_squares_of) (sc := defScope s_squares_of) (by decide +kernel)) (fun _ _ _ _ _ => (pgd_name (i := 4) sc_squares_of.nd rfl (by first | exact .inl rfl | exact .inr rfl))) (fun _ _ _ _ _ => pdts_nil) (fun _ _ _ _ _ => (pd_call (k_square_of T) (hr.mono (by decide)) (by rfl) (pda_cons (pdv 0) (pda_cons (pd_tup (pda_cons (pdv 3) (pda_cons pd_int pda_nil))) (pda_cons (pdv 1) (pda_cons (pd_tup (pda_cons (pdv 4) (pda_cons pd_int pda_nil))) pda_nil)))))))); psd_app (i := 2) rfl (by first | exact .inl rfl | exact .inr (.inl rfl)) ae (pe_bm PySem.F.plainAttrs_list PySem.F.slot_list_append PySem.F.type_list_append mt_append (pv 2) (pa_cons ae.run pa_nil)))))
      (pbd_one (psd_frz 2 (psd_ret (pdv 2)))))), ?_⟩)
  rintro ds k ⟨one, other, rfl, z1, z2, hk⟩
  have w1 := z1.2.1
  have w2 := z2.2.1
  refine ⟨Nat.zero_le _, _, rfl, _, .inl rfl, _, rfl, by rw [List.length_map]; omega, fun m ρ => ∃ a b, ρ = [some (.sh (ln one)), some (.sh (ln other)), some (.ol ((List.range m).map fun x => .lst (rowT one other x))), a, b], ⟨_, _, rfl⟩, ?_, ?_⟩
  · rintro m d ρ hm ⟨a, b, rfl⟩
    obtain ⟨h3, rfl⟩ := rng0_get hm
    rw [List.length_map] at h3
    refine ⟨_, rfl, by simp; omega, _, rfl, _, .inl rfl, _, rfl, by rw [List.length_map]; omega, fun n acc => acc = (List.range n).map fun y => fr (ap (gp one m) (gp other y)), rfl, ?_, ?_⟩
    · rintro n d acc hn rfl
      obtain ⟨h4, rfl⟩ := rng0_get hn
      rw [List.length_map] at h4
      refine ⟨_, rfl, _, rfl, tl2, _, rfl, _, rfl, tl2, one, other, ((m : Int) : Rat), ((n : Int) : Rat), rfl, z1, z2, pq_nat h3, pq_nat h4, (fz_nat (by omega)).mono (by decide), (fz_nat (by omega)).mono (by decide), ?_⟩
      rw [poi_int, poi_int, sqb_ap]
      exact ⟨by simp; omega, acc_succ n⟩
    · rintro acc rfl
      rw [rng_len, List.length_map]
      have e := acc_succ (f := fun x => Dat.lst (rowT one other x)) m
      exact ⟨some (.sh (.int (m : Int))), b, by rw [← e]; rfl⟩
  · rintro ρ ⟨a, b, rfl⟩
    refine .inl ⟨_, rfl, _, rfl, ?_⟩
    rw [rng_len, List.length_map]
    exact hk
end
end G
namespace G
open PySem PySem.Spec PyProof.Rows L2 DL M
section
variable {P : Program} {w : World} {K : PySem.W.Frag} {mg : Str → Option Value} {base : Heap}
def ChOk (rank : List Int → Nat) (ks : List (List Int)) (ds : List Dat) : Prop := ks.length = ds.length ∧ ∀ k d, getK ks ds k = some d → (∃ a b : Int, k = [a, b]) ∧ (d = .non ∨ ∃ k', d = keyT k' ∧ (getK ks ds k').isSome = true ∧ rank k' < rank k)
theorem ChOk.put {rank : List Int → Nat} {ks : List (List Int)} {ds : List Dat} (h : ChOk rank ks ds) {a b : Int} {d : Dat} (hd : d = .non ∨ ∃ k', d = keyT k' ∧ (getK ks ds k').isSome = true ∧ rank k' < rank [a, b]) : ChOk rank (putKs ks ds [a, b]) (putVs ks ds [a, b] d) := by
  obtain ⟨h1, h2⟩ := h
  have keep : ∀ k', (getK ks ds k').isSome = true → (getK (putKs ks ds [a, b]) (putVs ks ds [a, b] d) k').isSome = true := fun k' hk => by
    rw [getK_put _ _ _ h1]
    split
    · rfl
    · exact hk
  refine ⟨put_len h1, fun k e he => ?_⟩
  rw [getK_put _ _ _ h1] at he
  split at he
  · rename_i hk
    cases he
    subst hk
    refine ⟨⟨a, b, rfl⟩, hd.imp id ?_⟩
    rintro ⟨k', q1, q2, q3⟩
    exact ⟨k', q1, keep k' q2, q3⟩
  · obtain ⟨q1, q2⟩ := h2 k e he
    refine ⟨q1, q2.imp id ?_⟩
    rintro ⟨k', q1, q2, q3⟩
    exact ⟨k', q1, keep k' q2, q3⟩
def t_traced : Tr := fun ds k => ∃ (rank : List Int → Nat) (ks : List (List Int)) (vs : List Dat) (kk : List Int), ds = [.dct ks vs, keyT kk] ∧ ChOk rank ks vs ∧ (getK ks vs kk).isSome = true ∧ rank kk ≤ 10000 ∧ ∀ xs, k (.lst xs)
theorem len_traced : ∀ ds k, t_traced ds k → ds.length = 2 := by
  rintro ds k ⟨_, _, _, _, rfl, _⟩
  rfl
abbrev nm_traced : List Str := ["ahead", "pair", "found"]
theorem sc_traced : FnScope nm_traced ["ahead", "pair"] (defScope s_traced) := ⟨rfl, rfl, rfl, by decide +kernel, rfl, by decide +kernel, by decide +kernel⟩
theorem k_traced (T : Txt K mg) : Kept P w K mg base "traced" ["ahead", "pair"] [] 1 t_traced := by
  obtain ⟨fd, F⟩ := T.says.def_ 76 (d := d_traced) rfl
  refine kept_of (N := nm_traced) (body := defBody s_traced) (scope := defScope s_traced) (params := defArgs s_traced) F (g_traced T) sc_traced len_traced (fun _ _ _ _ _ _ us hl => match us, hl with | [_, _], _ => rfl) (fun cdv A outer s H E hr => ⟨_, _,
      (pbd_cons (psd_own (i := 2) sc_traced.nd rfl (by first | exact .inl rfl | exact .inr rfl) (pl_lst pda_nil))
      (pbd_cons (psd_while PassesOwn.never (pdt_cmp op_notN r2_notN (pdv 1) pd_non)
      (pbd_cons (let ae := (pd_tup (pda_cons (pd_tup (pda_cons (pd_ixK (K := K) rfl (pdv 1) pd_int) (pda_cons pd_int pda_nil))) (pda_cons (pd_tup (pda_cons (pd_ixK (K := K) rfl (pdv 1) pd_int) (pda_cons pd_int pda_nil))) pda_nil))); psd_app (i := 2) rfl (by first | exact .inl rfl | exact .inr (.inl rfl)) ae (pe_bm PySem.F.plainAttrs_list PySem.F.slot_list_append PySem.F.type_list_append mt_append (pv 2) (pa_cons ae.run pa_nil)))
      (pbd_one (psd_set (i := 1) sc_traced.nd rfl (by first | exact .inl rfl | exact .inr rfl) (pd_dget (hu_of hr) (pdv 0) (pdv 1))))))
      (pbd_one (psd_frz 2 (psd_ret (pd_sh (pl_listrev rfl (by rfl) (f_list T) (by rfl) (f_reversed T) (pdv 2)))))))), ?_⟩)
  rintro ds k ⟨rank, ks, vs, kk, rfl, hc, hs, hr, hk⟩
  refine ⟨Nat.zero_le _, fun m ρ => ∃ (g : Dat) (xs : List Dat), ρ = [some (.sh (.dct ks vs)), some (.sh g), some (.ol xs)] ∧ xs.length + m ≤ rank kk + 1 ∧ ((g = .non ∧ m = 0) ∨ ∃ k', g = keyT k' ∧ m = rank k' + 1 ∧ (getK ks vs k').isSome = true), ⟨rank kk + 1, _, [], rfl, by simp, .inr ⟨kk, rfl, rfl, hs⟩⟩, ?_⟩
  rintro m ρ ⟨g, xs, rfl, hl, hg⟩
  refine ⟨_, rfl, rfl, _, rfl, ?_⟩
  rcases hg with ⟨rfl, rfl⟩ | ⟨k', rfl, rfl, hs'⟩
  · refine iteF (.inl ⟨_, rfl, _, rfl, _, rfl, ?_⟩)
    exact hk _
  · refine iteT ?_
    obtain ⟨d, hd⟩ := Option.isSome_iff_exists.mp hs'
    obtain ⟨⟨a, b, rfl⟩, hd2⟩ := hc.2 _ _ hd
    refine ⟨_, rfl, by omega, _, rfl, _, _, _, rfl, rfl, rfl, tl2, _, rfl, _, _, _, rfl, rfl, rfl, tl2, tl2, ?_⟩
    refine ⟨_, rfl, _, _, rfl, _, rfl, _, _, rfl, hd, ?_⟩
    rcases hd2 with rfl | ⟨k2, rfl, q2, q3⟩
    · exact ⟨0, by omega, _, _, rfl, by simp; omega, .inl ⟨rfl, rfl⟩⟩
    · exact ⟨rank k2 + 1, by omega, _, _, rfl, by simp; omega, .inr ⟨k2, rfl, rfl, q2⟩⟩
def t_may_follow : Tr := fun ds k => ∃ a b c d : Int, ds = [.tup [.int a, .int b], .tup [.int c, .int d]] ∧ ∀ x, k (.bl x)
theorem len_may_follow : ∀ ds k, t_may_follow ds k → ds.length = 2 := by
  rintro ds k ⟨_, _, _, _, rfl, _⟩
  rfl
abbrev nm_may_follow : List Str := ["pair", "later", "further", "higher"]
theorem sc_may_follow : FnScope nm_may_follow ["pair", "later"] (defScope s_may_follow) := ⟨rfl, rfl, rfl, by decide +kernel, rfl, by decide +kernel, by decide +kernel⟩
theorem k_may_follow (T : Txt K mg) : Kept P w K mg base "may_follow" ["pair", "later"] [] 1 t_may_follow := by
  obtain ⟨fd, F⟩ := T.says.def_ 78 (d := d_may_follow) rfl
  refine kept_of (N := nm_may_follow) (body := defBody s_may_follow) (scope := defScope s_may_follow) (params := defArgs s_may_follow) F (g_may_follow T) sc_may_follow len_may_follow (fun _ _ _ _ _ _ us hl => match us, hl with | [_, _], _ => rfl) (fun cdv A outer s H E hr => ⟨_, _,
      (pbd_cons (psd_set (i := 2) sc_may_follow.nd rfl (by first | exact .inl rfl | exact .inr rfl) (pd_op op_sub r2_I (pd_ixK (K := K) rfl (pdv 1) pd_int) (pd_ixK (K := K) rfl (pdv 0) pd_int)))
      (pbd_cons (psd_set (i := 3) sc_may_follow.nd rfl (by first | exact .inl rfl | exact .inr rfl) (pd_op op_sub r2_I (pd_ixK (K := K) rfl (pdv 1) pd_int) (pd_ixK (K := K) rfl (pdv 0) pd_int)))
      (pbd_one (psd_ret (pd_or (pd_and (pd_cmp op_le r2_B (pdv 2) pd_int) (pd_one (pd_cmp op_ge r2_B (pdv 3) (pd_un un_neg ru_I pd_int)))) (pd_one (pd_and (pd_cmp op_le r2_B (pdv 2) pd_int) (pd_one (pd_cmp op_ge r2_B (pdv 3) pd_int))))))))), ?_⟩)
  rintro ds k ⟨a, b, c, d, rfl, hk⟩
  refine ⟨_, rfl, _, _, _, rfl, rfl, rfl, _, rfl, _, _, _, rfl, rfl, rfl, _, _, rfl, rfl, ?_⟩
  refine ⟨_, rfl, _, _, _, rfl, rfl, rfl, _, rfl, _, _, _, rfl, rfl, rfl, _, _, rfl, rfl, ?_⟩
  refine ⟨_, rfl, _, _, rfl, rfl, _, rfl, ?_⟩
  refine ite2 (fun _ => ?_) (fun _ => ?_)
  · refine ⟨_, rfl, _, rfl, _, _, rfl, rfl, _, rfl, ?_⟩
    refine ite2 (fun _ => hk _) (fun _ => ?_)
    refine ⟨_, rfl, _, _, rfl, rfl, _, rfl, ?_⟩
    refine ite2 (fun _ => ?_) (fun _ => hk _)
    exact ⟨_, rfl, _, _, rfl, rfl, hk _⟩
  · refine ⟨_, rfl, ?_⟩
    refine iteF ?_
    refine ⟨_, rfl, _, _, rfl, rfl, _, rfl, ?_⟩
    refine ite2 (fun _ => ?_) (fun _ => hk _)
    exact ⟨_, rfl, _, _, rfl, rfl, hk _⟩
end
end G
namespace G
open PySem PySem.Spec PyProof.Rows L2 DL M
section
variable {P : Program} {w : World} {K : PySem.W.Frag} {mg : Str → Option Value} {base : Heap}
def rk2 (k : List Int) : Nat := match k with
  | [a, b] => (a + b).toNat
  | _ => 0
def hEnv (P Q : List Pt) (s : Rat) (ks : List (List Int)) (vs : List Dat) (t : EnvD) : EnvD := [some (.sh (tabl P Q)), some (.sh (fr s)), some (.od ks vs)] ++ t
/-- the keys that stand: what is reached among what was looked at -/
def KeysOk (T : Rat → Bool) (P Q : List Pt) (ks : List (List Int)) (vs : List Dat) (D : Nat → Nat → Prop) : Prop := ∀ a b : Int, (getK ks vs [a, b]).isSome = true ↔ ∃ x y : Nat, a = x ∧ b = y ∧ D x y ∧ x < P.length ∧ y < Q.length ∧ hr T P Q x y = true
def Dn (x y : Nat) : Nat → Nat → Prop := fun x' y' => x' < x ∨ (x' = x ∧ y' < y) ∨ (x' = 0 ∧ y' = 0)
theorem hr_step {T : Rat → Bool} {P Q : List Pt} (x y : Nat) (h : ¬ (x = 0 ∧ y = 0)) : hr T P Q x y = (T (ap (gp P x) (gp Q y)) && (((decide (0 < x) && decide (0 < y)) && hr T P Q (x - 1) (y - 1)) || (decide (0 < x) && hr T P Q (x - 1) y) || (decide (0 < y) && hr T P Q x (y - 1)))) := by
  cases x with
  | zero =>
    cases y with
    | zero => exact absurd ⟨rfl, rfl⟩ h
    | succ y => simp [hr]
  | succ x =>
    cases y with
    | zero => simp [hr]
    | succ y => simp [hr]
theorem hr_zero {s : Rat} {P Q : List Pt} : hr (tS s) P Q 0 0 = !decide (s < ap (gp P 0) (gp Q 0)) := by
  unfold hr tS
  rfl
def prs (x y : Nat) : List (Int × Int) := [((x : Int) - 1, (y : Int) - 1), ((x : Int) - 1, (y : Int)), ((x : Int), (y : Int) - 1)]
theorem KeysOk.mono {T : Rat → Bool} {P Q : List Pt} {ks : List (List Int)} {vs : List Dat} {D D' : Nat → Nat → Prop} (h : KeysOk T P Q ks vs D) (hD : ∀ x y, x < P.length → y < Q.length → (D x y ↔ D' x y)) : KeysOk T P Q ks vs D' := fun a b => by
  rw [h a b]
  constructor
  · rintro ⟨x, y, e1, e2, d, h1, h2, h3⟩
    exact ⟨x, y, e1, e2, (hD x y h1 h2).mp d, h1, h2, h3⟩
  · rintro ⟨x, y, e1, e2, d, h1, h2, h3⟩
    exact ⟨x, y, e1, e2, (hD x y h1 h2).mpr d, h1, h2, h3⟩
theorem KeysOk.nat {T : Rat → Bool} {P Q : List Pt} {ks : List (List Int)} {vs : List Dat} {D : Nat → Nat → Prop} (h : KeysOk T P Q ks vs D) {x y : Nat} (hx : x < P.length) (hy : y < Q.length) : (getK ks vs [(x : Int), (y : Int)]).isSome = true ↔ D x y ∧ hr T P Q x y = true := by
  rw [h]
  constructor
  · rintro ⟨x', y', e1, e2, d, _, _, h3⟩
    obtain rfl : x = x' := by omega
    obtain rfl : y = y' := by omega
    exact ⟨d, h3⟩
  · rintro ⟨d, h3⟩
    exact ⟨x, y, rfl, rfl, d, hx, hy, h3⟩
theorem KeysOk.neg {T : Rat → Bool} {P Q : List Pt} {ks : List (List Int)} {vs : List Dat} {D : Nat → Nat → Prop} (h : KeysOk T P Q ks vs D) {a b : Int} (hn : a < 0 ∨ b < 0) : (getK ks vs [a, b]).isSome = false := by
  refine Bool.eq_false_iff.mpr fun z => ?_
  obtain ⟨x, y, rfl, rfl, _⟩ := (h a b).mp z
  omega
/-- the three pairs ahead, looked up -/
theorem prs_any {T : Rat → Bool} {P Q : List Pt} {ks : List (List Int)} {vs : List Dat} {x y : Nat} (h : KeysOk T P Q ks vs (Dn x y)) (hx : x < P.length) (hy : y < Q.length) :
    ((prs x y).any fun p => (getK ks vs [p.1, p.2]).isSome) = (((decide (0 < x) && decide (0 < y)) && hr T P Q (x - 1) (y - 1)) || (decide (0 < x) && hr T P Q (x - 1) y) || (decide (0 < y) && hr T P Q x (y - 1))) := by
  have key : ∀ (x' y' : Nat), x' ≤ x → y' ≤ y → x' + y' < x + y → (getK ks vs [(x' : Int), (y' : Int)]).isSome = hr T P Q x' y' := fun x' y' h1 h2 h3 => by
    rw [Bool.eq_iff_iff, h.nat (by omega) (by omega)]
    constructor
    · exact fun z => z.2
    · refine fun z => ⟨?_, z⟩
      unfold Dn
      by_cases q : x' < x
      · exact .inl q
      · exact .inr (.inl ⟨by omega, by omega⟩)
  unfold prs
  simp only [List.any_cons, List.any_nil, Bool.or_false]
  by_cases h1 : 0 < x
  · have e1 : ((x : Int) - 1) = ((x - 1 : Nat) : Int) := by omega
    by_cases h2 : 0 < y
    · have e2 : ((y : Int) - 1) = ((y - 1 : Nat) : Int) := by omega
      rw [e1, e2, key (x - 1) (y - 1) (by omega) (by omega) (by omega), key (x - 1) y (by omega) (by omega) (by omega), key x (y - 1) (by omega) (by omega) (by omega)]
      simp [h1, h2, Bool.or_assoc]
    · obtain rfl : y = 0 := by omega
      rw [h.neg (.inr (show ((0 : Nat) : Int) - 1 < 0 by omega)), h.neg (.inr (show ((0 : Nat) : Int) - 1 < 0 by omega)), e1, key (x - 1) 0 (by omega) (by omega) (by omega)]
      simp [h1]
  · obtain rfl : x = 0 := by omega
    rw [h.neg (.inl (show ((0 : Nat) : Int) - 1 < 0 by omega)), h.neg (.inl (show ((0 : Nat) : Int) - 1 < 0 by omega))]
    by_cases h2 : 0 < y
    · have e2 : ((y : Int) - 1) = ((y - 1 : Nat) : Int) := by omega
      rw [e2, key 0 (y - 1) (by omega) (by omega) (by omega)]
      simp [h2]
    · obtain rfl : y = 0 := by omega
      rw [h.neg (.inr (show ((0 : Nat) : Int) - 1 < 0 by omega))]
      simp
def t_reached : Tr := fun ds k => ∃ (P Q : List Pt) (s : Rat), ds = [tabl P Q, fr s] ∧ Lz P ∧ Lz Q ∧ Fz 4000 s ∧ ∀ ks vs, ChOk rk2 ks vs → (∀ x y : Nat, x < P.length → y < Q.length → ((getK ks vs [(x : Int), (y : Int)]).isSome = hr (tS s) P Q x y)) → k (.dct ks vs)
theorem len_reached : ∀ ds k, t_reached ds k → ds.length = 2 := by
  rintro ds k ⟨_, _, _, rfl, _⟩
  rfl
abbrev nm_reached : List Str := ["table", "square", "ahead", "x", "row", "y", "here", "pair"]
theorem sc_reached : FnScope nm_reached ["table", "square"] (defScope s_reached) := ⟨rfl, rfl, rfl, by decide +kernel, rfl, by decide +kernel, by decide +kernel⟩
theorem k_reached (T : Txt K mg) : Kept P w K mg base "reached" ["table", "square"] [] 2 t_reached := by
  obtain ⟨fd, F⟩ := T.says.def_ 75 (d := d_reached) rfl
  refine kept_of (N := nm_reached) (body := defBody s_reached) (scope := defScope s_reached) (params := defArgs s_reached) F (g_reached T) sc_reached len_reached (fun _ _ _ _ _ _ us hl => match us, hl with | [_, _], _ => rfl) (fun cdv A outer s H E hr => ⟨_, _,
      (pbd_cons (psd_ownD (i := 2) sc_reached.nd rfl (by first | exact .inl rfl | exact .inr rfl))
      (pbd_cut (psd_if (pdt_not (pdt_val (pd_call (k_less T) (hr.mono (by decide)) (by rfl) (pda_cons (pdv 1) (pda_cons (pd_ixK (K := K) rfl (pd_ixK (K := K) rfl (pdv 0) pd_int) pd_int) pda_nil))))) (pbd_one (psd_put (i := 2) (hu_of hr) (pv 2) (pd_tup (pda_cons pd_int (pda_cons pd_int pda_nil))) pd_non)) pbd_nil)
      (pbd_cons (psd_for PassesOwn.never rfl (let ae := (pda_cons (pdv 0) pda_nil); pid_enum (by rfl) (f_enumerate T) ae rfl (pi_enum (by rfl) (f_enumerate T) ae.run)) (pgd_tupK (K := K) (n := 2) rfl rfl (pgds_cons (pgd_name (i := 3) sc_reached.nd rfl (by first | exact .inl rfl | exact .inr rfl)) (pgds_cons (pgd_name (i := 4) sc_reached.nd rfl (by first | exact .inl rfl | exact .inr rfl)) pgds_nil)))
      (pbd_one (psd_for PassesOwn.never rfl (let ae := (pda_cons (pdv 4) pda_nil); pid_enum (by rfl) (f_enumerate T) ae rfl (pi_enum (by rfl) (f_enumerate T) ae.run)) (pgd_tupK (K := K) (n := 2) rfl rfl (pgds_cons (pgd_name (i := 5) sc_reached.nd rfl (by first | exact .inl rfl | exact .inr rfl)) (pgds_cons (pgd_name (i := 6) sc_reached.nd rfl (by first | exact .inl rfl | exact .inr rfl)) pgds_nil)))
      (pbd_one (psd_for PassesOwn.never rfl (pid_list (pd_sh (pl_lst (pda_cons (pd_tup (pda_cons (pd_op op_sub r2_I (pdv 3) pd_int) (pda_cons (pd_op op_sub r2_I (pdv 5) pd_int) pda_nil))) (pda_cons (pd_tup (pda_cons (pd_op op_sub r2_I (pdv 3) pd_int) (pda_cons (pdv 5) pda_nil))) (pda_cons (pd_tup (pda_cons (pdv 3) (pda_cons (pd_op op_sub r2_I (pdv 5) pd_int) pda_nil))) pda_nil)))))) (pgd_name (i := 7) sc_reached.nd rfl (by first | exact .inl rfl | exact .inr rfl))
      (pbd_one (psd_if (pdw_and (pdt_dinO (hu_of hr) (pdv 7) (pv 2)) (pdw_and1 (pdt_not (pdt_val (pd_call (k_less T) (hr.mono (by decide)) (by rfl) (pda_cons (pdv 1) (pda_cons (pdv 6) pda_nil))))))).t (pbd_one (psd_put (i := 2) (hu_of hr) (pv 2) (pd_tup (pda_cons (pdv 3) (pda_cons (pdv 5) pda_nil))) (pdv 7))) pbd_nil)))))))
      (pbd_one (psd_frz 2 (psd_ret (pdv 2))))))), ?_⟩)
  rintro ds k ⟨P, Q, s, rfl, z1, z2, zs, hk⟩
  have w1 := z1.2.1
  have w2 := z2.2.1
  have n1 : 0 < P.length := List.length_pos_iff.mpr z1.1
  have n2 : 0 < Q.length := List.length_pos_iff.mpr z2.1
  have apz : ∀ x y, x < P.length → y < Q.length → Fz 4000 (ap (gp P x) (gp Q y)) := fun x y hx hy => (ap_sz (z1.2.2 _ (gp_mem hx)) (z2.2.2 _ (gp_mem hy))).mono (by decide)
  refine ⟨fun ρ => ∃ ks vs a b c d e, ρ = hEnv P Q s ks vs [a, b, c, d, e] ∧ ChOk rk2 ks vs ∧ KeysOk (tS s) P Q ks vs (Dn 0 0) ∧ ks.length ≤ 1, ?_, ?_⟩
  · refine ⟨_, rfl, _, rfl, _, _, .lst (rowT P Q 0), rfl, rfl, rng_at (i := 0) (f := fun x => Dat.lst (rowT P Q x)) n1, _, _, _, rfl, rfl, rng_at (i := 0) (f := fun y => fr (ap (gp P 0) (gp Q y))) n2, _, _, rfl, zs, apz 0 0 n1 n2, _, rfl, ?_⟩
    have h0 : ChOk rk2 [] [] := ⟨rfl, fun k d h => by simp [getK] at h⟩
    by_cases hls : s < ap (gp P 0) (gp Q 0)
    · rw [decide_eq_true hls]
      refine iteF ⟨[], [], _, _, _, _, _, rfl, h0, fun a b => ?_, Nat.zero_le _⟩
      constructor
      · intro h
        exact absurd h Bool.false_ne_true
      · rintro ⟨x, y, _, _, hd, _, _, h3⟩
        have hd : x < 0 ∨ (x = 0 ∧ y < 0) ∨ (x = 0 ∧ y = 0) := hd
        obtain ⟨rfl, rfl⟩ : x = 0 ∧ y = 0 := by omega
        rw [hr_zero, decide_eq_true hls] at h3
        cases h3
    · rw [decide_eq_false hls]
      refine iteT ⟨_, _, rfl, by decide, tl2, [0, 0], rfl, ?_⟩
      refine ⟨_, _, _, _, _, _, _, rfl, h0.put (.inl rfl), fun a b => ?_, by decide⟩
      rw [getK_put _ _ _ rfl]
      constructor
      · intro h
        split at h
        · rename_i he
          have he' := List.cons.inj he
          have h2 := (List.cons.inj he'.2).1
          exact ⟨0, 0, he'.1.symm, h2.symm, .inr (.inr ⟨rfl, rfl⟩), n1, n2, by rw [hr_zero, decide_eq_false hls]; rfl⟩
        · exact absurd h Bool.false_ne_true
      · rintro ⟨x, y, rfl, rfl, hd, _, _, h3⟩
        have hd : x < 0 ∨ (x = 0 ∧ y < 0) ∨ (x = 0 ∧ y = 0) := hd
        obtain ⟨rfl, rfl⟩ : x = 0 ∧ y = 0 := by omega
        rfl
  · rintro ρ ⟨ks, vs, a, b, c, d, e, rfl, hc, hK, hl⟩
    refine ⟨_, rfl, _, rfl, fun m ρ => ∃ ks vs a b c d e, ρ = hEnv P Q s ks vs [a, b, c, d, e] ∧ ChOk rk2 ks vs ∧ KeysOk (tS s) P Q ks vs (Dn m 0) ∧ ks.length ≤ 1 + 60 * m, ⟨ks, vs, _, _, _, _, _, rfl, hc, hK, hl⟩, ?_, ?_⟩
    · rintro x d ρ hx ⟨ks, vs, a, b, c, d', e, rfl, hc, hK, hl⟩
      obtain ⟨row, hrow, rfl⟩ := enum_get hx
      obtain ⟨hxP, rfl⟩ := map_get hrow
      refine ⟨_, rfl, rfl, _, _, rfl, _, _, rfl, rfl, ?_⟩
      refine ⟨_, rfl, _, rfl, fun n ρ => ∃ ks vs c d e, ρ = hEnv P Q s ks vs [some (.sh (.int (x : Int))), some (.sh (.lst (rowT P Q x))), c, d, e] ∧ ChOk rk2 ks vs ∧ KeysOk (tS s) P Q ks vs (Dn x n) ∧ ks.length ≤ 1 + 60 * x + 3 * n, ⟨ks, vs, _, _, _, rfl, hc, hK, by omega⟩, ?_, ?_⟩
      · rintro y d ρ hy ⟨ks, vs, c, d', e, rfl, hc, hK, hl⟩
        obtain ⟨sq, hsq, rfl⟩ := enum_get hy
        obtain ⟨hyQ, rfl⟩ := map_get hsq
        refine ⟨_, rfl, rfl, _, _, rfl, _, _, rfl, rfl, ?_⟩
        refine ⟨_, rfl, _, _, rfl, rfl, _, rfl, _, _, rfl, rfl, tl2, _, rfl, _, _, rfl, rfl, _, rfl, tl2, _, rfl, _, rfl, _, _, rfl, rfl, tl2, tl3, _, rfl, ?_⟩
        refine ⟨fun n ρ => ∃ ks' vs' e, ρ = hEnv P Q s ks' vs' [some (.sh (.int (x : Int))), some (.sh (.lst (rowT P Q x))), some (.sh (.int (y : Int))), some (.sh (fr (ap (gp P x) (gp Q y)))), e] ∧ ChOk rk2 ks' vs' ∧ (∀ a b : Int, ¬ [a, b] = [(x : Int), (y : Int)] → (getK ks' vs' [a, b]).isSome = (getK ks vs [a, b]).isSome) ∧
          (getK ks' vs' [(x : Int), (y : Int)]).isSome = ((getK ks vs [(x : Int), (y : Int)]).isSome || (tS s (ap (gp P x) (gp Q y)) && ((prs x y).take n).any fun p => (getK ks vs [p.1, p.2]).isSome)) ∧ ks'.length ≤ 1 + 60 * x + 3 * y + n, ⟨ks, vs, _, rfl, hc, fun _ _ _ => rfl, by simp, hl⟩, ?_, ?_⟩
        · rintro n d ρ hn ⟨ks', vs', e, rfl, hc', hsame, hxy, hl'⟩
          obtain ⟨p, hp, rfl⟩ : ∃ p, (prs x y)[n]? = some p ∧ d = Dat.tup [.int p.1, .int p.2] := by
            have hn' : ((prs x y).map fun p => Dat.tup [.int p.1, .int p.2])[n]? = some d := hn
            rw [List.getElem?_map] at hn'
            cases e : (prs x y)[n]? with
            | none => rw [e] at hn'; cases hn'
            | some p => rw [e] at hn'; exact ⟨p, rfl, (Option.some.inj hn').symm⟩
          have hpm := List.mem_of_getElem? hp
          have hn3 : n < 3 := (List.getElem?_eq_some_iff.mp hp).1
          have hne : ¬ [p.1, p.2] = [(x : Int), (y : Int)] := fun z => by
            have z1 := List.cons.inj z
            have z2 := (List.cons.inj z1.2).1
            simp [prs] at hpm
            rcases hpm with q | q | q <;> (rw [q] at z1 z2; have z3 := z1.1; simp at z3 z2; omega)
          have hrk : rk2 [p.1, p.2] < rk2 [(x : Int), (y : Int)] ∨ (getK ks' vs' [p.1, p.2]).isSome = false := by
            by_cases hneg : p.1 < 0 ∨ p.2 < 0
            · exact .inr ((hsame _ _ hne).trans (hK.neg hneg))
            · refine .inl ?_
              unfold rk2
              simp [prs] at hpm
              rcases hpm with q | q | q <;> (rw [q] at hneg ⊢; simp at hneg ⊢; omega)
          have htk : (prs x y).take (n + 1) = (prs x y).take n ++ [p] := by rw [List.take_add_one, hp]; rfl
          have hno : ∀ b : Bool, b = ((tS s (ap (gp P x) (gp Q y))) && (getK ks vs [p.1, p.2]).isSome) → b = false → (getK ks' vs' [(x : Int), (y : Int)]).isSome = ((getK ks vs [(x : Int), (y : Int)]).isSome || (tS s (ap (gp P x) (gp Q y)) && ((prs x y).take (n + 1)).any fun p => (getK ks vs [p.1, p.2]).isSome)) := fun b hb hb2 => by
            rw [hxy, htk, List.any_append]
            simp only [List.any_cons, List.any_nil, Bool.or_false]
            rw [hb2] at hb
            rw [Bool.and_or_distrib_left, ← hb, Bool.or_false]
          refine ⟨_, rfl, [p.1, p.2], _, _, rfl, rfl, _, rfl, ?_⟩
          refine ite2 (fun h1 => ?_) (fun h1 => ?_)
          · have h1' : (getK ks' vs' [p.1, p.2]).isSome = true := by simpa using h1
            refine ⟨_, rfl, _, rfl, _, _, rfl, zs, apz x y hxP hyQ, _, rfl, ?_⟩
            by_cases hls : s < ap (gp P x) (gp Q y)
            · rw [decide_eq_true hls]
              exact iteF ⟨ks', vs', _, rfl, hc', hsame, hno _ rfl (by unfold tS; rw [decide_eq_true hls]; rfl), by omega⟩
            · rw [decide_eq_false hls]
              have hrk' := hrk.resolve_right (by rw [h1']; exact Bool.noConfusion)
              refine iteT ⟨_, _, rfl, by omega, _, rfl, _, rfl, _, rfl, tl2, _, isKey2 _ _, ?_⟩
              refine ⟨_, _, _, rfl, hc'.put (.inr ⟨_, rfl, h1', hrk'⟩), fun a b hab => ?_, ?_, ?_⟩
              · rw [getK_put _ _ _ hc'.1, if_neg (fun z => hab z.symm)]
                exact hsame a b hab
              · rw [getK_put _ _ _ hc'.1, if_pos rfl, htk, List.any_append]
                have h2 : (getK ks vs [p.1, p.2]).isSome = true := (hsame _ _ hne).symm.trans h1'
                simp [h2, tS, hls]
              · unfold putKs
                split
                · omega
                · rw [List.length_append]
                  exact Nat.add_le_add_right hl' 1
          · have h1' : (getK ks' vs' [p.1, p.2]).isSome = false := by simpa using h1
            exact iteF ⟨ks', vs', _, rfl, hc', hsame, hno _ rfl (by rw [← hsame _ _ hne, h1', Bool.and_false]), by omega⟩
        · rintro ρ ⟨ks', vs', e, rfl, hc', hsame, hxy, hl'⟩
          have hl' : ks'.length ≤ 1 + 60 * x + 3 * y + 3 := hl'
          have hxy : (getK ks' vs' [(x : Int), (y : Int)]).isSome = ((getK ks vs [(x : Int), (y : Int)]).isSome || (tS s (ap (gp P x) (gp Q y)) && ((prs x y).any fun p => (getK ks vs [p.1, p.2]).isSome))) := hxy
          rw [prs_any hK hxP hyQ] at hxy
          refine ⟨ks', vs', _, _, _, rfl, hc', fun a b => ?_, by omega⟩
          by_cases hab : [a, b] = [(x : Int), (y : Int)]
          · have z1 := List.cons.inj hab
            have z2 := (List.cons.inj z1.2).1
            obtain rfl : a = (x : Int) := z1.1
            obtain rfl : b = (y : Int) := z2
            have hfin : (getK ks' vs' [(x : Int), (y : Int)]).isSome = M.hr (tS s) P Q x y := by
              rw [hxy]
              by_cases h0 : x = 0 ∧ y = 0
              · obtain ⟨rfl, rfl⟩ := h0
                have := hK.nat hxP hyQ
                have h5 : (getK ks vs [((0 : Nat) : Int), ((0 : Nat) : Int)]).isSome = M.hr (tS s) P Q 0 0 := by
                  rw [Bool.eq_iff_iff, this]
                  exact ⟨fun z => z.2, fun z => ⟨.inr (.inr ⟨rfl, rfl⟩), z⟩⟩
                rw [h5]
                simp
              · have h5 : (getK ks vs [(x : Int), (y : Int)]).isSome = false := by
                  refine Bool.eq_false_iff.mpr fun z => ?_
                  have hd : x < x ∨ (x = x ∧ y < y) ∨ (x = 0 ∧ y = 0) := ((hK.nat hxP hyQ).mp z).1
                  omega
                rw [h5, Bool.false_or, hr_step x y h0]
            rw [hfin]
            constructor
            · exact fun z => ⟨x, y, rfl, rfl, .inr (.inl ⟨rfl, Nat.lt_succ_self _⟩), hxP, hyQ, z⟩
            · rintro ⟨x', y', e1, e2, _, _, _, h3⟩
              obtain rfl : x = x' := by omega
              obtain rfl : y = y' := by omega
              exact h3
          · rw [hsame a b hab, hK a b]
            constructor
            · rintro ⟨x', y', e1, e2, hd, h3⟩
              refine ⟨x', y', e1, e2, ?_, h3⟩
              have hd : x' < x ∨ (x' = x ∧ y' < y) ∨ (x' = 0 ∧ y' = 0) := hd
              show x' < x ∨ (x' = x ∧ y' < y + 1) ∨ (x' = 0 ∧ y' = 0)
              omega
            · rintro ⟨x', y', e1, e2, hd, h3⟩
              refine ⟨x', y', e1, e2, ?_, h3⟩
              have hd : x' < x ∨ (x' = x ∧ y' < y + 1) ∨ (x' = 0 ∧ y' = 0) := hd
              show x' < x ∨ (x' = x ∧ y' < y) ∨ (x' = 0 ∧ y' = 0)
              have : ¬ (x' = x ∧ y' = y) := fun z => hab (by rw [e1, e2, z.1, z.2])
              omega
      · rintro ρ ⟨ks, vs, c, d, e, rfl, hc, hK, hl⟩
        have eq : (enumD (rowT P Q x)).length = Q.length := by unfold enumD rowT; simp
        rw [eq] at hK hl
        refine ⟨ks, vs, _, _, _, _, _, rfl, hc, hK.mono fun x' y' h1 h2 => ?_, by omega⟩
        show (x' < x ∨ (x' = x ∧ y' < Q.length) ∨ (x' = 0 ∧ y' = 0)) ↔ (x' < x + 1 ∨ (x' = x + 1 ∧ y' < 0) ∨ (x' = 0 ∧ y' = 0))
        omega
    · rintro ρ ⟨ks, vs, a, b, c, d, e, rfl, hc, hK, hl⟩
      have eq : (enumD ((List.range P.length).map fun x => Dat.lst (rowT P Q x))).length = P.length := by unfold enumD; simp
      rw [eq] at hK
      refine .inr ⟨_, _, rfl, _, rfl, hk ks vs hc fun x y hx hy => ?_⟩
      rw [Bool.eq_iff_iff, hK.nat hx hy]
      exact ⟨fun z => z.2, fun z => ⟨.inl hx, z⟩⟩
end
end G
namespace G
open PySem PySem.Spec PyProof.Rows L2 DL M
section
variable {P : Program} {w : World} {K : PySem.W.Frag} {mg : Str → Option Value} {base : Heap}
def k2 (p : Int × Int) : List Int := [p.1, p.2]
structure FInv (ps : List (Int × Int)) (ks : List (List Int)) (vs : List Dat) (ws : List (Int × Int)) : Prop where
  ch : ∃ rank N, ChOk rank ks vs ∧ (∀ k, (getK ks vs k).isSome = true → rank k < N) ∧ N ≤ ks.length + 1
  nd : ks.Nodup
  sub : ks ⊆ ps.map k2
  len : ws.length ≤ ps.length + ks.length
theorem FInv.klen {ps : List (Int × Int)} {ks : List (List Int)} {vs : List Dat} {ws : List (Int × Int)} (h : FInv ps ks vs ws) : ks.length ≤ ps.length := by
  have := nodup_sub h.nd h.sub
  rwa [List.length_map] at this
theorem not_mem {ks : List (List Int)} {ds : List Dat} {k : List Int} (hl : ks.length = ds.length) (h : (getK ks ds k).isSome = false) : k ∉ ks := fun z => by rw [(getK_not hl).mpr z] at h; cases h
theorem FInv.none {ps : List (Int × Int)} {ks : List (List Int)} {vs : List Dat} {ws : List (Int × Int)} (h : FInv ps ks vs ws) {p : Int × Int} (hp : p ∈ ps) : FInv ps (putKs ks vs (k2 p)) (putVs ks vs (k2 p) .non) ws := by
  obtain ⟨rank, N, c1, c2, c3⟩ := h.ch
  by_cases hs : (getK ks vs (k2 p)).isSome = true
  · have e : putKs ks vs (k2 p) = ks := by unfold putKs; rw [if_pos hs]
    refine ⟨⟨rank, N, c1.put (.inl rfl), fun k hk => ?_, by rw [e]; exact c3⟩, by rw [e]; exact h.nd, by rw [e]; exact h.sub, by rw [e]; exact h.len⟩
    rw [getK_put _ _ _ c1.1] at hk
    split at hk
    · rename_i z; rw [← z]; exact c2 _ hs
    · exact c2 k hk
  · have hs' := ofNot hs
    have hm := not_mem c1.1 hs'
    have e : putKs ks vs (k2 p) = ks ++ [k2 p] := putKs_new hs
    refine ⟨⟨fun k => if k = k2 p then 0 else rank k, N + 1, ?_, fun k hk => ?_, by rw [e, List.length_append]; exact Nat.add_le_add_right c3 1⟩, ?_, ?_, ?_⟩
    · have c1' : ChOk (fun k => if k = k2 p then 0 else rank k) ks vs := ⟨c1.1, fun k d hk => by
        obtain ⟨q1, q2⟩ := c1.2 k d hk
        refine ⟨q1, q2.imp id ?_⟩
        rintro ⟨k', r1, r2, r3⟩
        have n1 : ¬ k = k2 p := fun z => by rw [z] at hk; rw [hk] at hs'; cases hs'
        have n2 : ¬ k' = k2 p := fun z => by rw [z] at r2; rw [r2] at hs'; cases hs'
        exact ⟨k', r1, r2, by simp only [n1, n2, if_false]; exact r3⟩⟩
      exact c1'.put (.inl rfl)
    · by_cases hk2 : k = k2 p
      · simp [hk2]
      · rw [getK_put _ _ _ c1.1, if_neg (fun z => hk2 z.symm)] at hk
        simp only [hk2, if_false]
        have := c2 k hk
        omega
    · rw [e, List.nodup_append]
      exact ⟨h.nd, by simp, fun x hx y hy z => hm (by rw [← List.mem_singleton.mp hy, ← z]; exact hx)⟩
    · rw [e]
      intro k hk
      rcases List.mem_append.mp hk with q | q
      · exact h.sub q
      · rw [List.mem_singleton.mp q]; exact List.mem_map.mpr ⟨p, hp, rfl⟩
    · rw [e, List.length_append]
      have := h.len
      omega
theorem FInv.next {ps : List (Int × Int)} {ks : List (List Int)} {vs : List Dat} {ws : List (Int × Int)} (h : FInv ps ks vs ws) {p q : Int × Int} (hp : p ∈ ps) (hs' : (getK ks vs (k2 p)).isSome = false) (hq : (getK ks vs (k2 q)).isSome = true) : FInv ps (putKs ks vs (k2 p)) (putVs ks vs (k2 p) (keyT (k2 q))) (ws ++ [p]) := by
  obtain ⟨rank, N, c1, c2, c3⟩ := h.ch
  have hs : ¬ (getK ks vs (k2 p)).isSome = true := by rw [hs']; exact Bool.false_ne_true
  have hm := not_mem c1.1 hs'
  have e : putKs ks vs (k2 p) = ks ++ [k2 p] := putKs_new hs
  refine ⟨⟨fun k => if k = k2 p then N else rank k, N + 1, ?_, fun k hk => ?_, by rw [e, List.length_append]; exact Nat.add_le_add_right c3 1⟩, ?_, ?_, ?_⟩
  · have c1' : ChOk (fun k => if k = k2 p then N else rank k) ks vs := ⟨c1.1, fun k d hk => by
      obtain ⟨q1, q2⟩ := c1.2 k d hk
      refine ⟨q1, q2.imp id ?_⟩
      rintro ⟨k', r1, r2, r3⟩
      have n1 : ¬ k = k2 p := fun z => by rw [z] at hk; rw [hk] at hs'; cases hs'
      have n2 : ¬ k' = k2 p := fun z => by rw [z] at r2; rw [r2] at hs'; cases hs'
      exact ⟨k', r1, r2, by simp only [n1, n2, if_false]; exact r3⟩⟩
    refine c1'.put (.inr ⟨k2 q, rfl, hq, ?_⟩)
    have n2 : ¬ k2 q = k2 p := fun z => by rw [z, hs'] at hq; cases hq
    have n3 : [p.1, p.2] = k2 p := rfl
    simp only [n2, n3, if_false, if_true]
    exact c2 _ hq
  · by_cases hk2 : k = k2 p
    · simp [hk2]
    · rw [getK_put _ _ _ c1.1, if_neg (fun z => hk2 z.symm)] at hk
      simp only [hk2, if_false]
      have := c2 k hk
      omega
  · rw [e, List.nodup_append]
    exact ⟨h.nd, by simp, fun x hx y hy z => hm (by rw [← List.mem_singleton.mp hy, ← z]; exact hx)⟩
  · rw [e]
    intro k hk
    rcases List.mem_append.mp hk with q | q
    · exact h.sub q
    · rw [List.mem_singleton.mp q]; exact List.mem_map.mpr ⟨p, hp, rfl⟩
  · rw [e, List.length_append, List.length_append]
    have := h.len
    simp
    omega
def t_far_pairs : Tr := fun ds k => ∃ (P Q : List Pt) (s : Rat) (also : Bool), ds = [tabl P Q, fr s, .bl also] ∧ Lz P ∧ Lz Q ∧ Fz 4000 s ∧ ∀ ps : List Pt, ps.length ≤ 1000 → k (.lst (ps.map pt))
theorem len_far_pairs : ∀ ds k, t_far_pairs ds k → ds.length = 3 := by
  rintro ds k ⟨_, _, _, _, rfl, _⟩
  rfl
abbrev nm_far_pairs : List Str := ["table", "square", "also", "found", "x", "row", "y", "here"]
theorem sc_far_pairs : FnScope nm_far_pairs ["table", "square", "also"] (defScope s_far_pairs) := ⟨rfl, rfl, rfl, by decide +kernel, rfl, by decide +kernel, by decide +kernel⟩
theorem k_far_pairs (T : Txt K mg) : Kept P w K mg base "far_pairs" ["table", "square", "also"] [] 2 t_far_pairs := by
  obtain ⟨fd, F⟩ := T.says.def_ 77 (d := d_far_pairs) rfl
  refine kept_of (N := nm_far_pairs) (body := defBody s_far_pairs) (scope := defScope s_far_pairs) (params := defArgs s_far_pairs) F (g_far_pairs T) sc_far_pairs len_far_pairs (fun _ _ _ _ _ _ us hl => match us, hl with | [_, _, _], _ => rfl) (fun cdv A outer s H E hr => ⟨_, _,
      (pbd_cons (psd_own (i := 3) sc_far_pairs.nd rfl (by first | exact .inl rfl | exact .inr rfl) (pl_lst pda_nil))
      (pbd_cons (psd_for PassesOwn.never rfl (let ae := (pda_cons (pdv 0) pda_nil); pid_enum (by rfl) (f_enumerate T) ae rfl (pi_enum (by rfl) (f_enumerate T) ae.run)) (pgd_tupK (K := K) (n := 2) rfl rfl (pgds_cons (pgd_name (i := 4) sc_far_pairs.nd rfl (by first | exact .inl rfl | exact .inr rfl)) (pgds_cons (pgd_name (i := 5) sc_far_pairs.nd rfl (by first | exact .inl rfl | exact .inr rfl)) pgds_nil)))
      (pbd_one (psd_for PassesOwn.never rfl (let ae := (pda_cons (pdv 5) pda_nil); pid_enum (by rfl) (f_enumerate T) ae rfl (pi_enum (by rfl) (f_enumerate T) ae.run)) (pgd_tupK (K := K) (n := 2) rfl rfl (pgds_cons (pgd_name (i := 6) sc_far_pairs.nd rfl (by first | exact .inl rfl | exact .inr rfl)) (pgds_cons (pgd_name (i := 7) sc_far_pairs.nd rfl (by first | exact .inl rfl | exact .inr rfl)) pgds_nil)))
      (pbd_one (psd_if (pdw_or (pdt_val (pd_call (k_less T) (hr.mono (by decide)) (by rfl) (pda_cons (pdv 1) (pda_cons (pdv 7) pda_nil)))) (pdw_or1 (pdw_and (pdt_val (pdv 2)) (pdw_and1 (pdt_cmp (op_eqA hr.units) r2_eq (pdv 7) (pdv 1)))).t)).t (pbd_one (let ae := (pd_tup (pda_cons (pdv 4) (pda_cons (pdv 6) pda_nil))); psd_app (i := 3) rfl (by first | exact .inl rfl | exact .inr (.inl rfl)) ae (pe_bm PySem.F.plainAttrs_list PySem.F.slot_list_append PySem.F.type_list_append mt_append (pv 3) (pa_cons ae.run pa_nil)))) pbd_nil)))))
      (pbd_one (psd_frz 3 (psd_ret (pdv 3)))))), ?_⟩)
  rintro ds k ⟨P, Q, s, also, rfl, z1, z2, zs, hk⟩
  have w1 := z1.2.1
  have w2 := z2.2.1
  have apz : ∀ x y, x < P.length → y < Q.length → Fz 4000 (ap (gp P x) (gp Q y)) := fun x y hx hy => (ap_sz (z1.2.2 _ (gp_mem hx)) (z2.2.2 _ (gp_mem hy))).mono (by decide)
  refine ⟨Nat.zero_le _, _, rfl, _, rfl, fun m ρ => ∃ (ps : List Pt) (a b c d : _), ρ = [some (.sh (tabl P Q)), some (.sh (fr s)), some (.sh (.bl also)), some (.ol (ps.map pt)), a, b, c, d] ∧ ps.length ≤ 20 * m, ⟨[], _, _, _, _, rfl, Nat.zero_le _⟩, ?_, ?_⟩
  · rintro x d ρ hx ⟨ps, a, b, c, d', rfl, hl⟩
    obtain ⟨row, hrow, rfl⟩ := enum_get hx
    obtain ⟨hxP, rfl⟩ := map_get hrow
    refine ⟨_, rfl, rfl, _, _, rfl, _, _, rfl, rfl, ?_⟩
    refine ⟨_, rfl, _, rfl, fun n ρ => ∃ (ps : List Pt) (c d : _), ρ = [some (.sh (tabl P Q)), some (.sh (fr s)), some (.sh (.bl also)), some (.ol (ps.map pt)), some (.sh (.int (x : Int))), some (.sh (.lst (rowT P Q x))), c, d] ∧ ps.length ≤ 20 * x + n, ⟨ps, _, _, rfl, hl⟩, ?_, ?_⟩
    · rintro y d ρ hy ⟨ps, c, d', rfl, hl⟩
      obtain ⟨sq, hsq, rfl⟩ := enum_get hy
      obtain ⟨hyQ, rfl⟩ := map_get hsq
      refine ⟨_, rfl, rfl, _, _, rfl, _, _, rfl, rfl, ?_⟩
      refine ⟨_, rfl, _, rfl, _, _, rfl, zs, apz x y hxP hyQ, _, rfl, ?_⟩
      refine ite2 (fun _ => ?_) (fun _ => ?_)
      · exact iteT ⟨_, rfl, by rw [List.length_map]; omega, _, rfl, _, rfl, tl2, ps ++ [((x : Int), (y : Int))], _, _, by rw [List.map_append]; rfl, by rw [List.length_append]; exact Nat.add_le_add_right hl 1⟩
      · refine ⟨_, rfl, _, rfl, ?_⟩
        cases also with
        | false => exact iteF (iteF ⟨ps, _, _, rfl, by omega⟩)
        | true =>
          refine iteT ⟨_, rfl, _, rfl, _, rfl, _, rfl, ?_⟩
          refine ite2 (fun _ => ?_) (fun _ => ?_)
          · exact ⟨_, rfl, by rw [List.length_map]; omega, _, rfl, _, rfl, tl2, ps ++ [((x : Int), (y : Int))], _, _, by rw [List.map_append]; rfl, by rw [List.length_append]; exact Nat.add_le_add_right hl 1⟩
          · exact ⟨ps, _, _, rfl, by omega⟩
    · rintro ρ ⟨ps, c, d, rfl, hl⟩
      have eq : (enumD (rowT P Q x)).length = Q.length := by unfold enumD rowT; simp
      rw [eq] at hl
      exact ⟨ps, _, _, _, _, rfl, by omega⟩
  · rintro ρ ⟨ps, a, b, c, d, rfl, hl⟩
    have eq : (enumD ((List.range P.length).map fun x => Dat.lst (rowT P Q x))).length = P.length := by unfold enumD; simp
    rw [eq] at hl
    exact .inl ⟨_, rfl, _, rfl, hk ps (by omega)⟩
theorem op_eqAK {X : Cx} (hK : X.K = K) (hu : X.A.units + 64 < cLine) : OpR X (compareOp .Eq) (rEqA K) := by
  subst hK
  exact op_eqA hu
def t_fence_among : Tr := fun ds k => ∃ (ps : List Pt) (n m : Int), ds = [.lst (ps.map pt), .int n, .int m] ∧ ps.length ≤ 1000 ∧ ∀ d, k d
theorem len_fence_among : ∀ ds k, t_fence_among ds k → ds.length = 3 := by
  rintro ds k ⟨_, _, _, rfl, _⟩
  rfl
abbrev nm_fence_among : List Str := ["far", "n", "m", "waiting", "ahead", "pair", "at", "here"]
theorem sc_fence_among : FnScope nm_fence_among ["far", "n", "m"] (defScope s_fence_among) := ⟨rfl, rfl, rfl, by decide +kernel, rfl, by decide +kernel, by decide +kernel⟩
theorem k_fence_among (T : Txt K mg) : Kept P w K mg base "fence_among" ["far", "n", "m"] [] 2 t_fence_among := by
  obtain ⟨fd, F⟩ := T.says.def_ 79 (d := d_fence_among) rfl
  refine kept_of (N := nm_fence_among) (body := defBody s_fence_among) (scope := defScope s_fence_among) (params := defArgs s_fence_among) F (g_fence_among T) sc_fence_among len_fence_among (fun _ _ _ _ _ _ us hl => match us, hl with | [_, _, _], _ => rfl) (fun cdv A outer s H E hr => ⟨_, _,
      (pbd_cons (psd_ownLc (i := 3) rfl sc_fence_among.nd rfl rfl (sw_true rfl rfl rfl (by decide +kernel)) (own := [("pair", 5)]) (pid_list (pdv 0)) (blkOk_by (N := nm_fence_among) (sc := defScope s_fence_among) (by decide +kernel)) (fun _ _ _ _ _ => (pgd_name (i := 5) sc_fence_among.nd rfl (by first | exact .inl rfl | exact .inr rfl))) (fun _ _ _ _ _ => (pdts_one (pdw_or (pdt_cmp (op_eqAK (K := K) rfl hr.units) r2_eq (pd_ixK (K := K) rfl (pdv 5) pd_int) pd_int) (pdw_or1 (pdt_cmp (op_eqAK (K := K) rfl hr.units) r2_eq (pd_ixK (K := K) rfl (pdv 5) pd_int) (pdv 2)))).t)) (fun _ _ _ _ _ => (pdv 5)))
      (pbd_cons (psd_ownD (i := 4) sc_fence_among.nd rfl (by first | exact .inl rfl | exact .inr rfl))
      (pbd_cons (psd_forO1 (i0 := 3) PassesOwn.never rfl (pv 3) (pgd_name (i := 5) sc_fence_among.nd rfl (by first | exact .inl rfl | exact .inr rfl))
      (pbd_one (psd_put (i := 4) (hu_of hr) (pv 4) (pdv 5) pd_non)))
      (pbd_cons (psd_set (i := 6) sc_fence_among.nd rfl (by first | exact .inl rfl | exact .inr rfl) pd_int)
      (pbd_cons (psd_while PassesOwn.never (pdt_cmp op_lt r2_B (pdv 6) (pd_lenO (x := "len") (by rfl) (f_len T) (pv 3)))
      (pbd_cons (psd_set (i := 7) sc_fence_among.nd rfl (by first | exact .inl rfl | exact .inr rfl) (pd_ixO (pv 3) (pdv 6)))
      (pbd_cut (psd_if (pdw_or (pdt_cmp (op_eqA hr.units) r2_eq (pd_ixK (K := K) rfl (pdv 7) pd_int) (pdv 1)) (pdw_or1 (pdt_cmp (op_eqA hr.units) r2_eq (pd_ixK (K := K) rfl (pdv 7) pd_int) pd_int))).t (pbd_one (psd_frz 4 (psd_ret (pd_call (k_traced T) (hr.mono (by decide)) (by rfl) (pda_cons (pdv 4) (pda_cons (pdv 7) pda_nil)))))) pbd_nil)
      (pbd_cons (psd_for PassesOwn.never rfl (pid_list (pdv 0)) (pgd_name (i := 5) sc_fence_among.nd rfl (by first | exact .inl rfl | exact .inr rfl))
      (pbd_one (psd_if (pdw_and (pdt_dninO (hu_of hr) (pdv 5) (pv 4)) (pdw_and1 (pdt_val (pd_call (k_may_follow T) (hr.mono (by decide)) (by rfl) (pda_cons (pdv 7) (pda_cons (pdv 5) pda_nil)))))).t (pbd_cons (psd_put (i := 4) (hu_of hr) (pv 4) (pdv 5) (pdv 7))
      (pbd_one (let ae := (pdv 5); psd_app (i := 3) rfl (by first | exact .inl rfl | exact .inr (.inl rfl)) ae (pe_bm PySem.F.plainAttrs_list PySem.F.slot_list_append PySem.F.type_list_append mt_append (pv 3) (pa_cons ae.run pa_nil))))) pbd_nil)))
      (pbd_one (psd_aug (i := 6) sc_fence_among.nd rfl (by first | exact .inl rfl | exact .inr rfl) pd_int ip_add))))))
      (pbd_one (psd_ret pd_non))))))), ?_⟩)
  rintro ds k ⟨ps, n, m, rfl, hps, hk⟩
  refine ⟨_, rfl, _, rfl, fun i acc => ∃ ws : List Pt, acc = ws.map pt ∧ ws.length ≤ i ∧ ∀ w ∈ ws, w ∈ ps, ⟨[], rfl, Nat.zero_le _, fun w h => by cases h⟩, ?_, ?_⟩
  · rintro i d acc hi ⟨ws, rfl, hl, hw⟩
    obtain ⟨p, hp, rfl⟩ := getm hi
    have hi' := (List.getElem?_eq_some_iff.mp hp).1
    have hpm := List.mem_of_getElem? hp
    refine ⟨_, rfl, _, _, _, rfl, rfl, rfl, _, rfl, _, rfl, ?_⟩
    try rw [List.length_map] at hi'
    refine ite2 (fun _ => ?_) (fun _ => ?_)
    · exact iteT ⟨_, rfl, by rw [List.length_map]; omega, ws ++ [p], by rw [List.map_append]; rfl, by rw [List.length_append]; exact Nat.add_le_add_right hl 1, fun w h => (List.mem_append.mp h).elim (hw w) (fun z => by rw [List.mem_singleton.mp z]; exact hpm)⟩
    · refine ⟨_, rfl, _, _, _, rfl, rfl, rfl, _, rfl, _, rfl, _, rfl, ?_⟩
      refine ite2 (fun _ => ?_) (fun _ => ?_)
      · exact ⟨_, rfl, by rw [List.length_map]; omega, ws ++ [p], by rw [List.map_append]; rfl, by rw [List.length_append]; exact Nat.add_le_add_right hl 1, fun w h => (List.mem_append.mp h).elim (hw w) (fun z => by rw [List.mem_singleton.mp z]; exact hpm)⟩
      · exact ⟨ws, rfl, by omega, hw⟩
  · rintro acc ⟨ws, rfl, hl, hw⟩
    rw [List.length_map] at hl
    refine ⟨_, rfl, fun a => ?_⟩
    refine ⟨fun i ρ => ∃ ks vs c, ρ = [some (.sh (.lst (ps.map pt))), some (.sh (.int n)), some (.sh (.int m)), some (.la a (ws.map pt)), some (.od ks vs), c, none, none] ∧ FInv ps ks vs ws ∧ ∀ j w, j < i → ws[j]? = some w → (getK ks vs (k2 w)).isSome = true, ⟨[], [], _, rfl, ⟨⟨fun _ => 0, 1, ⟨rfl, fun k d h => (nomatch h)⟩, fun k h => absurd h Bool.false_ne_true, by decide⟩, List.nodup_nil, fun k h => (nomatch h), hl⟩, fun j w h => absurd h (Nat.not_lt_zero _)⟩, ?_, ?_, ?_⟩
    · rintro i ρ ⟨ks, vs, c, rfl, _⟩
      rfl
    · rintro i d ρ hi ⟨ks, vs, c, rfl, hF, hj⟩
      obtain ⟨p, hp, rfl⟩ := getm hi
      have hpm := hw p (List.mem_of_getElem? hp)
      obtain ⟨rank, N, c1, _⟩ := hF.ch
      have hkl := hF.klen
      refine ⟨_, _, rfl, by omega, _, rfl, k2 p, rfl, ?_⟩
      refine ⟨_, _, _, rfl, hF.none hpm, fun j w hlt hw2 => ?_⟩
      rw [getK_put _ _ _ c1.1]
      split
      · rfl
      · rename_i hne
        by_cases hji : j = i
        · subst hji
          rw [hp] at hw2
          cases hw2
          exact absurd rfl hne
        · exact hj j w (by omega) hw2
    · rintro ρ ⟨ks, vs, c, rfl, hF, hj⟩
      have hall : ∀ w ∈ ws, (getK ks vs (k2 w)).isSome = true := fun w hw => by
        obtain ⟨j, hj2⟩ := List.mem_iff_getElem?.mp hw
        exact hj j w (by rw [List.length_map]; exact (List.getElem?_eq_some_iff.mp hj2).1) hj2
      refine ⟨fun M ρ => ∃ (ws : List Pt) (ks : List (List Int)) (vs : List Dat) (at_ : Nat) (c d : _), ρ = [some (.sh (.lst (ps.map pt))), some (.sh (.int n)), some (.sh (.int m)), some (.ol (ws.map pt)), some (.od ks vs), c, some (.sh (.int (at_ : Int))), d] ∧ FInv ps ks vs ws ∧ (∀ w ∈ ws, (getK ks vs (k2 w)).isSome = true) ∧ at_ ≤ ws.length ∧ M = 2 * ps.length + 1 - at_, ⟨_, ws, ks, vs, 0, _, _, rfl, hF, hall, Nat.zero_le _, rfl⟩, ?_⟩
      rintro M ρ ⟨ws, ks, vs, at_, c, d, rfl, hF, hall, hat, rfl⟩
      refine ⟨_, rfl, _, rfl, _, _, rfl, rfl, _, rfl, ?_⟩
      refine ite2 (fun h1 => ?_) (fun h1 => hk _)
      have h1' : (at_ : Int) < ((ws.map pt).length : Int) := by simpa using h1
      rw [List.length_map] at h1'
      have h2 : at_ < ws.length := by omega
      have hwl := hF.len
      have hkl := hF.klen
      obtain ⟨q, hq⟩ : ∃ q, ws[at_]? = some q := ⟨_, List.getElem?_eq_getElem h2⟩
      have hqs := hall q (List.mem_of_getElem? hq)
      refine ⟨_, rfl, _, rfl, _, _, rfl, atm hq, ?_⟩
      refine ⟨fun ρ => ρ = [some (.sh (.lst (ps.map pt))), some (.sh (.int n)), some (.sh (.int m)), some (.ol (ws.map pt)), some (.od ks vs), c, some (.sh (.int (at_ : Int))), some (.sh (pt q))], ?_, ?_⟩
      · obtain ⟨rank, N, c1, c2, c3⟩ := hF.ch
        have hN := c2 _ hqs
        refine ⟨_, rfl, _, _, _, rfl, rfl, rfl, _, rfl, _, rfl, _, rfl, ?_⟩
        refine ite2 (fun _ => ?_) (fun _ => ?_)
        · exact iteT (.inr ⟨_, _, rfl, _, rfl, _, rfl, rank, ks, vs, k2 q, rfl, c1, hqs, by omega, fun xs => hk _⟩)
        · refine ⟨_, rfl, _, _, _, rfl, rfl, rfl, _, rfl, _, rfl, ?_⟩
          refine ite2 (fun _ => ?_) (fun _ => ?_)
          · exact .inr ⟨_, _, rfl, _, rfl, _, rfl, rank, ks, vs, k2 q, rfl, c1, hqs, by omega, fun xs => hk _⟩
          · rfl
      · rintro ρ rfl
        refine ⟨_, rfl, _, rfl, fun i ρ => ∃ ws ks vs c, ρ = [some (.sh (.lst (ps.map pt))), some (.sh (.int n)), some (.sh (.int m)), some (.ol (ws.map pt)), some (.od ks vs), c, some (.sh (.int (at_ : Int))), some (.sh (pt q))] ∧ FInv ps ks vs ws ∧ (∀ w ∈ ws, (getK ks vs (k2 w)).isSome = true) ∧ at_ + 1 ≤ ws.length ∧ (getK ks vs (k2 q)).isSome = true, ⟨ws, ks, vs, _, rfl, hF, hall, h2, hqs⟩, ?_, ?_⟩
        · rintro i d ρ hi ⟨ws, ks, vs, c, rfl, hF, hall, hat, hqs⟩
          obtain ⟨p, hp, rfl⟩ := getm hi
          have hpm := List.mem_of_getElem? hp
          have hwl := hF.len
          have hkl := hF.klen
          obtain ⟨rank, N, c1, c2, c3⟩ := hF.ch
          refine ⟨_, rfl, k2 p, _, _, rfl, rfl, _, rfl, ?_⟩
          cases hs : (getK ks vs (k2 p)).isSome with
          | true => exact iteF (iteF ⟨ws, ks, vs, _, rfl, hF, hall, hat, hqs⟩)
          | false =>
            refine iteT ⟨_, rfl, _, rfl, _, _, _, _, rfl, fun x => ⟨_, rfl, ?_⟩⟩
            cases x with
            | false => exact iteF ⟨ws, ks, vs, _, rfl, hF, hall, hat, hqs⟩
            | true =>
              refine iteT ⟨_, _, rfl, by omega, _, rfl, _, rfl, k2 p, rfl, ?_⟩
              refine ⟨_, rfl, by rw [List.length_map]; omega, _, rfl, ?_⟩
              refine ⟨ws ++ [p], putKs ks vs (k2 p), putVs ks vs (k2 p) (keyT (k2 q)), _, by rw [List.map_append]; rfl, hF.next hpm hs hqs, fun w hw => ?_, by rw [List.length_append]; omega, ?_⟩
              · rw [getK_put _ _ _ c1.1]
                split
                · rfl
                · rename_i hne
                  rcases List.mem_append.mp hw with z | z
                  · exact hall w z
                  · exact absurd (by rw [List.mem_singleton.mp z]) hne
              · rw [getK_put _ _ _ c1.1]
                split
                · rfl
                · exact hqs
        · rintro ρ ⟨ws, ks, vs, c, rfl, hF, hall, hat, hqs⟩
          have hwl := hF.len
          have hkl := hF.klen
          refine ⟨_, rfl, _, rfl, ?_⟩
          exact ⟨2 * ps.length + 1 - (at_ + 1), by omega, ws, ks, vs, at_ + 1, _, _, rfl, hF, hall, hat, rfl⟩
end
end G
namespace G
open PySem PySem.Spec PyProof.Rows L2 DL M
section
variable {P : Program} {w : World} {K : PySem.W.Frag} {mg : Str → Option Value} {base : Heap}
def t_hop_walk : Tr := fun ds k => ∃ (one other : List Pt) (s : Rat), ds = [ln one, ln other, fr s] ∧ Lz one ∧ Lz other ∧ Fz 4000 s ∧ (hopOk (tS s) one other = false → k .non) ∧ (hopOk (tS s) one other = true → ∀ xs, k (.lst xs))
theorem len_hop_walk : ∀ ds k, t_hop_walk ds k → ds.length = 3 := by
  rintro ds k ⟨_, _, _, rfl, _⟩
  rfl
abbrev nm_hop_walk : List Str := ["one", "other", "square", "ahead", "goal"]
theorem sc_hop_walk : FnScope nm_hop_walk ["one", "other", "square"] (defScope s_hop_walk) := ⟨rfl, rfl, rfl, by decide +kernel, rfl, by decide +kernel, by decide +kernel⟩
theorem k_hop_walk (T : Txt K mg) : Kept P w K mg base "hop_walk" ["one", "other", "square"] [] 8 t_hop_walk := by
  obtain ⟨fd, F⟩ := T.says.def_ 80 (d := d_hop_walk) rfl
  refine kept_of (N := nm_hop_walk) (body := defBody s_hop_walk) (scope := defScope s_hop_walk) (params := defArgs s_hop_walk) F (g_hop_walk T) sc_hop_walk len_hop_walk (fun _ _ _ _ _ _ us hl => match us, hl with | [_, _, _], _ => rfl) (fun cdv A outer s H E hr => ⟨_, _,
      (pbd_cons (psd_set (i := 3) sc_hop_walk.nd rfl (by first | exact .inl rfl | exact .inr rfl) (pd_call (k_reached T) (hr.mono (by decide)) (by rfl) (pda_cons (pd_call (k_squares_of T) (hr.mono (by decide)) (by rfl) (pda_cons (pdv 0) (pda_cons (pdv 1) pda_nil))) (pda_cons (pdv 2) pda_nil))))
      (pbd_cons (psd_set (i := 4) sc_hop_walk.nd rfl (by first | exact .inl rfl | exact .inr rfl) (pd_tup (pda_cons (pd_op op_sub r2_I (pd_bi call_len_seq rc_len (by rfl) (f_len T) PySem.boot_len (pda_cons (pdv 0) pda_nil)) pd_int) (pda_cons (pd_op op_sub r2_I (pd_bi call_len_seq rc_len (by rfl) (f_len T) PySem.boot_len (pda_cons (pdv 1) pda_nil)) pd_int) pda_nil))))
      (pbd_cons (psd_if (pdt_dnin (hu_of hr) (pdv 4) (pdv 3)) (pbd_one (psd_ret pd_non)) pbd_nil)
      (pbd_one (psd_ret (pd_call (k_traced T) (hr.mono (by decide)) (by rfl) (pda_cons (pdv 3) (pda_cons (pdv 4) pda_nil)))))))), ?_⟩)
  rintro ds k ⟨one, other, s, rfl, z1, z2, zs, h0, h1⟩
  have w1 := z1.2.1
  have w2 := z2.2.1
  have n1 : 0 < one.length := List.length_pos_iff.mpr z1.1
  have n2 : 0 < other.length := List.length_pos_iff.mpr z2.1
  refine ⟨_, rfl, _, rfl, one, other, rfl, z1, z2, _, rfl, one, other, s, rfl, z1, z2, zs, fun ks vs hc hK => ?_⟩
  refine ⟨_, rfl, _, .inl rfl, _, _, rfl, rfl, _, rfl, _, .inl rfl, _, _, rfl, rfl, tl2, ?_⟩
  have e1 : (((one.map pt).length : Int) - 1) = ((one.length - 1 : Nat) : Int) := by rw [List.length_map]; omega
  have e2 : (((other.map pt).length : Int) - 1) = ((other.length - 1 : Nat) : Int) := by rw [List.length_map]; omega
  rw [e1, e2]
  have hg := hK (one.length - 1) (other.length - 1) (by omega) (by omega)
  refine ⟨_, rfl, _, rfl, [((one.length - 1 : Nat) : Int), ((other.length - 1 : Nat) : Int)], _, _, rfl, rfl, _, rfl, ?_⟩
  rw [hg]
  cases hh : hopOk (tS s) one other with
  | false =>
    have : M.hr (tS s) one other (one.length - 1) (other.length - 1) = false := hh
    rw [this]
    exact iteT (h0 hh)
  | true =>
    have h2 : M.hr (tS s) one other (one.length - 1) (other.length - 1) = true := hh
    rw [h2]
    refine iteF ⟨_, rfl, _, rfl, rk2, ks, vs, _, rfl, hc, hg.trans h2, ?_, fun xs => h1 hh xs⟩
    unfold rk2
    simp
    omega
def t_hop_fence : Tr := fun ds k => ∃ (one other : List Pt) (s : Rat) (also : Bool), ds = [ln one, ln other, fr s, .bl also] ∧ Lz one ∧ Lz other ∧ Fz 4000 s ∧ ∀ d, k d
theorem len_hop_fence : ∀ ds k, t_hop_fence ds k → ds.length = 4 := by
  rintro ds k ⟨_, _, _, _, rfl, _⟩
  rfl
abbrev nm_hop_fence : List Str := ["one", "other", "square", "also", "far"]
theorem sc_hop_fence : FnScope nm_hop_fence ["one", "other", "square", "also"] (defScope s_hop_fence) := ⟨rfl, rfl, rfl, by decide +kernel, rfl, by decide +kernel, by decide +kernel⟩
theorem k_hop_fence (T : Txt K mg) : Kept P w K mg base "hop_fence" ["one", "other", "square", "also"] [] 8 t_hop_fence := by
  obtain ⟨fd, F⟩ := T.says.def_ 81 (d := d_hop_fence) rfl
  refine kept_of (N := nm_hop_fence) (body := defBody s_hop_fence) (scope := defScope s_hop_fence) (params := defArgs s_hop_fence) F (g_hop_fence T) sc_hop_fence len_hop_fence (fun _ _ _ _ _ _ us hl => match us, hl with | [_, _, _, _], _ => rfl) (fun cdv A outer s H E hr => ⟨_, _,
      (pbd_cons (psd_set (i := 4) sc_hop_fence.nd rfl (by first | exact .inl rfl | exact .inr rfl) (pd_call (k_far_pairs T) (hr.mono (by decide)) (by rfl) (pda_cons (pd_call (k_squares_of T) (hr.mono (by decide)) (by rfl) (pda_cons (pdv 0) (pda_cons (pdv 1) pda_nil))) (pda_cons (pdv 2) (pda_cons (pdv 3) pda_nil)))))
      (pbd_one (psd_ret (pd_call (k_fence_among T) (hr.mono (by decide)) (by rfl) (pda_cons (pdv 4) (pda_cons (pd_op op_sub r2_I (pd_bi call_len_seq rc_len (by rfl) (f_len T) PySem.boot_len (pda_cons (pdv 0) pda_nil)) pd_int) (pda_cons (pd_op op_sub r2_I (pd_bi call_len_seq rc_len (by rfl) (f_len T) PySem.boot_len (pda_cons (pdv 1) pda_nil)) pd_int) pda_nil))))))), ?_⟩)
  rintro ds k ⟨one, other, s, also, rfl, z1, z2, zs, hk⟩
  refine ⟨_, rfl, _, rfl, one, other, rfl, z1, z2, _, rfl, _, rfl, one, other, s, also, rfl, z1, z2, zs, fun ps hps => ?_⟩
  exact ⟨_, rfl, _, rfl, _, .inl rfl, _, _, rfl, rfl, _, rfl, _, .inl rfl, _, _, rfl, rfl, ps, _, _, rfl, hps, hk⟩
def t_go_hops : Tr := fun ds k => ∃ (one other : List Pt) (s : Rat), ds = [ln one, ln other, fr s] ∧ Lz one ∧ Lz other ∧ Fz 4000 s ∧ 0 ≤ s ∧ ∀ d, k (goD (hopOk (tS s) one other) d)
theorem len_go_hops : ∀ ds k, t_go_hops ds k → ds.length = 3 := by
  rintro ds k ⟨_, _, _, rfl, _⟩
  rfl
abbrev nm_go_hops : List Str := ["one", "other", "square", "walk"]
theorem sc_go_hops : FnScope nm_go_hops ["one", "other", "square"] (defScope s_go_hops) := ⟨rfl, rfl, rfl, by decide +kernel, rfl, by decide +kernel, by decide +kernel⟩
theorem k_go_hops (T : Txt K mg) : Kept P w K mg base "go_hops" ["one", "other", "square"] [] 9 t_go_hops := by
  obtain ⟨fd, F⟩ := T.says.def_ 82 (d := d_go_hops) rfl
  refine kept_of (N := nm_go_hops) (body := defBody s_go_hops) (scope := defScope s_go_hops) (params := defArgs s_go_hops) F (g_go_hops T) sc_go_hops len_go_hops (fun _ _ _ _ _ _ us hl => match us, hl with | [_, _, _], _ => rfl) (fun cdv A outer s H E hr => ⟨_, _,
      (pbd_cons (psd_expr (pd_call (k_look_at_square T) (hr.mono (by decide)) (by rfl) (pda_cons (pdv 2) pda_nil)))
      (pbd_cons (psd_set (i := 3) sc_go_hops.nd rfl (by first | exact .inl rfl | exact .inr rfl) (pd_call (k_hop_walk T) (hr.mono (by decide)) (by rfl) (pda_cons (pdv 0) (pda_cons (pdv 1) (pda_cons (pdv 2) pda_nil)))))
      (pbd_cons (psd_if (pdt_cmp op_notN r2_notN (pdv 3) pd_non) (pbd_one (psd_ret (pd_tup (pda_cons pd_str (pda_cons (pdv 3) pda_nil))))) pbd_nil)
      (pbd_one (psd_ret (pd_tup (pda_cons pd_str (pda_cons (pd_call (k_hop_fence T) (hr.mono (by decide)) (by rfl) (pda_cons (pdv 0) (pda_cons (pdv 1) (pda_cons (pdv 2) (pda_cons pd_bl pda_nil))))) pda_nil)))))))), ?_⟩)
  rintro ds k ⟨one, other, s, rfl, z1, z2, zs, s0, hk⟩
  refine ⟨_, rfl, s, rfl, s0, _, rfl, _, rfl, _, rfl, one, other, s, rfl, z1, z2, zs, fun h => ?_, fun h xs => ?_⟩
  · rw [h] at hk
    refine ⟨_, rfl, rfl, _, rfl, iteF ?_⟩
    refine ⟨_, rfl, _, rfl, _, rfl, one, other, s, false, rfl, z1, z2, zs, fun d => ⟨tl2, hk d⟩⟩
  · rw [h] at hk
    refine ⟨_, rfl, rfl, _, rfl, iteT ?_⟩
    exact ⟨_, rfl, tl2, hk _⟩
end
end G
namespace G
open PySem PySem.Spec PyProof.Rows L2 DL M
section
variable {P : Program} {w : World} {K : PySem.W.Frag} {mg : Str → Option Value} {base : Heap}
def t_is_barred : Tr := fun ds k => ∃ (a b : Rat) (c : Bool), ds = [fr a, fr b, .bl c] ∧ Fz 4000 a ∧ Fz 4000 b ∧ (c = false → k (.bl (decide (b < a)))) ∧ (c = true → ∀ x, k (.bl x))
theorem len_is_barred : ∀ ds k, t_is_barred ds k → ds.length = 3 := by
  rintro ds k ⟨_, _, _, rfl, _⟩
  rfl
abbrev nm_is_barred : List Str := ["least", "square", "closed"]
theorem sc_is_barred : FnScope nm_is_barred ["least", "square", "closed"] (defScope s_is_barred) := ⟨rfl, rfl, rfl, by decide +kernel, rfl, by decide +kernel, by decide +kernel⟩
theorem k_is_barred (T : Txt K mg) : Kept P w K mg base "is_barred" ["least", "square", "closed"] [] 2 t_is_barred := by
  obtain ⟨fd, F⟩ := T.says.def_ 30 (d := d_is_barred) rfl
  refine kept_of (N := nm_is_barred) (body := defBody s_is_barred) (scope := defScope s_is_barred) (params := defArgs s_is_barred) F (g_is_barred T) sc_is_barred len_is_barred (fun _ _ _ _ _ _ us hl => match us, hl with | [_, _, _], _ => rfl) (fun cdv A outer s H E hr => ⟨_, _,
      (pbd_one (psd_ret (pd_or (pd_call (k_less T) (hr.mono (by decide)) (by rfl) (pda_cons (pdv 1) (pda_cons (pdv 0) pda_nil))) (pd_one (pd_and (pdv 2) (pd_one (pd_cmp (op_eqA hr.units) r2_eq (pdv 0) (pdv 1)))))))), ?_⟩)
  rintro ds k ⟨a, b, c, rfl, za, zb, h0, h1⟩
  refine ⟨_, rfl, _, rfl, _, _, rfl, zb, za, _, rfl, ?_⟩
  cases c with
  | false =>
    have h0 := h0 rfl
    refine ite2 (fun h => ?_) (fun h => ?_)
    · rw [h] at h0
      exact h0
    · rw [ofNot h] at h0
      exact ⟨_, rfl, _, rfl, iteF h0⟩
  | true =>
    refine ite2 (fun h => h1 rfl _) (fun h => ?_)
    exact ⟨_, rfl, _, rfl, iteT ⟨_, rfl, _, rfl, _, rfl, h1 rfl _⟩⟩
def t_least_up : Tr := fun ds k => ∃ (one other : List Pt) (i j : Nat), ds = [ln one, ln other, .int i, .int j] ∧ Lz one ∧ Lz other ∧ i < one.length ∧ j + 1 < other.length ∧ ∀ (v : Rat) (p : Dat), Fz 2000 v → (gp one i = gp other j ∨ gp one i = gp other (j + 1) → v = 0) → k (.tup [fr v, p])
theorem len_least_up : ∀ ds k, t_least_up ds k → ds.length = 4 := by
  rintro ds k ⟨_, _, _, _, rfl, _⟩
  rfl
abbrev nm_least_up : List Str := ["one", "other", "i", "j", "least", "place"]
theorem sc_least_up : FnScope nm_least_up ["one", "other", "i", "j"] (defScope s_least_up) := ⟨rfl, rfl, rfl, by decide +kernel, rfl, by decide +kernel, by decide +kernel⟩
theorem k_least_up (T : Txt K mg) : Kept P w K mg base "least_up" ["one", "other", "i", "j"] [] 7 t_least_up := by
  obtain ⟨fd, F⟩ := T.says.def_ 31 (d := d_least_up) rfl
  refine kept_of (N := nm_least_up) (body := defBody s_least_up) (scope := defScope s_least_up) (params := defArgs s_least_up) F (g_least_up T) sc_least_up len_least_up (fun _ _ _ _ _ _ us hl => match us, hl with | [_, _, _, _], _ => rfl) (fun cdv A outer s H E hr => ⟨_, _,
      (pbd_cons (psd_asg (pd_call (k_least_along T) (hr.mono (by decide)) (by rfl) (pda_cons (pdv 0) (pda_cons (pd_tup (pda_cons (pdv 2) (pda_cons pd_int pda_nil))) (pda_cons (pdv 1) (pda_cons (pd_tup (pda_cons (pdv 3) (pda_cons pd_int pda_nil))) (pda_cons (pd_tup (pda_cons (pd_op op_add r2_I (pdv 3) pd_int) (pda_cons pd_int pda_nil))) pda_nil)))))) (pgd_tupK (K := K) (n := 2) rfl rfl (pgds_cons (pgd_name (i := 4) sc_least_up.nd rfl (by first | exact .inl rfl | exact .inr rfl)) (pgds_cons (pgd_name (i := 5) sc_least_up.nd rfl (by first | exact .inl rfl | exact .inr rfl)) pgds_nil))))
      (pbd_one (psd_ret (pd_tup (pda_cons (pdv 4) (pda_cons (pd_tup (pda_cons (pd_tup (pda_cons (pdv 2) (pda_cons pd_int pda_nil))) (pda_cons (pdv 5) pda_nil))) pda_nil)))))), ?_⟩)
  rintro ds k ⟨one, other, i, j, rfl, z1, z2, hi, hj, hk⟩
  refine ⟨_, rfl, _, rfl, tl2, _, rfl, _, rfl, tl2, _, rfl, _, _, rfl, rfl, tl2, one, other, i, j, rfl, z1, z2, hi, hj, fun v p zv hv => ?_⟩
  refine ⟨_, rfl, rfl, _, _, rfl, _, _, rfl, rfl, ?_⟩
  exact ⟨_, rfl, _, rfl, tl2, _, rfl, tl2, tl2, hk _ _ zv hv⟩
def t_least_right : Tr := fun ds k => ∃ (one other : List Pt) (i j : Nat), ds = [ln one, ln other, .int i, .int j] ∧ Lz one ∧ Lz other ∧ i + 1 < one.length ∧ j < other.length ∧ ∀ (v : Rat) (p : Dat), Fz 2000 v → (gp other j = gp one i ∨ gp other j = gp one (i + 1) → v = 0) → k (.tup [fr v, p])
theorem len_least_right : ∀ ds k, t_least_right ds k → ds.length = 4 := by
  rintro ds k ⟨_, _, _, _, rfl, _⟩
  rfl
abbrev nm_least_right : List Str := ["one", "other", "i", "j", "least", "place"]
theorem sc_least_right : FnScope nm_least_right ["one", "other", "i", "j"] (defScope s_least_right) := ⟨rfl, rfl, rfl, by decide +kernel, rfl, by decide +kernel, by decide +kernel⟩
theorem k_least_right (T : Txt K mg) : Kept P w K mg base "least_right" ["one", "other", "i", "j"] [] 7 t_least_right := by
  obtain ⟨fd, F⟩ := T.says.def_ 32 (d := d_least_right) rfl
  refine kept_of (N := nm_least_right) (body := defBody s_least_right) (scope := defScope s_least_right) (params := defArgs s_least_right) F (g_least_right T) sc_least_right len_least_right (fun _ _ _ _ _ _ us hl => match us, hl with | [_, _, _, _], _ => rfl) (fun cdv A outer s H E hr => ⟨_, _,
      (pbd_cons (psd_asg (pd_call (k_least_along T) (hr.mono (by decide)) (by rfl) (pda_cons (pdv 1) (pda_cons (pd_tup (pda_cons (pdv 3) (pda_cons pd_int pda_nil))) (pda_cons (pdv 0) (pda_cons (pd_tup (pda_cons (pdv 2) (pda_cons pd_int pda_nil))) (pda_cons (pd_tup (pda_cons (pd_op op_add r2_I (pdv 2) pd_int) (pda_cons pd_int pda_nil))) pda_nil)))))) (pgd_tupK (K := K) (n := 2) rfl rfl (pgds_cons (pgd_name (i := 4) sc_least_right.nd rfl (by first | exact .inl rfl | exact .inr rfl)) (pgds_cons (pgd_name (i := 5) sc_least_right.nd rfl (by first | exact .inl rfl | exact .inr rfl)) pgds_nil))))
      (pbd_one (psd_ret (pd_tup (pda_cons (pdv 4) (pda_cons (pd_tup (pda_cons (pdv 5) (pda_cons (pd_tup (pda_cons (pdv 3) (pda_cons pd_int pda_nil))) pda_nil))) pda_nil)))))), ?_⟩)
  rintro ds k ⟨one, other, i, j, rfl, z1, z2, hi, hj, hk⟩
  refine ⟨_, rfl, _, rfl, tl2, _, rfl, _, rfl, tl2, _, rfl, _, _, rfl, rfl, tl2, other, one, j, i, rfl, z2, z1, hj, hi, fun v p zv hv => ?_⟩
  refine ⟨_, rfl, rfl, _, _, rfl, _, _, rfl, rfl, ?_⟩
  exact ⟨_, rfl, _, rfl, _, rfl, tl2, tl2, tl2, hk _ _ zv hv⟩
def t_way_back : Tr := fun ds k => ∃ (rank : List Int → Nat) (ks : List (List Int)) (vs : List Dat) (kk : List Int), ds = [.dct ks vs, keyT kk] ∧ ChOk rank ks vs ∧ (getK ks vs kk).isSome = true ∧ rank kk ≤ 10000 ∧ ∀ (r : List Int) (rs : List (List Int)), rs.length ≤ 20000 → (getK ks vs r).isSome = true → (∀ x ∈ rs, ∃ k', getK ks vs x = some (keyT k')) → k (.lst ((r :: rs).map keyT))
theorem len_way_back : ∀ ds k, t_way_back ds k → ds.length = 2 := by
  rintro ds k ⟨_, _, _, _, rfl, _⟩
  rfl
abbrev nm_way_back : List Str := ["came", "spot", "row"]
theorem sc_way_back : FnScope nm_way_back ["came", "spot"] (defScope s_way_back) := ⟨rfl, rfl, rfl, by decide +kernel, rfl, by decide +kernel, by decide +kernel⟩
theorem k_way_back (T : Txt K mg) : Kept P w K mg base "way_back" ["came", "spot"] [] 1 t_way_back := by
  obtain ⟨fd, F⟩ := T.says.def_ 35 (d := d_way_back) rfl
  refine kept_of (N := nm_way_back) (body := defBody s_way_back) (scope := defScope s_way_back) (params := defArgs s_way_back) F (g_way_back T) sc_way_back len_way_back (fun _ _ _ _ _ _ us hl => match us, hl with | [_, _], _ => rfl) (fun cdv A outer s H E hr => ⟨_, _,
      (pbd_cons (psd_own (i := 2) sc_way_back.nd rfl (by first | exact .inl rfl | exact .inr rfl) (pl_lst (pda_cons (pdv 1) pda_nil)))
      (pbd_cons (psd_while PassesOwn.never (pdt_cmp op_notN r2_notN (pd_dget (hu_of hr) (pdv 0) (pd_ixO (pv 2) (pd_un un_neg ru_I pd_int))) pd_non)
      (pbd_one (let ae := (pd_dget (hu_of hr) (pdv 0) (pd_ixO (pv 2) (pd_un un_neg ru_I pd_int))); psd_app (i := 2) rfl (by first | exact .inl rfl | exact .inr (.inl rfl)) ae (pe_bm PySem.F.plainAttrs_list PySem.F.slot_list_append PySem.F.type_list_append mt_append (pv 2) (pa_cons ae.run pa_nil)))))
      (pbd_one (psd_frz 2 (psd_ret (pd_sh (pl_rev (pdv 2)))))))), ?_⟩)
  rintro ds k ⟨rank, ks, vs, kk, rfl, hc, hs, hrk, hk⟩
  refine ⟨_, rfl, tl1, fun m ρ => ∃ (cur : List Int) (rs : List (List Int)), ρ = [some (.sh (.dct ks vs)), some (.sh (keyT kk)), some (.ol ((rs ++ [cur]).map keyT))] ∧ rs.length + m ≤ rank kk ∧ m = rank cur ∧ (getK ks vs cur).isSome = true ∧ ∀ x ∈ rs, ∃ k', getK ks vs x = some (keyT k'), ⟨rank kk, kk, [], rfl, by simp, rfl, hs, fun x h => by cases h⟩, ?_⟩
  rintro m ρ ⟨cur, rs, rfl, hl, rfl, hcur, hrs⟩
  obtain ⟨d, hd⟩ := Option.isSome_iff_exists.mp hcur
  obtain ⟨_, hd2⟩ := hc.2 _ _ hd
  have hat : atI ((rs ++ [cur]).map keyT) (-1) = some (keyT cur) := by
    rw [List.map_append]
    exact atI_last _ _
  refine ⟨_, rfl, _, _, rfl, _, rfl, _, rfl, _, _, rfl, hat, _, _, rfl, hd, rfl, _, rfl, ?_⟩
  rcases hd2 with rfl | ⟨k', rfl, h2, h3⟩
  · refine iteF (.inl ⟨_, rfl, _, rfl, _, rfl, ?_⟩)
    have e : ((rs ++ [cur]).map keyT).reverse = (cur :: rs.reverse).map keyT := by simp [List.map_reverse]
    rw [e]
    exact hk cur rs.reverse (by rw [List.length_reverse]; omega) hcur (fun x hx => hrs x (List.mem_reverse.mp hx))
  · refine iteT ?_
    refine ⟨_, rfl, by simp; omega, _, rfl, _, _, rfl, _, rfl, _, rfl, _, _, rfl, hat, _, _, rfl, hd, ?_⟩
    refine ⟨rank k', by omega, k', rs ++ [cur], by rw [List.map_append (l₁ := rs ++ [cur])]; rfl, by rw [List.length_append]; simp; omega, rfl, h2, fun x hx => ?_⟩
    rcases List.mem_append.mp hx with z | z
    · exact hrs x z
    · rw [List.mem_singleton.mp z]; exact ⟨k', hd⟩
def gateD (n : Nat) (e : Dat) : Prop := ∃ (a b : Nat) (v : Rat) (p : Dat), e = .tup [.tup [.int a, .int b], fr v, p] ∧ a < n ∧ b < n ∧ Fz 2000 v
def gEnv (one : List Pt) (i j : Nat) (es : List Dat) : EnvD := [some (.sh (ln one)), some (.sh (ln one)), some (.sh (.int i)), some (.sh (.int j)), some (.ol es)]
theorem gate_snoc {n : Nat} {es : List Dat} {e : Dat} (h : ∀ e ∈ es, gateD n e) (g : gateD n e) : ∀ x ∈ es ++ [e], gateD n x := fun x hx => by
  rcases List.mem_append.mp hx with z | z
  · exact h x z
  · rw [List.mem_singleton.mp z]; exact g
def t_gates_from : Tr := fun ds k => ∃ (one : List Pt) (i j : Nat), ds = [ln one, ln one, .int i, .int j] ∧ Lz one ∧ i + 1 < one.length ∧ j + 1 < one.length ∧ ∀ es : List Dat, es.length ≤ 4 → (∀ e ∈ es, gateD (one.length - 1) e) → (i + 2 < one.length → ∃ (v : Rat) (p : Dat), Dat.tup [.tup [.int ((i : Int) + 1), .int j], fr v, p] ∈ es ∧ (j = i → v = 0)) →
  (j + 2 < one.length → ∃ (v : Rat) (p : Dat), Dat.tup [.tup [.int i, .int ((j : Int) + 1)], fr v, p] ∈ es ∧ (i = j + 1 → v = 0)) → k (.lst es)
theorem len_gates_from : ∀ ds k, t_gates_from ds k → ds.length = 4 := by
  rintro ds k ⟨_, _, _, rfl, _⟩
  rfl
abbrev nm_gates_from : List Str := ["one", "other", "i", "j", "found"]
theorem sc_gates_from : FnScope nm_gates_from ["one", "other", "i", "j"] (defScope s_gates_from) := ⟨rfl, rfl, rfl, by decide +kernel, rfl, by decide +kernel, by decide +kernel⟩
theorem k_gates_from (T : Txt K mg) : Kept P w K mg base "gates_from" ["one", "other", "i", "j"] [] 8 t_gates_from := by
  obtain ⟨fd, F⟩ := T.says.def_ 37 (d := d_gates_from) rfl
  refine kept_of (N := nm_gates_from) (body := defBody s_gates_from) (scope := defScope s_gates_from) (params := defArgs s_gates_from) F (g_gates_from T) sc_gates_from len_gates_from (fun _ _ _ _ _ _ us hl => match us, hl with | [_, _, _, _], _ => rfl) (fun cdv A outer s H E hr => ⟨_, _,
      (pbd_cons (psd_own (i := 4) sc_gates_from.nd rfl (by first | exact .inl rfl | exact .inr rfl) (pl_lst pda_nil))
      (pbd_cut (psd_if (pdt_cmp op_gt r2_B (pdv 2) pd_int) (pbd_one (let ae := (pd_op op_catA r2_catT (pd_tup (pda_cons (pd_tup (pda_cons (pd_op op_sub r2_I (pdv 2) pd_int) (pda_cons (pdv 3) pda_nil))) pda_nil)) (pd_call (k_least_up T) (hr.mono (by decide)) (by rfl) (pda_cons (pdv 0) (pda_cons (pdv 1) (pda_cons (pdv 2) (pda_cons (pdv 3) pda_nil)))))); psd_app (i := 4) rfl (by first | exact .inl rfl | exact .inr (.inl rfl)) ae (pe_bm PySem.F.plainAttrs_list PySem.F.slot_list_append PySem.F.type_list_append mt_append (pv 4) (pa_cons ae.run pa_nil)))) pbd_nil)
      (pbd_cut (psd_if (pdt_cmp op_gt r2_B (pdv 3) pd_int) (pbd_one (let ae := (pd_op op_catA r2_catT (pd_tup (pda_cons (pd_tup (pda_cons (pdv 2) (pda_cons (pd_op op_sub r2_I (pdv 3) pd_int) pda_nil))) pda_nil)) (pd_call (k_least_right T) (hr.mono (by decide)) (by rfl) (pda_cons (pdv 0) (pda_cons (pdv 1) (pda_cons (pdv 2) (pda_cons (pdv 3) pda_nil)))))); psd_app (i := 4) rfl (by first | exact .inl rfl | exact .inr (.inl rfl)) ae (pe_bm PySem.F.plainAttrs_list PySem.F.slot_list_append PySem.F.type_list_append mt_append (pv 4) (pa_cons ae.run pa_nil)))) pbd_nil)
      (pbd_cut (psd_if (pdt_cmp op_lt r2_B (pd_op op_add r2_I (pdv 2) pd_int) (pd_call (k_last_of T) (hr.mono (by decide)) (by rfl) (pda_cons (pdv 0) pda_nil))) (pbd_one (let ae := (pd_op op_catA r2_catT (pd_tup (pda_cons (pd_tup (pda_cons (pd_op op_add r2_I (pdv 2) pd_int) (pda_cons (pdv 3) pda_nil))) pda_nil)) (pd_call (k_least_up T) (hr.mono (by decide)) (by rfl) (pda_cons (pdv 0) (pda_cons (pdv 1) (pda_cons (pd_op op_add r2_I (pdv 2) pd_int) (pda_cons (pdv 3) pda_nil)))))); psd_app (i := 4) rfl (by first | exact .inl rfl | exact .inr (.inl rfl)) ae (pe_bm PySem.F.plainAttrs_list PySem.F.slot_list_append PySem.F.type_list_append mt_append (pv 4) (pa_cons ae.run pa_nil)))) pbd_nil)
      (pbd_cut (psd_if (pdt_cmp op_lt r2_B (pd_op op_add r2_I (pdv 3) pd_int) (pd_call (k_last_of T) (hr.mono (by decide)) (by rfl) (pda_cons (pdv 1) pda_nil))) (pbd_one (let ae := (pd_op op_catA r2_catT (pd_tup (pda_cons (pd_tup (pda_cons (pdv 2) (pda_cons (pd_op op_add r2_I (pdv 3) pd_int) pda_nil))) pda_nil)) (pd_call (k_least_right T) (hr.mono (by decide)) (by rfl) (pda_cons (pdv 0) (pda_cons (pdv 1) (pda_cons (pdv 2) (pda_cons (pd_op op_add r2_I (pdv 3) pd_int) pda_nil)))))); psd_app (i := 4) rfl (by first | exact .inl rfl | exact .inr (.inl rfl)) ae (pe_bm PySem.F.plainAttrs_list PySem.F.slot_list_append PySem.F.type_list_append mt_append (pv 4) (pa_cons ae.run pa_nil)))) pbd_nil)
      (pbd_one (psd_frz 4 (psd_ret (pdv 4))))))))), ?_⟩)
  rintro ds k ⟨one, i, j, rfl, zl, hi, hj, hk⟩
  have w1 := zl.2.1
  refine ⟨Nat.zero_le _, ?_⟩
  refine ⟨fun ρ => ∃ es, ρ = gEnv one i j es ∧ es.length ≤ 1 ∧ ∀ e ∈ es, gateD (one.length - 1) e, ?_, ?_⟩
  · refine ⟨_, rfl, _, _, rfl, rfl, _, rfl, ?_⟩
    refine ite2 (fun h => ?_) (fun h => ?_)
    · have h' : (0 : Int) < (i : Int) := by simpa using h
      refine ⟨_, rfl, Nat.zero_lt_succ _, _, rfl, _, _, rfl, rfl, _, rfl, tl2, tl1, _, rfl, _, rfl, _, rfl, _, rfl, one, one, i, j, rfl, zl, zl, by omega, hj, fun v p zv _ => ?_⟩
      refine ⟨[_], [_, _], rfl, rfl, by simp, by simp, Nat.le_of_ble_eq_true rfl, ?_⟩
      exact ⟨_, rfl, Nat.le_refl _, gate_snoc (fun e h => nomatch h) ⟨i - 1, j, v, p, by rw [show ((i : Int) - 1) = ((i - 1 : Nat) : Int) by omega]; rfl, by omega, by omega, zv⟩⟩
    · exact ⟨[], rfl, Nat.zero_le _, fun e h => nomatch h⟩
  rintro ρ ⟨es, rfl, hl, hg⟩
  refine ⟨fun ρ => ∃ es, ρ = gEnv one i j es ∧ es.length ≤ 2 ∧ ∀ e ∈ es, gateD (one.length - 1) e, ?_, ?_⟩
  · refine ⟨_, rfl, _, _, rfl, rfl, _, rfl, ?_⟩
    refine ite2 (fun h => ?_) (fun h => ?_)
    · have h' : (0 : Int) < (j : Int) := by simpa using h
      refine ⟨_, rfl, by omega, _, rfl, _, rfl, _, _, rfl, rfl, tl2, tl1, _, rfl, _, rfl, _, rfl, _, rfl, one, one, i, j, rfl, zl, zl, hi, by omega, fun v p zv _ => ?_⟩
      refine ⟨[_], [_, _], rfl, rfl, by simp, by simp, Nat.le_of_ble_eq_true rfl, ?_⟩
      exact ⟨_, rfl, by rw [List.length_append]; exact Nat.add_le_add_right hl 1, gate_snoc hg ⟨i, j - 1, v, p, by rw [show ((j : Int) - 1) = ((j - 1 : Nat) : Int) by omega]; rfl, by omega, by omega, zv⟩⟩
    · exact ⟨es, rfl, by omega, hg⟩
  rintro ρ ⟨es, rfl, hl, hg⟩
  refine ⟨fun ρ => ∃ es, ρ = gEnv one i j es ∧ es.length ≤ 3 ∧ (∀ e ∈ es, gateD (one.length - 1) e) ∧ (i + 2 < one.length → ∃ (v : Rat) (p : Dat), Dat.tup [.tup [.int ((i : Int) + 1), .int j], fr v, p] ∈ es ∧ (j = i → v = 0)), ?_, ?_⟩
  · refine ⟨_, rfl, _, _, rfl, rfl, _, rfl, _, rfl, _, _, rfl, rfl, _, rfl, ?_⟩
    refine ite2 (fun h => ?_) (fun h => ?_)
    · have h' : (i : Int) + 1 < ((one.map pt).length : Int) - 1 := by simpa using h
      rw [List.length_map] at h'
      refine ⟨_, rfl, by omega, _, rfl, _, _, rfl, rfl, _, rfl, tl2, tl1, _, rfl, _, rfl, _, rfl, _, _, rfl, rfl, _, rfl, one, one, i + 1, j, rfl, zl, zl, by omega, hj, fun v p zv hv => ?_⟩
      refine ⟨[_], [_, _], rfl, rfl, by simp, by simp, Nat.le_of_ble_eq_true rfl, ?_⟩
      refine ⟨_, rfl, by rw [List.length_append]; exact Nat.add_le_add_right hl 1, gate_snoc hg ⟨i + 1, j, v, p, rfl, by omega, by omega, zv⟩, fun _ => ⟨v, p, by simp, fun e => hv (.inr (by rw [e]))⟩⟩
    · have h' : ¬ ((i : Int) + 1 < ((one.map pt).length : Int) - 1) := by simpa using h
      rw [List.length_map] at h'
      exact ⟨es, rfl, by omega, hg, fun z => absurd z (by omega)⟩
  rintro ρ ⟨es, rfl, hl, hg, hu⟩
  refine ⟨fun ρ => ∃ es, ρ = gEnv one i j es ∧ es.length ≤ 4 ∧ (∀ e ∈ es, gateD (one.length - 1) e) ∧ (i + 2 < one.length → ∃ (v : Rat) (p : Dat), Dat.tup [.tup [.int ((i : Int) + 1), .int j], fr v, p] ∈ es ∧ (j = i → v = 0)) ∧
    (j + 2 < one.length → ∃ (v : Rat) (p : Dat), Dat.tup [.tup [.int i, .int ((j : Int) + 1)], fr v, p] ∈ es ∧ (i = j + 1 → v = 0)), ?_, ?_⟩
  · refine ⟨_, rfl, _, _, rfl, rfl, _, rfl, _, rfl, _, _, rfl, rfl, _, rfl, ?_⟩
    refine ite2 (fun h => ?_) (fun h => ?_)
    · have h' : (j : Int) + 1 < ((one.map pt).length : Int) - 1 := by simpa using h
      rw [List.length_map] at h'
      refine ⟨_, rfl, by omega, _, rfl, _, rfl, _, _, rfl, rfl, tl2, tl1, _, rfl, _, rfl, _, rfl, _, rfl, _, _, rfl, rfl, one, one, i, j + 1, rfl, zl, zl, hi, by omega, fun v p zv hv => ?_⟩
      refine ⟨[_], [_, _], rfl, rfl, by simp, by simp, Nat.le_of_ble_eq_true rfl, ?_⟩
      refine ⟨_, rfl, by rw [List.length_append]; exact Nat.add_le_add_right hl 1, gate_snoc hg ⟨i, j + 1, v, p, rfl, by omega, by omega, zv⟩, fun z => ?_, fun _ => ⟨v, p, by simp, fun e => hv (.inl (by rw [e]))⟩⟩
      obtain ⟨v', p', q1, q2⟩ := hu z
      exact ⟨v', p', List.mem_append_left _ q1, q2⟩
    · have h' : ¬ ((j : Int) + 1 < ((one.map pt).length : Int) - 1) := by simpa using h
      rw [List.length_map] at h'
      exact ⟨es, rfl, by omega, hg, hu, fun z => absurd z (by omega)⟩
  rintro ρ ⟨es, rfl, hl, hg, hu, hr2⟩
  exact .inl ⟨_, rfl, _, rfl, hk es hl hg hu hr2⟩
end
end G
namespace G
open PySem PySem.Spec PyProof.Rows L2 DL M
section
variable {P : Program} {w : World} {K : PySem.W.Frag} {mg : Str → Option Value} {base : Heap}
def grid (n : Nat) : List (Int × Int) := (List.range n).flatMap fun (a : Nat) => (List.range n).map fun (b : Nat) => ((a : Int), (b : Int))
theorem grid_mem {n a b : Nat} (ha : a < n) (hb : b < n) : ((a : Int), (b : Int)) ∈ grid n := by
  unfold grid
  rw [List.mem_flatMap]
  exact ⟨a, List.mem_range.mpr ha, List.mem_map.mpr ⟨b, List.mem_range.mpr hb, rfl⟩⟩
theorem mem_grid {n : Nat} {p : Int × Int} (h : p ∈ grid n) : ∃ a b : Nat, p = ((a : Int), (b : Int)) ∧ a < n ∧ b < n := by
  unfold grid at h
  rw [List.mem_flatMap] at h
  obtain ⟨a, ha, h⟩ := h
  obtain ⟨b, hb, rfl⟩ := List.mem_map.mp h
  exact ⟨a, b, rfl, List.mem_range.mp ha, List.mem_range.mp hb⟩
theorem grid_len (n : Nat) : (grid n).length = n * n := by
  unfold grid
  simp [List.length_flatMap, List.map_const', List.sum_replicate_nat]
/-- what the field w has been asked for -/
def Asked (n : Nat) (ks : List (List Int)) (vs : List Dat) (w : Int × Int) : Prop := (w.1 + 1 < n → w.2 = w.1 → (getK ks vs [w.1 + 1, w.2]).isSome = true) ∧ (w.2 + 1 < n → w.1 = w.2 + 1 → (getK ks vs [w.1, w.2 + 1]).isSome = true)
structure SInv (n : Nat) (ks : List (List Int)) (vs : List Dat) (kp : List (List Int)) (vp : List Dat) (ws : List (Int × Int)) : Prop where
  f : FInv (grid n) ks vs ws
  all : ∀ w ∈ ws, w ∈ grid n ∧ (getK ks vs (k2 w)).isSome = true
  back : ∀ k, (getK ks vs k).isSome = true → ∃ w ∈ ws, k2 w = k
  zero : (getK ks vs [0, 0]).isSome = true
  lp : kp.length = vp.length
  pl : kp.length ≤ ks.length
  pr : ∀ r k', getK ks vs r = some (keyT k') → (getK kp vp r).isSome = true
theorem SInv.first {n : Nat} (h : 0 < n) : SInv n [[0, 0]] [.non] [] [] [(0, 0)] := by
  have gk : ∀ k, (getK [[0, 0]] [Dat.non] k).isSome = true → k = [0, 0] := fun k hk => by
    by_cases e : [0, 0] = k
    · exact e.symm
    · have : getK [[0, 0]] [Dat.non] k = if [0, 0] = k then some Dat.non else none := rfl
      rw [this, if_neg e] at hk
      cases hk
  have g0 : getK [[0, 0]] [Dat.non] [0, 0] = some Dat.non := rfl
  refine ⟨⟨⟨fun _ => 0, 1, ⟨rfl, fun k d hd => ?_⟩, fun k hk => Nat.zero_lt_one, by decide⟩, by simp, fun k hk => ?_, by simp⟩, fun w hw => ?_, fun k hk => ⟨(0, 0), by simp, (gk k hk).symm⟩, rfl, rfl, Nat.zero_le _, fun r k' hr => ?_⟩
  · have := gk k (by rw [hd]; rfl)
    subst this
    rw [g0] at hd
    cases hd
    exact ⟨⟨0, 0, rfl⟩, .inl rfl⟩
  · rw [List.mem_singleton.mp hk]
    exact List.mem_map.mpr ⟨(0, 0), grid_mem h h, rfl⟩
  · rw [List.mem_singleton.mp hw]
    exact ⟨grid_mem h h, rfl⟩
  · have := gk r (by rw [hr]; rfl)
    subst this
    rw [g0] at hr
    cases hr
theorem SInv.next {n : Nat} {ks : List (List Int)} {vs : List Dat} {kp : List (List Int)} {vp : List Dat} {ws : List (Int × Int)} (h : SInv n ks vs kp vp ws) {p q : Int × Int} {d : Dat} (hp : p ∈ grid n) (hs : (getK ks vs (k2 p)).isSome = false) (hq : (getK ks vs (k2 q)).isSome = true) :
    SInv n (putKs ks vs (k2 p)) (putVs ks vs (k2 p) (keyT (k2 q))) (putKs kp vp (k2 p)) (putVs kp vp (k2 p) d) (ws ++ [p]) := by
  obtain ⟨rank, N, c1, c2, c3⟩ := h.f.ch
  have keep : ∀ k, (getK ks vs k).isSome = true → (getK (putKs ks vs (k2 p)) (putVs ks vs (k2 p) (keyT (k2 q))) k).isSome = true := fun k hk => by
    rw [getK_put _ _ _ c1.1]
    split
    · rfl
    · exact hk
  have e : putKs ks vs (k2 p) = ks ++ [k2 p] := putKs_new (by rw [hs]; exact Bool.false_ne_true)
  refine ⟨h.f.next hp hs hq, fun w hw => ?_, fun k hk => ?_, keep _ h.zero, put_len h.lp, ?_, fun r k' hr => ?_⟩
  · rcases List.mem_append.mp hw with z | z
    · exact ⟨(h.all w z).1, keep _ (h.all w z).2⟩
    · rw [List.mem_singleton.mp z]
      refine ⟨hp, ?_⟩
      rw [getK_put _ _ _ c1.1, if_pos rfl]
      rfl
  · rw [getK_put _ _ _ c1.1] at hk
    split at hk
    · rename_i z
      exact ⟨p, by simp, z⟩
    · obtain ⟨w, hw, e⟩ := h.back k hk
      exact ⟨w, List.mem_append_left _ hw, e⟩
  · rw [e, List.length_append]
    have := h.pl
    unfold putKs
    split
    · omega
    · rw [List.length_append]
      simp
      omega
  · rw [getK_put _ _ _ h.lp]
    rw [getK_put _ _ _ c1.1] at hr
    split
    · rfl
    · rename_i z
      rw [if_neg z] at hr
      exact h.pr r k' hr
theorem diag {n : Nat} {ks : List (List Int)} {vs : List Dat} (h0 : (getK ks vs [0, 0]).isSome = true) (ha : ∀ w : Int × Int, (getK ks vs (k2 w)).isSome = true → Asked n ks vs w) : ∀ i : Nat, i < n → (getK ks vs [(i : Int), (i : Int)]).isSome = true
  | 0, _ => h0
  | i + 1, hi => by
    have h1 := diag h0 ha i (by omega)
    have h2 := (ha ((i : Int), (i : Int)) h1).1 (by show (i : Int) + 1 < (n : Int); omega) rfl
    have h3 := (ha ((i : Int) + 1, (i : Int)) h2).2 (by show (i : Int) + 1 < (n : Int); omega) rfl
    exact h3
def t_fields_come_to : Tr := fun ds k => ∃ (one : List Pt) (s : Rat), ds = [ln one, ln one, fr s] ∧ Lz one ∧ 2 ≤ one.length ∧ Fz 4000 s ∧ 0 ≤ s ∧ ∀ rank ks vs kp vp, ChOk rank ks vs → (∀ r, (getK ks vs r).isSome = true → rank r ≤ 10000) → (∀ r k', getK ks vs r = some (keyT k') → (getK kp vp r).isSome = true) → (∀ i : Nat, i < one.length - 1 → (getK ks vs [(i : Int), (i : Int)]).isSome = true) → k (.tup [.dct ks vs, .dct kp vp])
theorem len_fields_come_to : ∀ ds k, t_fields_come_to ds k → ds.length = 3 := by
  rintro ds k ⟨_, _, rfl, _⟩
  rfl
abbrev nm_fields_come_to : List Str := ["one", "other", "square", "came", "pairs", "rim", "at", "i", "j", "beside", "least", "pair"]
theorem sc_fields_come_to : FnScope nm_fields_come_to ["one", "other", "square"] (defScope s_fields_come_to) := ⟨rfl, rfl, rfl, by decide +kernel, rfl, by decide +kernel, by decide +kernel⟩
theorem k_fields_come_to (T : Txt K mg) : Kept P w K mg base "fields_come_to" ["one", "other", "square"] [] 9 t_fields_come_to := by
  obtain ⟨fd, F⟩ := T.says.def_ 38 (d := d_fields_come_to) rfl
  refine kept_of (N := nm_fields_come_to) (body := defBody s_fields_come_to) (scope := defScope s_fields_come_to) (params := defArgs s_fields_come_to) F (g_fields_come_to T) sc_fields_come_to len_fields_come_to (fun _ _ _ _ _ _ us hl => match us, hl with | [_, _, _], _ => rfl) (fun cdv A outer s H E hr => ⟨_, _,
      (pbd_cons (psd_ownD1 (i := 3) (hu_of hr) sc_fields_come_to.nd rfl (by first | exact .inl rfl | exact .inr rfl) (pd_tup (pda_cons pd_int (pda_cons pd_int pda_nil))) pd_non)
      (pbd_cons (psd_ownD (i := 4) sc_fields_come_to.nd rfl (by first | exact .inl rfl | exact .inr rfl))
      (pbd_cons (psd_own (i := 5) sc_fields_come_to.nd rfl (by first | exact .inl rfl | exact .inr rfl) (pl_lst (pda_cons (pd_tup (pda_cons pd_int (pda_cons pd_int pda_nil))) pda_nil)))
      (pbd_cons (psd_set (i := 6) sc_fields_come_to.nd rfl (by first | exact .inl rfl | exact .inr rfl) pd_int)
      (pbd_cons (psd_while PassesOwn.never (pdt_cmp op_lt r2_B (pdv 6) (pd_lenO (x := "len") (by rfl) (f_len T) (pv 5)))
      (pbd_cons (psd_asg (pd_ixO (pv 5) (pdv 6)) (pgd_tupK (K := K) (n := 2) rfl rfl (pgds_cons (pgd_name (i := 7) sc_fields_come_to.nd rfl (by first | exact .inl rfl | exact .inr rfl)) (pgds_cons (pgd_name (i := 8) sc_fields_come_to.nd rfl (by first | exact .inl rfl | exact .inr rfl)) pgds_nil))))
      (pbd_cons (psd_aug (i := 6) sc_fields_come_to.nd rfl (by first | exact .inl rfl | exact .inr rfl) pd_int ip_add)
      (pbd_one (psd_for PassesOwn.never rfl (pid_list (pd_call (k_gates_from T) (hr.mono (by decide)) (by rfl) (pda_cons (pdv 0) (pda_cons (pdv 1) (pda_cons (pdv 7) (pda_cons (pdv 8) pda_nil)))))) (pgd_tupK (K := K) (n := 3) rfl rfl (pgds_cons (pgd_name (i := 9) sc_fields_come_to.nd rfl (by first | exact .inl rfl | exact .inr rfl)) (pgds_cons (pgd_name (i := 10) sc_fields_come_to.nd rfl (by first | exact .inl rfl | exact .inr rfl)) (pgds_cons (pgd_name (i := 11) sc_fields_come_to.nd rfl (by first | exact .inl rfl | exact .inr rfl)) pgds_nil))))
      (pbd_one (psd_if (pdw_and (pdt_dninO (hu_of hr) (pdv 9) (pv 3)) (pdw_and1 (pdt_not (pdt_val (pd_call (k_less T) (hr.mono (by decide)) (by rfl) (pda_cons (pdv 2) (pda_cons (pdv 10) pda_nil))))))).t (pbd_cons (psd_put (i := 3) (hu_of hr) (pv 3) (pdv 9) (pd_tup (pda_cons (pdv 7) (pda_cons (pdv 8) pda_nil))))
      (pbd_cons (psd_put (i := 4) (hu_of hr) (pv 4) (pdv 9) (pdv 11))
      (pbd_one (let ae := (pdv 9); psd_app (i := 5) rfl (by first | exact .inl rfl | exact .inr (.inl rfl)) ae (pe_bm PySem.F.plainAttrs_list PySem.F.slot_list_append PySem.F.type_list_append mt_append (pv 5) (pa_cons ae.run pa_nil)))))) pbd_nil)))))))
      (pbd_one (psd_frz 4 (psd_frz 3 (psd_ret (pd_tup (pda_cons (pdv 3) (pda_cons (pdv 4) pda_nil)))))))))))), ?_⟩)
  rintro ds k ⟨one, s, rfl, zl, h2, zs, s0, hk⟩
  have w1 := zl.2.1
  have gl : (grid (one.length - 1)).length ≤ 400 := by
    rw [grid_len]
    exact Nat.mul_le_mul (show one.length - 1 ≤ 20 by omega) (show one.length - 1 ≤ 20 by omega)
  refine ⟨tl2, [0, 0], rfl, tl2, tl1, ?_⟩
  refine ⟨fun M ρ => ∃ (ks : List (List Int)) (vs : List Dat) (kp : List (List Int)) (vp : List Dat) (ws : List Pt) (at_ : Nat) (a b c d e : _), ρ = [some (.sh (ln one)), some (.sh (ln one)), some (.sh (fr s)), some (.od ks vs), some (.od kp vp), some (.ol (ws.map pt)), some (.sh (.int (at_ : Int))), a, b, c, d, e] ∧ SInv (one.length - 1) ks vs kp vp ws ∧
    (∀ j w, j < at_ → ws[j]? = some w → Asked (one.length - 1) ks vs w) ∧ at_ ≤ ws.length ∧ M = 1000 - at_, ⟨_, [[0, 0]], [.non], [], [], [(0, 0)], 0, _, _, _, _, _, rfl, SInv.first (by omega), fun j w h => absurd h (Nat.not_lt_zero _), Nat.zero_le _, rfl⟩, ?_⟩
  rintro M ρ ⟨ks, vs, kp, vp, ws, at_, a, b, c, d, e, rfl, hS, hA, hat, rfl⟩
  have hwl := hS.f.len
  have hkl := hS.f.klen
  refine ⟨_, rfl, _, rfl, _, _, rfl, rfl, _, rfl, ?_⟩
  refine ite2 (fun h1 => ?_) (fun h1 => ?_)
  · have h1' : (at_ : Int) < ((ws.map pt).length : Int) := by simpa using h1
    rw [List.length_map] at h1'
    have hlt : at_ < ws.length := by omega
    obtain ⟨q, hq⟩ : ∃ q, ws[at_]? = some q := ⟨_, List.getElem?_eq_getElem hlt⟩
    obtain ⟨hqg, hqs⟩ := hS.all q (List.mem_of_getElem? hq)
    obtain ⟨i, j, rfl, hi, hj⟩ := mem_grid hqg
    refine ⟨_, rfl, _, rfl, _, _, rfl, atm hq, _, rfl, rfl, _, _, rfl, _, _, rfl, rfl, ?_⟩
    refine ⟨_, rfl, _, rfl, ?_⟩
    refine ⟨_, rfl, _, rfl, _, rfl, _, rfl, one, i, j, rfl, zl, by omega, by omega, fun es hel heg heu her => ?_⟩
    refine ⟨_, rfl, fun m ρ => ∃ (ks : List (List Int)) (vs : List Dat) (kp : List (List Int)) (vp : List Dat) (ws : List Pt) (c d e : _), ρ = [some (.sh (ln one)), some (.sh (ln one)), some (.sh (fr s)), some (.od ks vs), some (.od kp vp), some (.ol (ws.map pt)), some (.sh (.int ((at_ : Int) + 1))), some (.sh (.int i)), some (.sh (.int j)), c, d, e] ∧ SInv (one.length - 1) ks vs kp vp ws ∧
      (∀ j w, j < at_ → ws[j]? = some w → Asked (one.length - 1) ks vs w) ∧ ws[at_]? = some ((i : Int), (j : Int)) ∧ (getK ks vs (k2 ((i : Int), (j : Int)))).isSome = true ∧ ∀ (t : Nat) (a b : Int) (v : Rat) (p : Dat), t < m → es[t]? = some (.tup [.tup [.int a, .int b], fr v, p]) → ¬ s < v → (getK ks vs [a, b]).isSome = true, ⟨ks, vs, kp, vp, ws, c, d, e, rfl, hS, hA, hq, hqs, fun t a b v p h => absurd h (Nat.not_lt_zero _)⟩, ?_, ?_⟩
    · rintro m d ρ hm ⟨ks, vs, kp, vp, ws, c, d', e, rfl, hS, hA, hq, hqs, hdone⟩
      have hwl := hS.f.len
      have hkl := hS.f.klen
      have hpl := hS.pl
      obtain ⟨x, y, v, p, rfl, hx, hy, zv⟩ := heg d (List.mem_of_getElem? hm)
      obtain ⟨rank, N, c1, _⟩ := hS.f.ch
      have nx : ∀ z : ¬ (s < v) → (getK ks vs [(x : Int), (y : Int)]).isSome = true, ∀ (t : Nat) (a b : Int) (v : Rat) (p : Dat), t < m + 1 → es[t]? = some (.tup [.tup [.int a, .int b], fr v, p]) → ¬ s < v → (getK ks vs [a, b]).isSome = true := fun z t a b v' p' ht he hv => by
        by_cases htm : t = m
        · subst htm
          rw [hm] at he
          injection he with he
          injection he with he
          have e1 := List.cons.inj he
          injection e1.1 with e2
          have e3 := List.cons.inj e2
          injection e3.1 with e4
          have e5 := List.cons.inj e3.2
          injection e5.1 with e6
          have e7 := List.cons.inj e1.2
          have e8 : v = v' := by
            have := e7.1
            unfold fr at this
            injection this with this
            have q1 := List.cons.inj this
            injection q1.1 with q2
            have q3 := List.cons.inj q1.2
            injection q3.1 with q4
            exact Rat.ext q2 (by omega)
          subst e8
          rw [← e4, ← e6]
          exact z hv
        · exact hdone t a b v' p' (by omega) he hv
      refine ⟨_, rfl, rfl, _, _, rfl, _, _, rfl, _, _, rfl, rfl, ?_⟩
      refine ⟨_, rfl, [(x : Int), (y : Int)], _, _, rfl, rfl, _, rfl, ?_⟩
      cases hs : (getK ks vs [(x : Int), (y : Int)]).isSome with
      | true => exact iteF (iteF ⟨ks, vs, kp, vp, ws, _, _, _, rfl, hS, hA, hq, hqs, nx (fun _ => hs)⟩)
      | false =>
        refine iteT ⟨_, rfl, _, rfl, _, _, rfl, zs, zv.mono (by decide), _, rfl, ?_⟩
        by_cases hsv : s < v
        · rw [decide_eq_true hsv]
          exact iteF ⟨ks, vs, kp, vp, ws, _, _, _, rfl, hS, hA, hq, hqs, nx (fun z => absurd hsv z)⟩
        · rw [decide_eq_false hsv]
          refine iteT ⟨_, _, rfl, by omega, _, rfl, _, rfl, tl2, _, rfl, k2 ((x : Int), (y : Int)), rfl, ?_⟩
          refine ⟨_, _, rfl, by omega, _, rfl, _, rfl, k2 ((x : Int), (y : Int)), rfl, ?_⟩
          refine ⟨_, rfl, by rw [List.length_map]; omega, _, rfl, ?_⟩
          have hS' := hS.next (d := p) (grid_mem hx hy) hs hqs
          have keep : ∀ k, (getK ks vs k).isSome = true → (getK (putKs ks vs (k2 ((x : Int), (y : Int)))) (putVs ks vs (k2 ((x : Int), (y : Int))) (keyT (k2 ((i : Int), (j : Int))))) k).isSome = true := fun k hk => by
            rw [getK_put _ _ _ c1.1]
            split
            · rfl
            · exact hk
          have hat2 : at_ < ws.length := (List.getElem?_eq_some_iff.mp hq).1
          refine ⟨_, _, _, _, ws ++ [((x : Int), (y : Int))], _, _, _, by rw [List.map_append]; rfl, hS', fun j' w hj' hw => ?_, by rw [List.getElem?_append_left hat2]; exact hq, keep _ hqs, fun t a b v' p' ht he hv => ?_⟩
          · rw [List.getElem?_append_left (by omega)] at hw
            obtain ⟨a1, a2⟩ := hA j' w hj' hw
            exact ⟨fun z1 z2 => keep _ (a1 z1 z2), fun z1 z2 => keep _ (a2 z1 z2)⟩
          · by_cases hab : [a, b] = [(x : Int), (y : Int)]
            · rw [hab, getK_put _ _ _ c1.1, if_pos (show k2 ((x : Int), (y : Int)) = [(x : Int), (y : Int)] from rfl)]
              rfl
            · by_cases htm : t = m
              · subst htm
                rw [hm] at he
                injection he with he
                injection he with he
                have e1 := List.cons.inj he
                injection e1.1 with e2
                have e3 := List.cons.inj e2
                injection e3.1 with e4
                have e5 := List.cons.inj e3.2
                injection e5.1 with e6
                exact absurd (by rw [← e4, ← e6]) hab
              · exact keep _ (hdone t a b v' p' (by omega) he hv)
    · rintro ρ ⟨ks, vs, kp, vp, ws, c, d, e, rfl, hS, hA, hq, hqs, hdone⟩
      have hwl := hS.f.len
      have hkl := hS.f.klen
      have hat2 : at_ < ws.length := (List.getElem?_eq_some_iff.mp hq).1
      refine ⟨1000 - (at_ + 1), by omega, ks, vs, kp, vp, ws, at_ + 1, _, _, _, _, _, rfl, hS, fun j' w hj' hw => ?_, hat2, rfl⟩
      by_cases hjj : j' = at_
      · subst hjj
        rw [hq] at hw
        cases hw
        refine ⟨fun z1 z2 => ?_, fun z1 z2 => ?_⟩
        · have z1 : (i : Int) + 1 < ((one.length - 1 : Nat) : Int) := z1
          have z2 : (j : Int) = (i : Int) := z2
          obtain ⟨v, p, q1, q2⟩ := heu (by omega)
          obtain ⟨t, ht⟩ := List.mem_iff_getElem?.mp q1
          refine hdone t _ _ v p (List.getElem?_eq_some_iff.mp ht).1 ht ?_
          rw [q2 (by omega)]
          exact Rat.not_lt.mpr s0
        · have z1 : (j : Int) + 1 < ((one.length - 1 : Nat) : Int) := z1
          have z2 : (i : Int) = (j : Int) + 1 := z2
          obtain ⟨v, p, q1, q2⟩ := her (by omega)
          obtain ⟨t, ht⟩ := List.mem_iff_getElem?.mp q1
          refine hdone t _ _ v p (List.getElem?_eq_some_iff.mp ht).1 ht ?_
          rw [q2 (by omega)]
          exact Rat.not_lt.mpr s0
      · exact hA j' w (by omega) hw
  · have h1' : ¬ ((at_ : Int) < ((ws.map pt).length : Int)) := by simpa using h1
    rw [List.length_map] at h1'
    obtain ⟨rank, N, c1, c2, c3⟩ := hS.f.ch
    refine .inr ⟨_, _, rfl, .inr ⟨_, _, rfl, _, rfl, _, rfl, tl2, hk rank ks vs kp vp c1 (fun r hr => by have := c2 r hr; omega) hS.pr (fun i hi => diag hS.zero (fun w hw => ?_) i hi)⟩⟩
    obtain ⟨w', hw', e⟩ := hS.back _ hw
    have ew : w' = w := by
      unfold k2 at e
      have e1 := List.cons.inj e
      have e2 := List.cons.inj e1.2
      exact Prod.ext e1.1 e2.1
    subst ew
    obtain ⟨t, ht⟩ := List.mem_iff_getElem?.mp hw'
    exact hA t _ (by have := (List.getElem?_eq_some_iff.mp ht).1; omega) ht
end
end G
namespace G
open PySem PySem.Spec PyProof.Rows L2 DL M
section
variable {P : Program} {w : World} {K : PySem.W.Frag} {mg : Str → Option Value} {base : Heap}
def t_walk_freely : Tr := fun ds k => ∃ (one : List Pt) (s : Rat), ds = [ln one, ln one, fr s] ∧ Lz one ∧ Fz 4000 s ∧ 0 ≤ s ∧ ∀ d, k d
theorem len_walk_freely : ∀ ds k, t_walk_freely ds k → ds.length = 3 := by
  rintro ds k ⟨_, _, rfl, _⟩
  rfl
abbrev nm_walk_freely : List Str := ["one", "other", "square", "n", "m", "came", "pairs", "row", "k", "spot"]
theorem sc_walk_freely : FnScope nm_walk_freely ["one", "other", "square"] (defScope s_walk_freely) := ⟨rfl, rfl, rfl, by decide +kernel, rfl, by decide +kernel, by decide +kernel⟩
theorem k_walk_freely (T : Txt K mg) : Kept P w K mg base "walk_freely" ["one", "other", "square"] [] 10 t_walk_freely := by
  obtain ⟨fd, F⟩ := T.says.def_ 39 (d := d_walk_freely) rfl
  refine kept_of (N := nm_walk_freely) (body := defBody s_walk_freely) (scope := defScope s_walk_freely) (params := defArgs s_walk_freely) F (g_walk_freely T) sc_walk_freely len_walk_freely (fun _ _ _ _ _ _ us hl => match us, hl with | [_, _, _], _ => rfl) (fun cdv A outer s H E hr => ⟨_, _,
      (pbd_cons (psd_set (i := 3) sc_walk_freely.nd rfl (by first | exact .inl rfl | exact .inr rfl) (pd_call (k_last_of T) (hr.mono (by decide)) (by rfl) (pda_cons (pdv 0) pda_nil)))
      (pbd_cons (psd_set (i := 4) sc_walk_freely.nd rfl (by first | exact .inl rfl | exact .inr rfl) (pd_call (k_last_of T) (hr.mono (by decide)) (by rfl) (pda_cons (pdv 1) pda_nil)))
      (pbd_cut (psd_if (pdw_or (pdt_cmp (op_eqA hr.units) r2_eq (pdv 3) pd_int) (pdw_or1 (pdt_cmp (op_eqA hr.units) r2_eq (pdv 4) pd_int))).t (pbd_one (psd_ret (pd_sh (pl_lc (own := [("k", 8)]) rfl sc_walk_freely.nd (pid_range1 (by rfl) (f_range T) (pda_cons (pd_op op_add r2_I (pd_op op_add r2_I (pdv 3) (pdv 4)) pd_int) pda_nil)) (blkOk_by (N := nm_walk_freely) (sc := defScope s_walk_freely) (by decide +kernel)) (fun _ _ _ _ _ => (pgd_name (i := 8) sc_walk_freely.nd rfl (by first | exact .inl rfl | exact .inr rfl))) (fun _ _ _ _ _ => pdts_nil) (fun _ _ _ _ _ => (pd_tup (pda_cons (pd_tup (pda_cons (pd_op op_sub r2_I (pdv 8) (pd_bi (call_min2 rfl) rc_min (by rfl) (f_min T) (by decide +kernel) (pda_cons (pdv 8) (pda_cons (pdv 4) pda_nil)))) (pda_cons pd_int pda_nil))) (pda_cons (pd_tup (pda_cons (pd_bi (call_min2 rfl) rc_min (by rfl) (f_min T) (by decide +kernel) (pda_cons (pdv 8) (pda_cons (pdv 4) pda_nil))) (pda_cons pd_int pda_nil))) pda_nil)))))))) pbd_nil)
      (pbd_cons (psd_asg (pd_call (k_fields_come_to T) (hr.mono (by decide)) (by rfl) (pda_cons (pdv 0) (pda_cons (pdv 1) (pda_cons (pdv 2) pda_nil)))) (pgd_tupK (K := K) (n := 2) rfl rfl (pgds_cons (pgd_name (i := 5) sc_walk_freely.nd rfl (by first | exact .inl rfl | exact .inr rfl)) (pgds_cons (pgd_name (i := 6) sc_walk_freely.nd rfl (by first | exact .inl rfl | exact .inr rfl)) pgds_nil))))
      (pbd_cons (psd_set (i := 7) sc_walk_freely.nd rfl (by first | exact .inl rfl | exact .inr rfl) (pd_call (k_way_back T) (hr.mono (by decide)) (by rfl) (pda_cons (pdv 5) (pda_cons (pd_tup (pda_cons (pd_op op_sub r2_I (pdv 3) pd_int) (pda_cons (pd_op op_sub r2_I (pdv 4) pd_int) pda_nil))) pda_nil))))
      (pbd_one (psd_ret (pd_sh (pl_cat (pd_sh (pl_cat (pd_sh (pl_lst (pda_cons (pd_tup (pda_cons (pd_tup (pda_cons pd_int (pda_cons pd_int pda_nil))) (pda_cons (pd_tup (pda_cons pd_int (pda_cons pd_int pda_nil))) pda_nil))) pda_nil))) (pd_sh (pl_lc (own := [("spot", 9)]) rfl sc_walk_freely.nd (pid_list (pd_sh (pl_slice (pdv 7) (pdo_some pd_int) pdo_none))) (blkOk_by (N := nm_walk_freely) (sc := defScope s_walk_freely) (by decide +kernel)) (fun _ _ _ _ _ => (pgd_name (i := 9) sc_walk_freely.nd rfl (by first | exact .inl rfl | exact .inr rfl))) (fun _ _ _ _ _ => pdts_nil) (fun _ _ _ _ _ => (pd_dget (hu_of hr) (pdv 6) (pdv 9))))))) (pd_sh (pl_lst (pda_cons (pd_tup (pda_cons (pd_tup (pda_cons (pdv 3) (pda_cons pd_int pda_nil))) (pda_cons (pd_tup (pda_cons (pdv 4) (pda_cons pd_int pda_nil))) pda_nil))) pda_nil)))))))))))), ?_⟩)
  rintro ds k ⟨one, s, rfl, zl, zs, s0, hk⟩
  have w1 := zl.2.1
  have n0 : 0 < one.length := List.length_pos_iff.mpr zl.1
  have el : (((one.map pt).length : Int) - 1) = ((one.length - 1 : Nat) : Int) := by rw [List.length_map]; omega
  refine ⟨_, rfl, _, rfl, _, rfl, _, rfl, ?_⟩
  rw [el]
  refine ⟨fun ρ => ρ = [some (.sh (ln one)), some (.sh (ln one)), some (.sh (fr s)), some (.sh (.int ((one.length - 1 : Nat) : Int))), some (.sh (.int ((one.length - 1 : Nat) : Int))), none, none, none, none, none] ∧ 2 ≤ one.length, ?_, ?_⟩
  · refine ⟨_, rfl, _, rfl, _, rfl, ?_⟩
    by_cases h1 : one.length = 1
    · have hd : decide (((one.length - 1 : Nat) : Int) = 0) = true := by rw [h1]; rfl
      rw [hd]
      refine iteT (iteT ?_)
      refine ⟨_, rfl, _, rfl, _, _, rfl, rfl, _, _, rfl, rfl, _, rfl, by omega, fun m acc => acc.length = m, rfl, ?_, fun acc _ => hk _⟩
      rintro m d acc hm rfl
      obtain ⟨h3, rfl⟩ := rng0_get hm
      refine ⟨_, rfl, _, rfl, _, rfl, _, _, rfl, _, _, rfl, rfl, tl2, _, rfl, _, rfl, _, _, rfl, tl2, tl2, ?_, by simp⟩
      omega
    · have hd : decide (((one.length - 1 : Nat) : Int) = 0) = false := decide_eq_false (by omega)
      rw [hd]
      refine iteF ⟨_, rfl, _, rfl, _, rfl, ?_⟩
      rw [hd]
      exact iteF ⟨rfl, by omega⟩
  · rintro ρ ⟨rfl, h2⟩
    refine ⟨_, rfl, _, rfl, _, rfl, one, s, rfl, zl, h2, zs, s0, fun rank ks vs kp vp hc hrk hpr hdg => ?_⟩
    refine ⟨_, rfl, rfl, _, _, rfl, _, _, rfl, rfl, ?_⟩
    have hd := hdg (one.length - 2) (by omega)
    have e2 : (((one.length - 1 : Nat) : Int) - 1) = ((one.length - 2 : Nat) : Int) := by omega
    refine ⟨_, rfl, _, rfl, _, _, rfl, rfl, _, rfl, _, _, rfl, rfl, tl2, rank, ks, vs, [((one.length - 2 : Nat) : Int), ((one.length - 2 : Nat) : Int)], ?_, hc, hd, hrk _ hd, fun r rs hrs hr hall => ?_⟩
    · rw [e2]
      rfl
    refine ⟨tl2, tl2, tl2, tl1, _, rfl, _, rfl, _, rfl, ?_⟩
    have ec : DL.cutD ((r :: rs).map keyT) (some 1) none = rs.map keyT := (cut_from _ 1).trans (by simp)
    rw [ec]
    refine ⟨_, rfl, fun m acc => acc.length = m, rfl, ?_, ?_⟩
    · rintro m d acc hm hm3
      obtain ⟨x, hx, rfl⟩ : ∃ x, rs[m]? = some x ∧ d = keyT x := by
        rw [List.getElem?_map] at hm
        cases e : rs[m]? with
        | none => rw [e] at hm; cases hm
        | some x => rw [e] at hm; exact ⟨x, rfl, (Option.some.inj hm).symm⟩
      have hm2 := (List.getElem?_eq_some_iff.mp hx).1
      obtain ⟨k', hk'⟩ := hall x (List.mem_of_getElem? hx)
      obtain ⟨v, hv⟩ := Option.isSome_iff_exists.mp (hpr x k' hk')
      exact ⟨_, rfl, _, _, rfl, _, rfl, x, v, rfl, hv, by omega, by show (acc ++ [v]).length = m + 1; rw [List.length_append, hm3]; rfl⟩
    · intro acc hacc
      rw [List.length_map] at hacc
      refine ⟨_, _, rfl, rfl, ?_, _, rfl, tl2, _, rfl, tl2, tl2, tl1, _, _, rfl, rfl, ?_, hk _⟩
      · simp
        omega
      · simp
        omega
end
end G
namespace G
open PySem PySem.Spec PyProof.Rows L2 DL M
section
variable {P : Program} {w : World} {K : PySem.W.Frag} {mg : Str → Option Value} {base : Heap}
structure BarH (F0 H0 F H : Hp) (l : Addr) (ps : List Pt) (as : List Addr) (ls : List (List Pt)) : Prop where
  gr : Gr F0 H0 F H
  dict : ∃ ws : List (List Key × V), H l = some (.dT ws) ∧ ws.map (·.1) = (ps.map k2).map kL ∧ ws.map (·.2) = as.map V.ref
  la : as.length = ps.length
  ll : ls.length = ps.length
  np : ps.Nodup
  lst : ∀ (t : Nat) (a : Addr), as[t]? = some a → ∃ vs li, ls[t]? = some li ∧ H a = some (.lst vs) ∧ RpL F (li.map pt) vs
  nd : (l :: as).Nodup
  out : ∀ b ∈ l :: as, F b = none ∧ H0 b = none
section
variable {F0 H0 F H F' H' : Hp} {l : Addr} {ps : List Pt} {as : List Addr} {ls : List (List Pt)}
theorem BarH.has (B : BarH F0 H0 F H l ps as ls) {b : Addr} (hb : b ∈ l :: as) : ∃ o, H b = some o ∧ ∀ xs, o ≠ .tup xs := by
  rcases List.mem_cons.mp hb with e | hb
  · obtain ⟨ws, h, _⟩ := B.dict
    rw [e]; exact ⟨_, h, fun xs z => by cases z⟩
  · obtain ⟨t, ht⟩ := List.mem_iff_getElem?.mp hb
    obtain ⟨vs, li, _, h, _⟩ := B.lst t b ht
    exact ⟨_, h, fun xs z => by cases z⟩
theorem BarH.grow (B : BarH F0 H0 F H l ps as ls) (g : Gr F H F' H') : BarH F0 H0 F' H' l ps as ls where
  gr := B.gr.trans g
  dict := by
    obtain ⟨ws, h1, h2⟩ := B.dict
    exact ⟨ws, g.eH _ _ h1, h2⟩
  la := B.la
  ll := B.ll
  np := B.np
  lst := fun t a h => by
    obtain ⟨vs, li, h1, h2, h3⟩ := B.lst t a h
    exact ⟨vs, li, h1, g.eH _ _ h2, RpL.mono g.eF _ h3⟩
  nd := B.nd
  out := fun b hb => by
    obtain ⟨h1, h2⟩ := B.out b hb
    obtain ⟨o, ho, nt⟩ := B.has hb
    exact ⟨(g.out h1 ho nt).1, h2⟩
theorem BarH.start (g : Gr F0 H0 F H) (h : H l = none) : BarH F0 H0 F (upd H l (.dT [])) l [] [] [] where
  gr := g.trans (Gr.made g.fh h)
  dict := ⟨[], upd_same, rfl, rfl⟩
  la := rfl
  ll := rfl
  np := List.nodup_nil
  lst := fun t a h => by simp at h
  nd := by simp
  out := fun b hb => by
    rw [List.mem_singleton.mp hb]
    exact ⟨Evl.fresh_back g.fh h, Evl.fresh_back g.eH h⟩
theorem k2_inj {p q : Int × Int} (h : k2 p = k2 q) : p = q := by
  unfold k2 at h
  have e1 := List.cons.inj h
  have e2 := List.cons.inj e1.2
  exact Prod.ext e1.1 e2.1
theorem BarH.look (B : BarH F0 H0 F H l ps as ls) {ws : List (List Key × V)} (h2 : ws.map (·.1) = (ps.map k2).map kL) (h3 : ws.map (·.2) = as.map V.ref) (p : Pt) :
    (p ∉ ps ∧ valV ws (kL (k2 p)) = none) ∨ ∃ (t : Nat) (a : Addr), ps[t]? = some p ∧ as[t]? = some a ∧ valV ws (kL (k2 p)) = some (.ref a) := by
  have hr : RpL F (as.map Dat.at_) (ws.map (·.2)) := by
    rw [h3]
    exact RpL.mapOf (fun a => by unfold Rp; rfl) as
  have hn : (ps.map k2).Nodup := List.Pairwise.map k2 (fun a b hab z => hab (k2_inj z)) B.np
  have hl : (ps.map k2).length = (as.map Dat.at_).length := by rw [List.length_map, List.length_map, B.la]
  by_cases hp : p ∈ ps
  · obtain ⟨t, ht⟩ := List.mem_iff_getElem?.mp hp
    have hlt : t < as.length := by rw [B.la]; exact (List.getElem?_eq_some_iff.mp ht).1
    have hg := getK_at (i := t) (k := k2 p) hn hl (by rw [List.getElem?_map, ht]; rfl)
    rw [List.getElem?_map, List.getElem?_eq_getElem hlt] at hg
    refine .inr ⟨t, as[t], ht, List.getElem?_eq_getElem hlt, ?_⟩
    rcases valV_get (k2 p) h2 hr with ⟨z1, z2⟩ | ⟨d, v, z1, z2, z3⟩
    · rw [z1] at hg; cases hg
    · rw [z1] at hg
      cases hg
      rw [z2]
      congr 1
  · refine .inl ⟨hp, ?_⟩
    rcases valV_get (k2 p) h2 hr with ⟨z1, z2⟩ | ⟨d, v, z1, z2, z3⟩
    · exact z2
    · exfalso
      have := (getK_not hl).mp (show (getK (ps.map k2) (as.map Dat.at_) (k2 p)).isSome = true by rw [z1]; rfl)
      obtain ⟨q, hq, e⟩ := List.mem_map.mp this
      exact hp (k2_inj e ▸ hq)
/-- a new key, its list new -/
theorem BarH.put (B : BarH F0 H0 F H l ps as ls) {a : Addr} {p : Pt} (hp : p ∉ ps) (hF : F a = none) (h0 : H0 a = none) (hH : H a = some (.lst [])) (hna : a ∉ l :: as) {ws : List (List Key × V)} (h1 : H l = some (.dT ws)) (h2 : ws.map (·.1) = (ps.map k2).map kL) (h3 : ws.map (·.2) = as.map V.ref) :
    BarH F0 H0 F (upd H l (.dT (putK ws (kL (k2 p)) (.ref a)))) l (ps ++ [p]) (as ++ [a]) (ls ++ [[]]) := by
  have hlal : l ≠ a := fun z => hna (by rw [z]; exact List.mem_cons_self)
  have hv : valV ws (kL (k2 p)) = none := by
    rcases B.look h2 h3 p with h | ⟨t, b, ht, _⟩
    · exact h.2
    · exact absurd (List.mem_of_getElem? ht) hp
  rw [L2.putK_new _ hv]
  obtain ⟨o1, o2⟩ := B.out l List.mem_cons_self
  have nd := B.nd
  rw [List.nodup_cons] at nd
  refine ⟨B.gr.mut o2 o1, ⟨_, upd_same, by simp [h2], by simp [h3]⟩, by simp [B.la], by simp [B.ll], ?_, fun t b hb => ?_, ?_, fun b hb => ?_⟩
  · rw [List.nodup_append]
    exact ⟨B.np, by simp, fun x hx y hy z => hp (by rw [← List.mem_singleton.mp hy, ← z]; exact hx)⟩
  · by_cases ht : t < as.length
    · rw [List.getElem?_append_left ht] at hb
      obtain ⟨vs, li, q1, q2, q3⟩ := B.lst t b hb
      have hbl : b ≠ l := fun z => nd.1 (z ▸ List.mem_of_getElem? hb)
      exact ⟨vs, li, by rw [List.getElem?_append_left (by rw [B.ll, ← B.la]; exact ht)]; exact q1, by rw [upd_ne hbl]; exact q2, q3⟩
    · have ht2 : t = as.length := by
        have := (List.getElem?_eq_some_iff.mp hb).1
        simp at this
        omega
      subst ht2
      rw [List.getElem?_append_right (Nat.le_refl _)] at hb
      simp at hb
      subst hb
      refine ⟨[], [], ?_, by rw [upd_ne (Ne.symm hlal)]; exact hH, rfl⟩
      rw [List.getElem?_append_right (by rw [B.la, B.ll]; exact Nat.le_refl _), B.la, B.ll]
      simp
  · rw [← List.cons_append, List.nodup_append]
    exact ⟨B.nd, by simp, fun x hx y hy z => hna (by rw [← List.mem_singleton.mp hy, ← z]; exact hx)⟩
  · rw [← List.cons_append] at hb
    rcases List.mem_append.mp hb with z | z
    · exact B.out b z
    · rw [List.mem_singleton.mp z]; exact ⟨hF, h0⟩
/-- a list grows -/
theorem BarH.app (B : BarH F0 H0 F H l ps as ls) {t : Nat} {a : Addr} {p : Pt} {v : V} {vs : List V} {li : List Pt} (ha : as[t]? = some a) (hl : ls[t]? = some li) (hH : H a = some (.lst vs)) (hr : RpL F (li.map pt) vs) (hv : Rp F (pt p) v) :
    BarH F0 H0 F (upd H a (.lst (vs ++ [v]))) l ps as (ls.set t (li ++ [p])) := by
  obtain ⟨o1, o2⟩ := B.out a (List.mem_cons_of_mem _ (List.mem_of_getElem? ha))
  have nd := B.nd
  rw [List.nodup_cons] at nd
  have hla : l ≠ a := fun z => nd.1 (z ▸ List.mem_of_getElem? ha)
  have htl : t < ls.length := (List.getElem?_eq_some_iff.mp hl).1
  refine ⟨B.gr.mut o2 o1, ?_, B.la, by rw [List.length_set]; exact B.ll, B.np, fun s b hb => ?_, B.nd, B.out⟩
  · obtain ⟨ws, h1, h2⟩ := B.dict
    exact ⟨ws, by rw [upd_ne hla]; exact h1, h2⟩
  · by_cases hs : t = s
    · subst hs
      rw [ha] at hb
      cases hb
      refine ⟨_, li ++ [p], by rw [List.getElem?_set_self htl], upd_same, ?_⟩
      rw [List.map_append]
      exact RpL.append hr (RpL.one hv)
    · have hba : b ≠ a := fun z => hs (nodup_at nd.2 ha (by rw [hb, z]))
      rw [List.getElem?_set_ne hs, upd_ne hba]
      exact B.lst s b hb
theorem rpl_bars {F : Hp} : ∀ {as : List Addr} {ls : List (List Pt)}, ls.length = as.length → (∀ (t : Nat) (a : Addr), as[t]? = some a → ∃ vs li, ls[t]? = some li ∧ F a = some (.lst vs) ∧ RpL F (li.map pt) vs) → RpL F (ls.map ln) (as.map V.ref)
  | [], [], _, _ => rfl
  | [], _ :: _, h, _ => by simp at h
  | _ :: _, [], h, _ => by simp at h
  | a :: as, li :: ls, hl, h => by
    obtain ⟨vs, li', h1, h2, h3⟩ := h 0 a rfl
    simp at h1
    subst h1
    exact ⟨_, _, rfl, ⟨a, vs, rfl, h2, h3⟩, rpl_bars (by simpa using hl) (fun t b hb => by have := h (t + 1) b (by simpa using hb); simpa using this)⟩
/-- all shared -/
theorem BarH.close (B : BarH F0 H0 F H l ps as ls) : ∃ F', Gr F0 H0 F' H ∧ Rp F' (.dct (ps.map k2) (ls.map ln)) (.ref l) := by
  refine ⟨fun b => if b ∈ l :: as then H b else F b, ?_, ?_⟩
  · refine ⟨fun b o h => ?_, B.gr.eH, fun b o h => ?_, fun b o h => ?_⟩
    · have hF := B.gr.eF b o h
      have : ¬ b ∈ l :: as := fun z => by rw [(B.out b z).1] at hF; cases hF
      show (if b ∈ l :: as then H b else F b) = _
      rw [if_neg this]
      exact hF
    · have h : (if b ∈ l :: as then H b else F b) = some o := h
      split at h
      · exact h
      · exact B.gr.fh b o h
    · have h : (if b ∈ l :: as then H b else F b) = some o := h
      split at h
      · rename_i z
        exact .inr (.inl (B.out b z).2)
      · exact B.gr.new b o h
  · have eF : Evl.Ex F (fun b => if b ∈ l :: as then H b else F b) := fun b o h => by
      have : ¬ b ∈ l :: as := fun z => by rw [(B.out b z).1] at h; cases h
      show (if b ∈ l :: as then H b else F b) = _
      rw [if_neg this]
      exact h
    obtain ⟨ws, h1, h2, h3⟩ := B.dict
    refine ⟨l, ws, rfl, (if_pos List.mem_cons_self).trans h1, h2, ?_⟩
    rw [h3]
    refine rpl_bars (by rw [B.ll, B.la]) fun t a ha => ?_
    obtain ⟨vs, li, q1, q2, q3⟩ := B.lst t a ha
    exact ⟨vs, li, q1, (if_pos (List.mem_cons_of_mem _ (List.mem_of_getElem? ha))).trans q2, RpL.mono eF _ q3⟩
end
end
end G
namespace G
open PySem PySem.Spec PyProof.Rows L2 DL M
section
variable {P : Program} {w : World} {K : PySem.W.Frag} {mg : Str → Option Value} {base : Heap}
def SpotsOk (one : List Pt) (closed : Bool) (ps : List Pt) : Prop := (∀ p ∈ ps, ∃ a b : Nat, p = ((a : Int), (b : Int)) ∧ a < one.length ∧ b < one.length) ∧ (closed = false → ∀ p ∈ ps, p.1 ≠ p.2)
def spBS : Sp := fun vs H Q _ => ∃ (F0 : Hp) (one : List Pt) (s : Rat) (closed : Bool), Evl.Ex F0 H ∧ RpL F0 [ln one, ln one, fr s, .bl closed] vs ∧ Lz one ∧ Fz 4000 s ∧ 0 ≤ s ∧ ∀ F' H' l ps as ls, BarH F0 H F' H' l ps as ls → SpotsOk one closed ps → (∀ li ∈ ls, li = []) → Q (.ref l) H'
abbrev nm_bspots : List Str := ["one", "other", "square", "closed", "spots", "i", "j"]
theorem sc_bspots : FnScope nm_bspots ["one", "other", "square", "closed"] (defScope s_barred_spots) := ⟨rfl, rfl, rfl, by decide +kernel, rfl, by decide +kernel, by decide +kernel⟩
def bsP (F0 H : Hp) (one : List Pt) (s : Rat) (closed : Bool) (v1 v2 v3 : V) (i j : Nat) : L2.St → Hp → Prop := fun σ H' => ∃ v5 v6 F' l ps as ls, σ = [some v1, some v2, some v3, some (.bl closed), some (.ref l), v5, v6] ∧ BarH F0 H F' H' l ps as ls ∧ SpotsOk one closed ps ∧ (∀ li ∈ ls, li = []) ∧ ∀ a b : Nat, ((a : Int), (b : Int)) ∈ ps → a < i ∨ (a = i ∧ b < j)
theorem ok_bspots (T : Txt K mg) : ∃ fd, FunD K "barred_spots" "barred_spots" (defArgs s_barred_spots) (defBody s_barred_spots) (defScope s_barred_spots) [] [] (He.ga K "barred_spots") fd ∧ FnOk P w K mg base CX0 8 (He.ga K "barred_spots") fd ["one", "other", "square", "closed"] spBS := by
  obtain ⟨fd, F⟩ := T.says.def_ 33 (d := d_barred_spots) rfl
  obtain ⟨⟨fl, fdl, dsl, ml, Gl_, kl, bl, vl⟩, _⟩ := k_last_of (P := P) (w := w) (base := base) T
  obtain ⟨⟨fq, fdq, dsq, mq, Gq_, kq, bq, vq⟩, _⟩ := k_square_of (P := P) (w := w) (base := base) T
  obtain ⟨⟨fb, fdb, dsb, mb, Gb_, kb, bb, vb⟩, _⟩ := k_is_barred (P := P) (w := w) (base := base) T
  refine ⟨fd, F, FunD.ok (x := "barred_spots") (qual := "barred_spots") (params := defArgs s_barred_spots) (body := defBody s_barred_spots) (scope := defScope s_barred_spots) F sc_bspots (fun vs H Q E h => ?_) (fun cdv A outer s0 H vs Q E hr h => ?_)⟩
  · obtain ⟨F0, one, s, closed, _, r, _⟩ := h
    rw [← r.length]
    rfl
  · obtain ⟨F0, one, s, closed, eF, r, zl, zs, hs0, hq⟩ := h
    obtain ⟨v1, ws1, rfl, r1, r⟩ := r
    obtain ⟨v2, ws2, rfl, r2, r⟩ := r
    obtain ⟨v3, ws3, rfl, r3, r⟩ := r
    obtain ⟨v4, ws4, rfl, r4, r⟩ := r
    obtain rfl : v4 = V.bl closed := r4
    obtain rfl : ws4 = [] := r
    have w1 := zl.2.1
    have n0 : 0 < one.length := List.length_pos_iff.mpr zl.1
    refine ⟨_, PSs.nox (pss_cons (ps_set (i := 4) sc_bspots.nd rfl (Or.inl rfl) pe_dnewT (by rfl))
      (pss_cons (ps_for PassesOwn.never rfl (pi_range1 (by rfl) (f_range T) (pa_cons (pe_op op_add (pe_call Gl_ (hr.mono (by decide)) (by rfl) ml kl bl vl pass0 (pa_cons (pv 0) pa_nil)) pe_int) pa_nil)) (pg_name (i := 5) sc_bspots.nd rfl (by first | exact .inl rfl | exact .inr rfl))
        (pss_one (ps_for PassesOwn.never rfl (pi_range1 (by rfl) (f_range T) (pa_cons (pe_op op_add (pe_call Gl_ (hr.mono (by decide)) (by rfl) ml kl bl vl pass0 (pa_cons (pv 1) pa_nil)) pe_int) pa_nil)) (pg_name (i := 6) sc_bspots.nd rfl (by first | exact .inl rfl | exact .inr rfl))
          (pss_one (ps_if (pt_val (pe_call Gb_ (hr.mono (by decide)) (by rfl) mb kb bb vb pass0 (pa_cons (pe_call Gq_ (hr.mono (by decide)) (by rfl) mq kq bq vq pass0 (pa_cons (pv 0) (pa_cons (pe_tup (pa_cons (pv 5) (pa_cons pe_int pa_nil))) (pa_cons (pv 1) (pa_cons (pe_tup (pa_cons (pv 6) (pa_cons pe_int pa_nil))) pa_nil))))) (pa_cons (pv 2) (pa_cons (pv 3) pa_nil)))))
            (pss_one (ps_dput (hu_of hr) (pv 4) (pe_tup (pa_cons (pv 5) (pa_cons (pv 6) pa_nil))) (pe_lst pa_nil) (by rfl))) pss_nil)))))
      (pss_one (ps_ret (pv 4))))), ?_⟩
    intro l hl
    have B0 := BarH.start (Gr.refl eF) hl
    have lastd : ∀ {F' H' : Hp} {v : V}, Evl.Ex F0 F' → Evl.Ex F' H' → Rp F0 (ln one) v → True := fun _ _ _ => trivial
    refine ⟨_, rfl, F0, [ln one], fun d => d = .int ((one.length - 1 : Nat) : Int), B0.gr.fh, RpL.one r1, ⟨one.map pt, rfl, by rw [List.length_map]; congr 1; omega⟩, fun d v F1 H1 hd g1 rd => ?_⟩
    subst hd
    obtain rfl : v = V.int ((one.length - 1 : Nat) : Int) := rd
    refine ⟨_, _, rfl, rfl, _, rfl, by omega, by omega, ?_⟩
    have el : (((one.length - 1 : Nat) : Int) + 1).toNat = one.length := by omega
    rw [el]
    refine for_range (fun i σ' H' => bsP F0 H one s closed v1 v2 v3 i 0 σ' H') ⟨_, _, F1, l, [], [], [], rfl, B0.grow g1, ⟨fun p h => (nomatch h), fun _ p h => (nomatch h)⟩, fun li h => (nomatch h), fun a b h => (nomatch h)⟩ ?step ?fin
    case fin =>
      rintro σ' H' ⟨v5, v6, F', l, ps, as, ls, rfl, B, hS, hE, _⟩
      exact ⟨_, rfl, hq F' H' l ps as ls B hS hE⟩
    case step =>
      rintro i σ' H' hi ⟨v5, v6, F', l, ps, as, ls, rfl, B, hS, hE, hlt⟩
      rw [Int.zero_add]
      have el2 : (((one.length - 1 : Nat) : Int) + 1).toNat = one.length := by omega
      refine ⟨_, rfl, F', [ln one], fun d => d = .int ((one.length - 1 : Nat) : Int), B.gr.fh, RpL.one (Rp.mono B.gr.eF _ r2), ⟨one.map pt, rfl, by rw [List.length_map]; congr 1; omega⟩, fun d v F1 H1 hd g1 rd => ?_⟩
      subst hd
      obtain rfl : v = V.int ((one.length - 1 : Nat) : Int) := rd
      refine ⟨_, _, rfl, rfl, _, rfl, by omega, by omega, ?_⟩
      rw [el2]
      have B1 := B.grow g1
      refine for_range (lo := 0) (n := one.length) (g := gName 6) (σ := [some v1, some v2, some v3, some (.bl closed), some (.ref l), some (.int (i : Int)), v6]) (D := { nx := bsP F0 H one s closed v1 v2 v3 (i + 1) 0, rt := Q, bk := fun _ H' => Q .non H', ct := bsP F0 H one s closed v1 v2 v3 (i + 1) 0 }) (fun j σ' H' => ∃ v6 F' l ps as ls, σ' = [some v1, some v2, some v3, some (.bl closed), some (.ref l), some (.int (i : Int)), v6] ∧ BarH F0 H F' H' l ps as ls ∧ SpotsOk one closed ps ∧ (∀ li ∈ ls, li = []) ∧ ∀ a b : Nat, ((a : Int), (b : Int)) ∈ ps → a < i ∨ (a = i ∧ b < j)) ⟨_, F1, l, ps, as, ls, rfl, B1, hS, hE, fun a b h => by rcases hlt a b h with z | z <;> omega⟩ ?istep ?ifin
      case ifin =>
        rintro σ' H' ⟨v6, F', l, ps, as, ls, rfl, B, hS, hE, hlt⟩
        exact ⟨_, _, F', l, ps, as, ls, rfl, B, hS, hE, fun a b h => by rcases hlt a b h with z | z <;> omega⟩
      case istep =>
        rintro j σ' H' hj ⟨v6, F', l, ps, as, ls, rfl, B, hS, hE, hlt⟩
        rw [Int.zero_add]
        refine ⟨_, rfl, _, rfl, by simp; exact small_len (n := 2) (by decide), fun a1 ha1 => ?_⟩
        have g1 : Gr F' H' (upd F' a1 (.tup [.int (i : Int), .int 1])) (upd H' a1 (.tup [.int (i : Int), .int 1])) := Gr.laid B.gr.fh ha1
        refine ⟨_, rfl, _, rfl, by simp; exact small_len (n := 2) (by decide), fun a2 ha2 => ?_⟩
        have g2 : Gr (upd F' a1 (.tup [.int (i : Int), .int 1])) (upd H' a1 (.tup [.int (i : Int), .int 1])) (upd (upd F' a1 (.tup [.int (i : Int), .int 1])) a2 (.tup [.int (j : Int), .int 1])) _ := Gr.laid g1.fh ha2
        have B2 := B.grow (g1.trans g2)
        have ra1 : Rp (upd (upd F' a1 (.tup [.int (i : Int), .int 1])) a2 (.tup [.int (j : Int), .int 1])) (fr ((i : Int) : Rat)) (.ref a1) := Rp.mono g2.eF _ (rp_tup upd_same (RpL.two (by unfold Rp; rfl) (by unfold Rp; rfl)))
        have ra2 : Rp (upd (upd F' a1 (.tup [.int (i : Int), .int 1])) a2 (.tup [.int (j : Int), .int 1])) (fr ((j : Int) : Rat)) (.ref a2) := rp_tup upd_same (RpL.two (by unfold Rp; rfl) (by unfold Rp; rfl))
        have asz := (ap_sz (zl.2.2 _ (gp_mem hi)) (zl.2.2 _ (gp_mem hj))).mono (m := 4000) (by decide)
        refine ⟨_, [ln one, fr ((i : Int) : Rat), ln one, fr ((j : Int) : Rat)], fun d => d = fr (ap (gp one i) (gp one j)), B2.gr.fh, ⟨_, _, rfl, Rp.mono B2.gr.eF _ r1, _, _, rfl, ra1, _, _, rfl, Rp.mono B2.gr.eF _ r2, _, _, rfl, ra2, rfl⟩, ⟨one, one, _, _, rfl, zl, zl, pq_nat hi, pq_nat hj, (fz_nat (by omega)).mono (by decide), (fz_nat (by omega)).mono (by decide), by rw [poi_int, poi_int, sqb_ap]⟩, fun d v F3 H3 hd g3 r3' => ?_⟩
        subst hd
        have B3 := B2.grow g3
        refine ⟨_, rfl, _, rfl, F3, [fr (ap (gp one i) (gp one j)), fr s, .bl closed], fun d => ∃ b, d = .bl b ∧ (closed = false → b = decide (s < ap (gp one i) (gp one j))), B3.gr.fh, ⟨_, _, rfl, r3', _, _, rfl, Rp.mono B3.gr.eF _ r3, _, _, rfl, by unfold Rp; rfl, rfl⟩, ⟨_, _, _, rfl, asz, zs, fun _ => ⟨_, rfl, fun _ => rfl⟩, fun hc b => ⟨_, rfl, fun h => by rw [hc] at h; cases h⟩⟩, fun d v F4 H4 hd g4 r4 => ?_⟩
        obtain ⟨b, rfl, hb⟩ := hd
        have B4 := B3.grow g4
        refine ⟨b, r4, ?_⟩
        refine ite2 (fun h => ?_) (fun h => ?_)
        · refine ⟨Nat.zero_le _, fun a ha => ⟨_, rfl, _, rfl, _, rfl, by simp; exact small_len (n := 2) (by decide), fun c hc => ?_⟩⟩
          have gA := Gr.made (o := .lst []) B4.gr.fh ha
          have B5 := B4.grow gA
          have B6 := B5.grow (Gr.made (o := .tup [.int (i : Int), .int (j : Int)]) B5.gr.fh hc)
          have hac : a ≠ c := ne_of_none upd_same hc
          have hnp : ((i : Int), (j : Int)) ∉ ps := fun z => by rcases hlt i j z with z | z <;> omega
          have hna : a ∉ l :: as := fun z => by
            obtain ⟨o, ho, _⟩ := B4.has z
            rw [ha] at ho
            cases ho
          obtain ⟨ws, d1, d2, d3⟩ := B6.dict
          have hsub : ps ⊆ grid one.length := fun p hp => by
            obtain ⟨x, y, rfl, hx, hy⟩ := hS.1 p hp
            exact grid_mem hx hy
          have hlen := nodup_sub B6.np hsub
          rw [grid_len] at hlen
          have hlen2 : one.length * one.length ≤ 20 * 20 := Nat.mul_le_mul w1 w1
          have hwl : ws.length = ps.length := by rw [← List.length_map (f := (·.1)) (as := ws), d2, List.length_map, List.length_map]
          refine ⟨l, _, rfl, .inr ⟨ws, kL (k2 ((i : Int), (j : Int))), c, d1, rfl, upd_same, small_lt (by omega), rfl⟩, ?_⟩
          have B7 := B6.put (a := a) hnp (Evl.fresh_back B4.gr.fh ha) (Evl.fresh_back B4.gr.eH ha) (by rw [upd_ne hac, upd_same]) hna d1 d2 d3
          refine ⟨_, F4, l, _, _, _, rfl, B7, ⟨fun p hp => ?_, fun hc2 p hp => ?_⟩, fun li hli => ?_, fun a' b' h' => ?_⟩
          · rcases List.mem_append.mp hp with z | z
            · exact hS.1 p z
            · rw [List.mem_singleton.mp z]; exact ⟨i, j, rfl, hi, hj⟩
          · rcases List.mem_append.mp hp with z | z
            · exact hS.2 hc2 p z
            · rw [List.mem_singleton.mp z]
              intro e
              have e : (i : Int) = (j : Int) := e
              obtain rfl : i = j := by omega
              rw [hb hc2] at h
              have h := of_decide_eq_true h
              have e0 : ap (gp one i) (gp one i) = 0 := by
                unfold ap
                simp
              rw [e0] at h
              exact Rat.not_lt.mpr hs0 h
          · rcases List.mem_append.mp hli with z | z
            · exact hE li z
            · exact List.mem_singleton.mp z
          · rcases List.mem_append.mp h' with z | z
            · rcases hlt a' b' z with z | z <;> omega
            · have z := List.mem_singleton.mp z
              injection z with z1 z2
              omega
        · exact ⟨_, F4, l, ps, as, ls, rfl, B4, hS, hE, fun a b h => by rcases hlt a b h with z | z <;> omega⟩
end
end G
namespace G
open PySem PySem.Spec PyProof.Rows L2 DL M
section
variable {P : Program} {w : World} {K : PySem.W.Frag} {mg : Str → Option Value} {base : Heap}
def MkT (tk : TE) (σ : L2.St) (x y : Int) : Prop := ∀ (H : Hp) (Q : VK), (∀ c, H c = none → Q (.ref c) (upd H c (.tup [.int x, .int y]))) → tk σ H Q
section
variable {F0 H0 F H F' H' : Hp} {l : Addr} {ps : List Pt} {as : List Addr} {ls : List (List Pt)} {σ : L2.St} {tk tv : TE} {x y u v : Int}
theorem bars_in {Q : VK} (hk : MkT tk σ x y) (h4 : σ[4]? = some (some (.ref l))) (B : BarH F0 H0 F H l ps as ls) (next : ∀ b F' H', (b = true → (x, y) ∈ ps) → BarH F0 H0 F' H' l ps as ls → Evl.Ex F F' → Q (.bl b) H') : tDIn tk (tVar 4) σ H Q := by
  refine hk _ _ fun c hc => ?_
  have g := Gr.made (o := .tup [.int x, .int y]) B.gr.fh hc
  have B1 := B.grow g
  obtain ⟨ws, d1, d2, d3⟩ := B1.dict
  refine ⟨_, h4, l, valV ws (kL (k2 (x, y))), rfl, DGet.t d1 upd_same, next _ F _ (fun hb => ?_) B1 g.eF⟩
  rcases B1.look d2 d3 (x, y) with ⟨_, h⟩ | ⟨t, a, h, _⟩
  · rw [h] at hb; cases hb
  · exact List.mem_of_getElem? h
theorem bars_app {K : PySem.W.Frag} {D : Ends} {t : Nat} {li : List Pt} (hk : MkT tk σ x y) (hv : MkT tv σ u v) (h4 : σ[4]? = some (some (.ref l))) (B : BarH F0 H0 F H l ps as ls) (hp : ps[t]? = some (x, y)) (hl : ls[t]? = some li) (hn : li.length < 100000)
    (next : ∀ F' H', BarH F0 H0 F' H' l ps as (ls.set t (li ++ [(u, v)])) → Evl.Ex F F' → D.nx σ H') : tDrop (tBM K "list" rAppend (tDGet (tVar 4) tk) (tCons tv tNil)) D σ H := by
  refine ⟨_, h4, hk _ _ fun c hc => ?_⟩
  have g := Gr.made (o := .tup [.int x, .int y]) B.gr.fh hc
  have B1 := B.grow g
  obtain ⟨ws, d1, d2, d3⟩ := B1.dict
  have hat : ∃ a, as[t]? = some a ∧ valV ws (kL (k2 (x, y))) = some (.ref a) := by
    rcases B1.look d2 d3 (x, y) with ⟨h, _⟩ | ⟨t', a, h1, h2, h3⟩
    · exact absurd (List.mem_of_getElem? hp) h
    · obtain rfl := nodup_at B.np hp h1
      exact ⟨a, h2, h3⟩
  obtain ⟨a, ha, hval⟩ := hat
  obtain ⟨vs, li', q1, q2, q3⟩ := B1.lst t a ha
  rw [hl] at q1
  cases q1
  refine ⟨l, .ref a, rfl, by rw [← hval]; exact DGet.t d1 upd_same, Or.inl ⟨rfl, vs, SqL.of q2⟩, hv _ _ fun e he => ?_⟩
  have g2 := Gr.laid (o := .tup [.int u, .int v]) B1.gr.fh he
  have B2 := B1.grow g2
  have hae : a ≠ e := ne_of_none q2 he
  refine ⟨a, vs, .ref e, rfl, rfl, by rw [upd_ne hae]; exact q2, by rw [← q3.length, List.length_map]; exact small_lt hn, ?_⟩
  exact next _ _ (B2.app ha hl (by rw [upd_ne hae]; exact q2) (RpL.mono g2.eF _ q3) (rp_tup upd_same (RpL.two (by unfold Rp; rfl) (by unfold Rp; rfl)))) g2.eF
theorem bars_test {K : PySem.W.Frag} {E1 E2 : XK} {one : List Pt} {s : Rat} {closed : Bool} {v1 v2 v3 : V} {i j : Nat} {R : Tr} {Q : VK} (hR : ∀ k : Dat → Prop, (∀ v p, Fz 2000 v → k (.tup [fr v, p])) → R [ln one, ln one, .int i, .int j] k) (zs : Fz 4000 s) {l' : V}
    (e : σ = [some v1, some v2, some v3, some (.bl closed), some l', some (.int (i : Int)), some (.int (j : Int))]) (r1 : Rp F (ln one) v1) (r2 : Rp F (ln one) v2) (r3 : Rp F (fr s) v3) (B : BarH F0 H0 F H l ps as ls)
    (next : ∀ b F' H', BarH F0 H0 F' H' l ps as ls → Evl.Ex F F' → Q (.bl b) H') :
    tCall (Pr t_is_barred) (List.map toV []) E1 (tCons (tOp (rIx K) (tCall (Pr R) (List.map toV []) E2 (tCons (tVar 0) (tCons (tVar 1) (tCons (tVar 5) (tCons (tVar 6) tNil))))) (tC (.int 0))) (tCons (tVar 2) (tCons (tVar 3) tNil))) σ H Q := by
  subst e
  refine ⟨_, rfl, _, rfl, _, rfl, _, rfl, ?_⟩
  refine ⟨F, [ln one, ln one, .int i, .int j], fun d => ∃ v p, d = .tup [fr v, p] ∧ Fz 2000 v, B.gr.fh, ⟨_, _, rfl, r1, _, _, rfl, r2, _, _, rfl, by unfold Rp; rfl, _, _, rfl, by unfold Rp; rfl, rfl⟩, hR _ (fun v p hv => ⟨v, p, rfl, hv⟩), fun d w F1 H1 hd g1 rw1 => ?_⟩
  obtain ⟨v, p, rfl, hv⟩ := hd
  refine r2_ix (K := K) F1 H1 w (.int 0) _ (.int 0) (fun d => d = fr v) _ g1.fh rw1 (by unfold Rp; rfl) ⟨_, 0, _, rfl, rfl, rfl, rfl⟩ fun d w2 F2 H2 g2 rw2 hd => ?_
  subst hd
  have g := g1.trans g2
  have B2 := B.grow g
  refine ⟨_, rfl, _, rfl, F2, [fr v, fr s, .bl closed], fun d => ∃ b, d = .bl b, B2.gr.fh, ⟨_, _, rfl, rw2, _, _, rfl, Rp.mono g.eF _ r3, _, _, rfl, by unfold Rp; rfl, rfl⟩, ⟨_, _, _, rfl, hv.mono (by decide), zs, fun _ => ⟨_, rfl⟩, fun _ b => ⟨_, rfl⟩⟩, fun d w3 F3 H3 hd g3 rw3 => ?_⟩
  obtain ⟨b, rfl⟩ := hd
  obtain rfl : w3 = V.bl b := rw3
  exact next b F3 H3 (B2.grow g3) (g.eF.trans g3.eF)
end
end
end G
namespace G
open PySem PySem.Spec PyProof.Rows L2 DL M
section
variable {P : Program} {w : World} {K : PySem.W.Frag} {mg : Str → Option Value} {base : Heap}
def adj (p q : Pt) : Prop := (q.1 = p.1 ∧ (q.2 = p.2 + 1 ∨ p.2 = q.2 + 1)) ∨ (q.2 = p.2 ∧ (q.1 = p.1 + 1 ∨ p.1 = q.1 + 1))
def AdjOk (ps : List Pt) (ls : List (List Pt)) (n : Nat) : Prop := ∀ (t : Nat) (p : Pt) (li : List Pt), ps[t]? = some p → ls[t]? = some li → li.length ≤ n ∧ ∀ q ∈ li, q ∈ ps ∧ adj p q
theorem AdjOk.app {ps : List Pt} {ls : List (List Pt)} {n t : Nat} {p q : Pt} {li : List Pt} (h : AdjOk ps ls n) (hp : ps[t]? = some p) (hl : ls[t]? = some li) (hq : q ∈ ps) (ha : adj p q) : AdjOk ps (ls.set t (li ++ [q])) (n + 1) := fun s p' li' hp' hl' => by
  by_cases hs : t = s
  · subst hs
    rw [hp] at hp'
    cases hp'
    rw [List.getElem?_set_self (List.getElem?_eq_some_iff.mp hl).1] at hl'
    cases hl'
    obtain ⟨h1, h2⟩ := h t p li hp hl
    refine ⟨by rw [List.length_append]; exact Nat.add_le_add_right h1 1, fun z hz => ?_⟩
    rcases List.mem_append.mp hz with z1 | z1
    · exact h2 z z1
    · rw [List.mem_singleton.mp z1]; exact ⟨hq, ha⟩
  · rw [List.getElem?_set_ne hs] at hl'
    obtain ⟨h1, h2⟩ := h s p' li' hp' hl'
    exact ⟨by omega, h2⟩
theorem AdjOk.mono {ps : List Pt} {ls : List (List Pt)} {n m : Nat} (h : AdjOk ps ls n) (le : n ≤ m) : AdjOk ps ls m := fun t p li hp hl => ⟨Nat.le_trans (h t p li hp hl).1 le, (h t p li hp hl).2⟩
def t_bars_of : Tr := fun ds k => ∃ (one : List Pt) (s : Rat) (closed : Bool), ds = [ln one, ln one, fr s, .bl closed] ∧ Lz one ∧ Fz 4000 s ∧ 0 ≤ s ∧ ∀ ps ls, SpotsOk one closed ps → ps.Nodup → ls.length = ps.length → AdjOk ps ls 100000 → k (.dct (ps.map k2) (ls.map ln))
abbrev nm_bars : List Str := ["one", "other", "square", "closed", "bars", "i", "j"]
theorem sc_bars : FnScope nm_bars ["one", "other", "square", "closed"] (defScope s_bars_of) := ⟨rfl, rfl, rfl, by decide +kernel, rfl, by decide +kernel, by decide +kernel⟩
def boP (F3 F0 H : Hp) (v1 v2 v3 : V) (closed : Bool) (l : Addr) (ps : List Pt) (as : List Addr) (c : Nat) (m : Nat) : L2.St → Hp → Prop := fun σ H' => ∃ v5 v6 F' ls, σ = [some v1, some v2, some v3, some (.bl closed), some (.ref l), v5, v6] ∧ BarH F0 H F' H' l ps as ls ∧ Evl.Ex F3 F' ∧ AdjOk ps ls (c * m)
theorem mk56 {σ : L2.St} {i j : Int} (h5 : σ[5]? = some (some (.int i))) (h6 : σ[6]? = some (some (.int j))) : MkT (tTup (tCons (tVar 5) (tCons (tVar 6) tNil))) σ i j := fun H Q q => ⟨_, h5, _, h6, by simp; exact small_len (n := 2) (by decide), q⟩
theorem mk56u {σ : L2.St} {i j : Int} (h5 : σ[5]? = some (some (.int i))) (h6 : σ[6]? = some (some (.int j))) : MkT (tTup (tCons (tVar 5) (tCons (tOp (rI0 fun i j => .int (i + j)) (tVar 6) (tC (.int 1))) tNil))) σ i (j + 1) := fun H Q q => ⟨_, h5, _, h6, _, _, rfl, rfl, by simp; exact small_len (n := 2) (by decide), q⟩
theorem mk56r {σ : L2.St} {i j : Int} (h5 : σ[5]? = some (some (.int i))) (h6 : σ[6]? = some (some (.int j))) : MkT (tTup (tCons (tOp (rI0 fun i j => .int (i + j)) (tVar 5) (tC (.int 1))) (tCons (tVar 6) tNil))) σ (i + 1) j := fun H Q q => ⟨_, h5, _, _, rfl, rfl, _, h6, by simp; exact small_len (n := 2) (by decide), q⟩
theorem keys_gr {F H : Hp} (e : Evl.Ex F H) {ws : List (List Key × V)} {bs : List Addr} (hbs : IsKeys H ws bs) : Gr F H (fun b => if b ∈ bs then H b else F b) H := by
  refine ⟨fun b o h => ?_, Evl.Ex.refl H, fun b o h => ?_, fun b o h => ?_⟩
  · show (if b ∈ bs then H b else F b) = some o
    split
    · exact e b o h
    · exact h
  · have h : (if b ∈ bs then H b else F b) = some o := h
    split at h
    · exact h
    · exact e b o h
  · have h : (if b ∈ bs then H b else F b) = some o := h
    split at h
    · rename_i hb
      obtain ⟨xs, hx⟩ := isKeys_tup hbs b hb
      rw [hx] at h
      cases h
      exact .inr (.inr ⟨xs, rfl⟩)
    · exact .inl h
theorem k_bars_of (T : Txt K mg) : Kept P w K mg base "bars_of" ["one", "other", "square", "closed"] [] 10 t_bars_of := by
  obtain ⟨fd, F⟩ := T.says.def_ 34 (d := d_bars_of) rfl
  obtain ⟨fds, Fs, Gs⟩ := ok_bspots (P := P) (w := w) (base := base) T
  have bs : Binds K fds ["one", "other", "square", "closed"] [] := FunD.bindsN (x := "barred_spots") (qual := "barred_spots") (params := defArgs s_barred_spots) (body := defBody s_barred_spots) (scope := defScope s_barred_spots) Fs (fun _ _ _ _ _ _ us hl => match us, hl with | [_, _, _, _], _ => rfl)
  obtain ⟨⟨fu, fdu, dsu, mu, Gu_, ku, bu, vu⟩, _⟩ := k_least_up (P := P) (w := w) (base := base) T
  obtain ⟨⟨fr_, fdr, dsr, mr, Gr_, kr, br, vr⟩, _⟩ := k_least_right (P := P) (w := w) (base := base) T
  obtain ⟨⟨fb, fdb, dsb, mb, Gb_, kb, bb, vb⟩, _⟩ := k_is_barred (P := P) (w := w) (base := base) T
  refine ⟨⟨He.ga K "bars_of", fd, [], g_bars_of T, FunD.ok (x := "bars_of") (qual := "bars_of") (params := defArgs s_bars_of) (body := defBody s_bars_of) (scope := defScope s_bars_of) F sc_bars (fun vs H Q E h => ?_) (fun cdv A outer s0 H vs Q E hr h => ?_), F.kp, FunD.bindsN (x := "bars_of") (qual := "bars_of") (params := defArgs s_bars_of) (body := defBody s_bars_of) (scope := defScope s_bars_of) F (fun _ _ _ _ _ _ us hl => match us, hl with | [_, _, _, _], _ => rfl), .nil⟩, rfl⟩
  · obtain ⟨F0, ds, k, _, r, ⟨one, s, closed, rfl, _⟩, _⟩ := h
    rw [← r.length]
    rfl
  · obtain ⟨F0, ds, k, eF, r, ⟨one, s, closed, rfl, zl, zs, hs0, hk⟩, hq⟩ := h
    obtain ⟨v1, ws1, rfl, r1, r⟩ := r
    obtain ⟨v2, ws2, rfl, r2, r⟩ := r
    obtain ⟨v3, ws3, rfl, r3, r⟩ := r
    obtain ⟨v4, ws4, rfl, r4, r⟩ := r
    obtain rfl : v4 = V.bl closed := r4
    obtain rfl : ws4 = [] := r
    have w1 := zl.2.1
    refine ⟨_, PSs.nox (pss_cons (ps_set (i := 4) sc_bars.nd rfl (Or.inl rfl) (pe_call Gs (hr.mono (by decide)) (by rfl) (g_barred_spots T) Fs.kp bs .nil pass0 (pa_cons (pv 0) (pa_cons (pv 1) (pa_cons (pv 2) (pa_cons (pv 3) pa_nil))))) (by rfl))
      (pss_cons (ps_for PassesOwn.never rfl (pi_list (pe_callTy (call_list_dT rfl) (by rfl) (f_list T) (by decide +kernel) (pa_cons (pv 4) pa_nil) (by decide) (by decide))) (pg_tup rfl (pgs_cons (pg_name (i := 5) sc_bars.nd rfl (by first | exact .inl rfl | exact .inr rfl)) (pgs_cons (pg_name (i := 6) sc_bars.nd rfl (by first | exact .inl rfl | exact .inr rfl)) pgs_nil)))
        (Evl.pss_cut (ps_if (PW.pt (pw_and (pt_cmp (pc_din (hu_of hr) (pe_tup (pa_cons (pv 5) (pa_cons (pe_op op_add (pv 6) pe_int) pa_nil))) (pv 4)) (by rfl)) (pw_and1 (pt_val (pe_call Gb_ (hr.mono (by decide)) (by rfl) mb kb bb vb pass0 (pa_cons (pe_ix ix_seq (pe_call Gu_ (hr.mono (by decide)) (by rfl) mu ku bu vu pass0 (pa_cons (pv 0) (pa_cons (pv 1) (pa_cons (pv 5) (pa_cons (pv 6) pa_nil))))) pe_int (fun _ _ => rfl)) (pa_cons (pv 2) (pa_cons (pv 3) pa_nil))))))))
            (pss_cons (ps_expr (pe_bm PySem.F.plainAttrs_list PySem.F.slot_list_append PySem.F.type_list_append mt_append (pe_dget (hu_of hr) (pv 4) (pe_tup (pa_cons (pv 5) (pa_cons (pv 6) pa_nil))) (fun _ _ => rfl)) (pa_cons (pe_tup (pa_cons (pv 5) (pa_cons (pe_op op_add (pv 6) pe_int) pa_nil))) pa_nil)))
            (pss_one (ps_expr (pe_bm PySem.F.plainAttrs_list PySem.F.slot_list_append PySem.F.type_list_append mt_append (pe_dget (hu_of hr) (pv 4) (pe_tup (pa_cons (pv 5) (pa_cons (pe_op op_add (pv 6) pe_int) pa_nil))) (fun _ _ => rfl)) (pa_cons (pe_tup (pa_cons (pv 5) (pa_cons (pv 6) pa_nil))) pa_nil))))) pss_nil)
        (pss_one (ps_if (PW.pt (pw_and (pt_cmp (pc_din (hu_of hr) (pe_tup (pa_cons (pe_op op_add (pv 5) pe_int) (pa_cons (pv 6) pa_nil))) (pv 4)) (by rfl)) (pw_and1 (pt_val (pe_call Gb_ (hr.mono (by decide)) (by rfl) mb kb bb vb pass0 (pa_cons (pe_ix ix_seq (pe_call Gr_ (hr.mono (by decide)) (by rfl) mr kr br vr pass0 (pa_cons (pv 0) (pa_cons (pv 1) (pa_cons (pv 5) (pa_cons (pv 6) pa_nil))))) pe_int (fun _ _ => rfl)) (pa_cons (pv 2) (pa_cons (pv 3) pa_nil))))))))
            (pss_cons (ps_expr (pe_bm PySem.F.plainAttrs_list PySem.F.slot_list_append PySem.F.type_list_append mt_append (pe_dget (hu_of hr) (pv 4) (pe_tup (pa_cons (pv 5) (pa_cons (pv 6) pa_nil))) (fun _ _ => rfl)) (pa_cons (pe_tup (pa_cons (pe_op op_add (pv 5) pe_int) (pa_cons (pv 6) pa_nil))) pa_nil)))
            (pss_one (ps_expr (pe_bm PySem.F.plainAttrs_list PySem.F.slot_list_append PySem.F.type_list_append mt_append (pe_dget (hu_of hr) (pv 4) (pe_tup (pa_cons (pe_op op_add (pv 5) pe_int) (pa_cons (pv 6) pa_nil))) (fun _ _ => rfl)) (pa_cons (pe_tup (pa_cons (pv 5) (pa_cons (pv 6) pa_nil))) pa_nil))))) pss_nil))))
      (pss_one (ps_ret (pv 4))))), ?_⟩
    refine ⟨_, rfl, _, rfl, _, rfl, _, rfl, F0, one, s, closed, eF, ⟨_, _, rfl, r1, _, _, rfl, r2, _, _, rfl, r3, _, _, rfl, by unfold Rp; rfl, rfl⟩, zl, zs, hs0, fun F1 H1 l ps as ls B hS hE => ?_⟩
    obtain ⟨ws, d1, d2, d3⟩ := B.dict
    refine ⟨_, rfl, l, ws, rfl, .inl d1, fun c bs hc hbs => ⟨c, rfl, ⟨_, SqL.of upd_same⟩, ?_⟩⟩
    have g2 := keys_gr B.gr.fh hbs
    have rk : RpL (fun b => if b ∈ bs then H1 b else F1 b) ((ps.map k2).map keyT) (bs.map V.ref) := rpl_keys d2 hbs (fun b hb => if_pos hb)
    have g3 := Gr.laid (o := .lst (bs.map V.ref)) g2.fh hc
    have B3 := (B.grow g2).grow g3
    obtain ⟨F3, eF3⟩ : ∃ F3, F3 = upd (fun b => if b ∈ bs then H1 b else F1 b) c (.lst (bs.map V.ref)) := ⟨_, rfl⟩
    have rk3 : RpL F3 ((ps.map k2).map keyT) (bs.map V.ref) := by rw [eF3]; exact RpL.mono g3.eF _ rk
    have hc3 : F3 c = some (.lst (bs.map V.ref)) := by rw [eF3]; exact upd_same
    rw [← eF3] at B3
    have e03 : Evl.Ex F0 F3 := B3.gr.eF
    have hbl : bs.length = ps.length := by
      have := rk3.length
      simpa using this.symm
    have hsub : ps ⊆ grid one.length := fun p hp => by
      obtain ⟨x, y, rfl, hx, hy⟩ := hS.1 p hp
      exact grid_mem hx hy
    have hlen := nodup_sub B3.np hsub
    rw [grid_len] at hlen
    have hlen2 : one.length * one.length ≤ 20 * 20 := Nat.mul_le_mul w1 w1
    refine for_list (xs := bs.map V.ref) (a := c) (fun m σ' H' => boP F3 F0 H v1 v2 v3 closed l ps as 4 m σ' H') ⟨_, _, F3, ls, rfl, B3, Evl.Ex.refl F3, fun t p li _ hli => by rw [hE li (List.mem_of_getElem? hli)]; exact ⟨Nat.zero_le _, fun q hq => (nomatch hq)⟩⟩ ?_ ?_ ?_
    · rintro i σ' H' _ ⟨v5, v6, F', ls', rfl, B', e', _⟩
      exact SqL.of (B'.gr.fh _ _ (e' _ _ hc3))
    · rintro m x σ' H' hx ⟨v5, v6, F', ls', rfl, B', e', hA⟩
      obtain ⟨d, hd, rd⟩ := rk3.back hx
      obtain ⟨p, hp, rfl⟩ : ∃ p, ps[m]? = some p ∧ d = keyT (k2 p) := by
        rw [List.map_map, List.getElem?_map] at hd
        cases e : ps[m]? with
        | none => rw [e] at hd; cases hd
        | some p => rw [e] at hd; exact ⟨p, rfl, (Option.some.inj hd).symm⟩
      obtain ⟨i, j, rfl, hi, hj⟩ := hS.1 p (List.mem_of_getElem? hp)
      have hml : m < ps.length := (List.getElem?_eq_some_iff.mp hp).1
      obtain ⟨b, hb1, hb2⟩ := rp_pair (i := (i : Int)) (j := (j : Int)) rd
      subst hb1
      refine ⟨b, _, rfl, SqT.of (B'.gr.fh _ _ (e' _ _ hb2)), rfl, _, _, rfl, _, _, rfl, rfl, ?_⟩
      have hps : ∀ q : Pt, q ∈ ps → ∃ t, ps[t]? = some q := fun q hq => List.mem_iff_getElem?.mp hq
      have hlm : ∀ {ls : List (List Pt)} {F' H' : Hp}, BarH F0 H F' H' l ps as ls → ∀ t q, ps[t]? = some q → ∃ li, ls[t]? = some li := fun B t q hq => ⟨_, List.getElem?_eq_getElem (by rw [B.ll]; exact (List.getElem?_eq_some_iff.mp hq).1)⟩
      refine ⟨fun σ' H' => ∃ F' ls, σ' = [some v1, some v2, some v3, some (.bl closed), some (.ref l), some (.int (i : Int)), some (.int (j : Int))] ∧ BarH F0 H F' H' l ps as ls ∧ Evl.Ex F3 F' ∧ AdjOk ps ls (4 * m + 2), ?_, ?_⟩
      · unfold tIfS tAnd tB
        refine bars_in (mk56u rfl rfl) rfl B' fun t F4 H4 ht B4 e4 => ⟨_, rfl, ?_⟩
        cases t with
        | false => exact ⟨F4, ls', rfl, B4, e'.trans e4, hA.mono (by omega)⟩
        | true =>
          have hu := ht rfl
          obtain ⟨x', y', e1, hx', hy'⟩ := hS.1 _ hu
          have hj1 : j + 1 < one.length := by
            injection e1 with q1 q2
            omega
          refine iteT ?_
          refine bars_test (R := t_least_up) (fun k hk => ⟨one, one, i, j, rfl, zl, zl, hi, hj1, fun v p zv _ => hk v p zv⟩) zs rfl (Rp.mono B4.gr.eF _ r1) (Rp.mono B4.gr.eF _ r2) (Rp.mono B4.gr.eF _ r3) B4 fun b F5 H5 B5 e5 => ⟨_, rfl, ?_⟩
          cases b with
          | false => exact ⟨F5, ls', rfl, B5, (e'.trans e4).trans e5, hA.mono (by omega)⟩
          | true =>
            refine iteT ?_
            obtain ⟨li, hli⟩ := hlm B5 m _ hp
            have hl1 := (hA m _ li hp hli).1
            refine bars_app (mk56 rfl rfl) (mk56u rfl rfl) rfl B5 hp hli (by omega) fun F6 H6 B6 e6 => ?_
            have hA6 := hA.app hp hli hu (.inl ⟨rfl, .inl rfl⟩)
            obtain ⟨t2, ht2⟩ := hps _ hu
            obtain ⟨li2, hli2⟩ := hlm B6 t2 _ ht2
            have hl2 := (hA6 t2 _ li2 ht2 hli2).1
            refine bars_app (mk56u rfl rfl) (mk56 rfl rfl) rfl B6 ht2 hli2 (by omega) fun F7 H7 B7 e7 => ?_
            have hA7 := hA6.app ht2 hli2 (List.mem_of_getElem? hp) (.inl ⟨rfl, .inr rfl⟩)
            exact ⟨F7, _, rfl, B7, (((e'.trans e4).trans e5).trans e6).trans e7, hA7.mono (by omega)⟩
      · rintro σ' H' ⟨F', ls', rfl, B', e', hA⟩
        unfold tIfS tAnd tB
        refine bars_in (mk56r rfl rfl) rfl B' fun t F4 H4 ht B4 e4 => ⟨_, rfl, ?_⟩
        cases t with
        | false => exact ⟨_, _, F4, ls', rfl, B4, e'.trans e4, hA.mono (by omega)⟩
        | true =>
          have hu := ht rfl
          obtain ⟨x', y', e1, hx', hy'⟩ := hS.1 _ hu
          have hi1 : i + 1 < one.length := by
            injection e1 with q1 q2
            omega
          refine iteT ?_
          refine bars_test (R := t_least_right) (fun k hk => ⟨one, one, i, j, rfl, zl, zl, hi1, hj, fun v p zv _ => hk v p zv⟩) zs rfl (Rp.mono B4.gr.eF _ r1) (Rp.mono B4.gr.eF _ r2) (Rp.mono B4.gr.eF _ r3) B4 fun b F5 H5 B5 e5 => ⟨_, rfl, ?_⟩
          cases b with
          | false => exact ⟨_, _, F5, ls', rfl, B5, (e'.trans e4).trans e5, hA.mono (by omega)⟩
          | true =>
            refine iteT ?_
            obtain ⟨li, hli⟩ := hlm B5 m _ hp
            have hl1 := (hA m _ li hp hli).1
            refine bars_app (mk56 rfl rfl) (mk56r rfl rfl) rfl B5 hp hli (by omega) fun F6 H6 B6 e6 => ?_
            have hA6 := hA.app hp hli hu (.inr ⟨rfl, .inl rfl⟩)
            obtain ⟨t2, ht2⟩ := hps _ hu
            obtain ⟨li2, hli2⟩ := hlm B6 t2 _ ht2
            have hl2 := (hA6 t2 _ li2 ht2 hli2).1
            refine bars_app (mk56r rfl rfl) (mk56 rfl rfl) rfl B6 ht2 hli2 (by omega) fun F7 H7 B7 e7 => ?_
            have hA7 := hA6.app ht2 hli2 (List.mem_of_getElem? hp) (.inr ⟨rfl, .inr rfl⟩)
            exact ⟨_, _, F7, _, rfl, B7, (((e'.trans e4).trans e5).trans e6).trans e7, hA7.mono (by omega)⟩
    · rintro σ' H' ⟨v5, v6, F', ls', rfl, B', e', hA⟩
      obtain ⟨F5, g5, rd⟩ := B'.close
      refine ⟨_, rfl, hq _ _ F5 H' ?_ g5 rd⟩
      rw [List.length_map] at hA
      exact hk ps ls' hS B'.np B'.ll (hA.mono (by omega))
end
end G
namespace G
open PySem PySem.Spec PyProof.Rows L2 DL M
section
variable {P : Program} {w : World} {K : PySem.W.Frag} {mg : Str → Option Value} {base : Heap}
def ffE (one : List Pt) (s : Rat) (closed : Bool) (ps : List Pt) (ls : List (List Pt)) (t : EnvD) : EnvD := [some (.sh (ln one)), some (.sh (ln one)), some (.sh (fr s)), some (.sh (.bl closed)), some (.sh (.int ((one.length - 1 : Nat) : Int))), some (.sh (.int ((one.length - 1 : Nat) : Int))), some (.sh (.dct (ps.map k2) (ls.map ln)))] ++ t
theorem up_adj {p q : Pt} (h : p.1 < p.2) (ha : adj p q) (hn : q.1 ≠ q.2) : q.1 < q.2 := by
  unfold adj at ha
  omega
def t_fence_freely : Tr := fun ds k => ∃ (one : List Pt) (s : Rat) (closed : Bool), ds = [ln one, ln one, fr s, .bl closed] ∧ Lz one ∧ Fz 4000 s ∧ 0 ≤ s ∧ (closed = false → k .non) ∧ (closed = true → ∀ d, k d)
theorem len_fence_freely : ∀ ds k, t_fence_freely ds k → ds.length = 4 := by
  rintro ds k ⟨_, _, _, rfl, _⟩
  rfl
abbrev nm_fence_freely : List Str := ["one", "other", "square", "closed", "n", "m", "bars", "rim", "came", "spot", "at", "beside", "i", "j"]
theorem sc_fence_freely : FnScope nm_fence_freely ["one", "other", "square", "closed"] (defScope s_fence_freely) := ⟨rfl, rfl, rfl, by decide +kernel, rfl, by decide +kernel, by decide +kernel⟩
theorem fn_fence_freely (T : Txt K mg) : ∃ fd, FunD K "fence_freely" "fence_freely" (defArgs s_fence_freely) (defBody s_fence_freely) (defScope s_fence_freely) [.bl false] [] (He.ga K "fence_freely") fd ∧ FnOk P w K mg base CX0 11 (He.ga K "fence_freely") fd ["one", "other", "square", "closed"] (Pr t_fence_freely) := by
  obtain ⟨fd, F⟩ := T.says.def_ 36 (d := d_fence_freely) rfl
  refine ⟨fd, F, fn_ok (N := nm_fence_freely) (body := defBody s_fence_freely) (scope := defScope s_fence_freely) (params := defArgs s_fence_freely) (x := "fence_freely") (qual := "fence_freely") F sc_fence_freely len_fence_freely (fun cdv A outer s H E hr => ⟨_, _,
      (pbd_cons (psd_set (i := 4) sc_fence_freely.nd rfl (by first | exact .inl rfl | exact .inr rfl) (pd_call (k_last_of T) (hr.mono (by decide)) (by rfl) (pda_cons (pdv 0) pda_nil)))
      (pbd_cons (psd_set (i := 5) sc_fence_freely.nd rfl (by first | exact .inl rfl | exact .inr rfl) (pd_call (k_last_of T) (hr.mono (by decide)) (by rfl) (pda_cons (pdv 1) pda_nil)))
      (pbd_cons (psd_set (i := 6) sc_fence_freely.nd rfl (by first | exact .inl rfl | exact .inr rfl) (pd_call (k_bars_of T) (hr.mono (by decide)) (by rfl) (pda_cons (pdv 0) (pda_cons (pdv 1) (pda_cons (pdv 2) (pda_cons (pdv 3) pda_nil))))))
      (pbd_cons (psd_ownLc (i := 7) rfl sc_fence_freely.nd rfl rfl (sw_true rfl rfl rfl (by decide +kernel)) (own := [("i", 12), ("j", 13)]) (pid_list (pd_sh (pl_keys rfl (by rfl) (f_list T) (pdv 6)))) (blkOk_by (N := nm_fence_freely) (sc := defScope s_fence_freely) (by decide +kernel)) (fun _ _ _ _ _ => (pgd_tupK (K := K) (n := 2) rfl rfl (pgds_cons (pgd_name (i := 12) sc_fence_freely.nd rfl (by first | exact .inl rfl | exact .inr rfl)) (pgds_cons (pgd_name (i := 13) sc_fence_freely.nd rfl (by first | exact .inl rfl | exact .inr rfl)) pgds_nil)))) (fun _ _ _ _ _ => (pdts_one (pdw_or (pdt_cmp (op_eqAK (K := K) rfl hr.units) r2_eq (pdv 12) pd_int) (pdw_or1 (pdt_cmp (op_eqAK (K := K) rfl hr.units) r2_eq (pdv 13) (pdv 5)))).t)) (fun _ _ _ _ _ => (pd_tup (pda_cons (pdv 12) (pda_cons (pdv 13) pda_nil)))))
      (pbd_cons (psd_ownD (i := 8) sc_fence_freely.nd rfl (by first | exact .inl rfl | exact .inr rfl))
      (pbd_cons (psd_forO1 (i0 := 7) PassesOwn.never rfl (pv 7) (pgd_name (i := 9) sc_fence_freely.nd rfl (by first | exact .inl rfl | exact .inr rfl))
      (pbd_one (psd_put (i := 8) (hu_of hr) (pv 8) (pdv 9) pd_non)))
      (pbd_cons (psd_set (i := 10) sc_fence_freely.nd rfl (by first | exact .inl rfl | exact .inr rfl) pd_int)
      (pbd_cons (psd_while PassesOwn.never (pdt_cmp op_lt r2_B (pdv 10) (pd_lenO (x := "len") (by rfl) (f_len T) (pv 7)))
      (pbd_cons (psd_set (i := 9) sc_fence_freely.nd rfl (by first | exact .inl rfl | exact .inr rfl) (pd_ixO (pv 7) (pdv 10)))
      (pbd_cons (psd_aug (i := 10) sc_fence_freely.nd rfl (by first | exact .inl rfl | exact .inr rfl) pd_int ip_add)
      (pbd_cut (psd_if (pdw_or (pdt_cmp (op_eqA hr.units) r2_eq (pd_ixK (K := K) rfl (pdv 9) pd_int) (pdv 4)) (pdw_or1 (pdt_cmp (op_eqA hr.units) r2_eq (pd_ixK (K := K) rfl (pdv 9) pd_int) pd_int))).t (pbd_one (psd_frz 8 (psd_ret (pd_sh (pl_lc (own := [("i", 12), ("j", 13)]) rfl sc_fence_freely.nd (pid_list (pd_call (k_way_back T) (hr.mono (by decide)) (by rfl) (pda_cons (pdv 8) (pda_cons (pdv 9) pda_nil)))) (blkOk_by (N := nm_fence_freely) (sc := defScope s_fence_freely) (by decide +kernel)) (fun _ _ _ _ _ => (pgd_tupK (K := K) (n := 2) rfl rfl (pgds_cons (pgd_name (i := 12) sc_fence_freely.nd rfl (by first | exact .inl rfl | exact .inr rfl)) (pgds_cons (pgd_name (i := 13) sc_fence_freely.nd rfl (by first | exact .inl rfl | exact .inr rfl)) pgds_nil)))) (fun _ _ _ _ _ => pdts_nil) (fun _ _ _ _ _ => (pd_tup (pda_cons (pd_tup (pda_cons (pdv 12) (pda_cons pd_int pda_nil))) (pda_cons (pd_tup (pda_cons (pdv 13) (pda_cons pd_int pda_nil))) pda_nil))))))))) pbd_nil)
      (pbd_one (psd_for PassesOwn.never rfl (pid_list (pd_dget (hu_of hr) (pdv 6) (pdv 9))) (pgd_name (i := 11) sc_fence_freely.nd rfl (by first | exact .inl rfl | exact .inr rfl))
      (pbd_one (psd_if (pdt_dninO (hu_of hr) (pdv 11) (pv 8)) (pbd_cons (psd_put (i := 8) (hu_of hr) (pv 8) (pdv 11) (pdv 9))
      (pbd_one (let ae := (pdv 11); psd_app (i := 7) rfl (by first | exact .inl rfl | exact .inr (.inl rfl)) ae (pe_bm PySem.F.plainAttrs_list PySem.F.slot_list_append PySem.F.type_list_append mt_append (pv 7) (pa_cons ae.run pa_nil))))) pbd_nil))))))))
      (pbd_one (psd_ret pd_non)))))))))), ?_⟩)⟩
  rintro ds k ⟨one, s, closed, rfl, zl, zs, s0, hk0, hk1⟩
  have w1 := zl.2.1
  have n0 : 0 < one.length := List.length_pos_iff.mpr zl.1
  have el : (((one.map pt).length : Int) - 1) = ((one.length - 1 : Nat) : Int) := by rw [List.length_map]; omega
  refine ⟨_, rfl, _, rfl, _, rfl, _, rfl, ?_⟩
  rw [el]
  refine ⟨_, rfl, _, rfl, _, rfl, _, rfl, one, s, closed, rfl, zl, zs, s0, fun ps ls hS hN hL hA => ?_⟩
  have hkn : k .non := by
    cases closed with
    | false => exact hk0 rfl
    | true => exact hk1 rfl _
  have hpb : ∀ p ∈ ps, 0 ≤ p.1 ∧ 0 ≤ p.2 ∧ p.1 ≤ ((one.length - 1 : Nat) : Int) ∧ p.2 ≤ ((one.length - 1 : Nat) : Int) := fun p hp => by
    obtain ⟨a, b, rfl, ha, hb⟩ := hS.1 p hp
    exact ⟨by show (0 : Int) ≤ (a : Int); omega, by show (0 : Int) ≤ (b : Int); omega, by show (a : Int) ≤ _; omega, by show (b : Int) ≤ _; omega⟩
  have hsub : ps ⊆ grid one.length := fun p hp => by
    obtain ⟨x, y, rfl, hx, hy⟩ := hS.1 p hp
    exact grid_mem hx hy
  have hpl := nodup_sub hN hsub
  rw [grid_len] at hpl
  have hlen2 : one.length * one.length ≤ 20 * 20 := Nat.mul_le_mul w1 w1
  refine ⟨_, rfl, _, _, rfl, by rw [List.length_map]; omega, _, rfl, fun i acc => ∃ ws : List Pt, acc = ws.map pt ∧ ws.length ≤ i ∧ ∀ w ∈ ws, w ∈ ps ∧ (closed = false → w.1 < w.2), ⟨[], rfl, Nat.zero_le _, fun w h => (nomatch h)⟩, ?_, ?_⟩
  · rintro i d acc hi ⟨ws, rfl, hl, hw⟩
    obtain ⟨p, hp, rfl⟩ : ∃ p, ps[i]? = some p ∧ d = pt p := by
      rw [List.map_map, List.getElem?_map] at hi
      cases e : ps[i]? with
      | none => rw [e] at hi; cases hi
      | some p => rw [e] at hi; exact ⟨p, rfl, (Option.some.inj hi).symm⟩
    have hpm := List.mem_of_getElem? hp
    have hil := (List.getElem?_eq_some_iff.mp hp).1
    obtain ⟨b1, b2, b3, b4⟩ := hpb p hpm
    refine ⟨_, rfl, rfl, _, _, rfl, _, _, rfl, rfl, ?_⟩
    refine ⟨_, rfl, _, rfl, _, rfl, ?_⟩
    refine ite2 (fun h1 => ?_) (fun h1 => ?_)
    · have h1' : p.1 = 0 := by simpa using h1
      refine iteT ⟨_, rfl, _, rfl, tl2, by rw [List.length_map]; omega, ws ++ [p], by rw [List.map_append]; rfl, by rw [List.length_append]; exact Nat.add_le_add_right hl 1, fun w h => (List.mem_append.mp h).elim (hw w) (fun z => ?_)⟩
      rw [List.mem_singleton.mp z]
      exact ⟨hpm, fun hc => by have := hS.2 hc p hpm; omega⟩
    · refine ⟨_, rfl, _, rfl, _, rfl, _, rfl, ?_⟩
      refine ite2 (fun h2 => ?_) (fun h2 => ?_)
      · have h2' : p.2 = ((one.length - 1 : Nat) : Int) := by simpa using h2
        refine ⟨_, rfl, _, rfl, tl2, by rw [List.length_map]; omega, ws ++ [p], by rw [List.map_append]; rfl, by rw [List.length_append]; exact Nat.add_le_add_right hl 1, fun w h => (List.mem_append.mp h).elim (hw w) (fun z => ?_)⟩
        rw [List.mem_singleton.mp z]
        exact ⟨hpm, fun hc => by have := hS.2 hc p hpm; omega⟩
      · exact ⟨ws, rfl, by omega, hw⟩
  · rintro acc ⟨ws, rfl, hl, hw⟩
    rw [List.length_map, List.length_map] at hl
    refine ⟨_, rfl, fun a => ?_⟩
    refine ⟨fun i ρ => ∃ ks vs c, ρ = ffE one s closed ps ls [some (.la a (ws.map pt)), some (.od ks vs), c, none, none, none, none] ∧ FInv ps ks vs ws ∧ ∀ j w, j < i → ws[j]? = some w → (getK ks vs (k2 w)).isSome = true, ⟨[], [], _, rfl, ⟨⟨fun _ => 0, 1, ⟨rfl, fun k d h => (nomatch h)⟩, fun k h => absurd h Bool.false_ne_true, by decide⟩, List.nodup_nil, fun k h => (nomatch h), hl⟩, fun j w h => absurd h (Nat.not_lt_zero _)⟩, ?_, ?_, ?_⟩
    · rintro i ρ ⟨ks, vs, c, rfl, _⟩
      rfl
    · rintro i d ρ hi ⟨ks, vs, c, rfl, hF, hj⟩
      obtain ⟨p, hp, rfl⟩ := getm hi
      have hpm := (hw p (List.mem_of_getElem? hp)).1
      obtain ⟨rank, N, c1, _⟩ := hF.ch
      have hkl := hF.klen
      refine ⟨_, _, rfl, by omega, _, rfl, k2 p, rfl, ?_⟩
      refine ⟨_, _, _, rfl, hF.none hpm, fun j w hlt hw2 => ?_⟩
      rw [getK_put _ _ _ c1.1]
      split
      · rfl
      · rename_i hne
        by_cases hji : j = i
        · subst hji
          rw [hp] at hw2
          cases hw2
          exact absurd rfl hne
        · exact hj j w (by omega) hw2
    · rintro ρ ⟨ks, vs, c, rfl, hF, hj⟩
      have hall : ∀ w ∈ ws, w ∈ ps ∧ (closed = false → w.1 < w.2) ∧ (getK ks vs (k2 w)).isSome = true := fun w hww => by
        obtain ⟨j, hj2⟩ := List.mem_iff_getElem?.mp hww
        exact ⟨(hw w hww).1, (hw w hww).2, hj j w (by rw [List.length_map]; exact (List.getElem?_eq_some_iff.mp hj2).1) hj2⟩
      refine ⟨fun M ρ => ∃ (ws : List Pt) (ks : List (List Int)) (vs : List Dat) (at_ : Nat) (c d : _), ρ = ffE one s closed ps ls [some (.ol (ws.map pt)), some (.od ks vs), c, some (.sh (.int (at_ : Int))), d, none, none] ∧ FInv ps ks vs ws ∧ (∀ w ∈ ws, w ∈ ps ∧ (closed = false → w.1 < w.2) ∧ (getK ks vs (k2 w)).isSome = true) ∧ at_ ≤ ws.length ∧ M = 2 * ps.length + 1 - at_, ⟨_, ws, ks, vs, 0, _, _, rfl, hF, hall, Nat.zero_le _, rfl⟩, ?_⟩
      rintro M ρ ⟨ws, ks, vs, at_, c, d, rfl, hF, hall, hat, rfl⟩
      refine ⟨_, rfl, _, rfl, _, _, rfl, rfl, _, rfl, ?_⟩
      refine ite2 (fun h1 => ?_) (fun h1 => hkn)
      have h1' : (at_ : Int) < ((ws.map pt).length : Int) := by simpa using h1
      rw [List.length_map] at h1'
      have h2 : at_ < ws.length := by omega
      have hwl := hF.len
      have hkl := hF.klen
      obtain ⟨q, hq⟩ : ∃ q, ws[at_]? = some q := ⟨_, List.getElem?_eq_getElem h2⟩
      obtain ⟨hqp, hqu, hqs⟩ := hall q (List.mem_of_getElem? hq)
      obtain ⟨b1, b2, b3, b4⟩ := hpb q hqp
      refine ⟨_, rfl, _, rfl, _, _, rfl, atm hq, ?_⟩
      refine ⟨_, rfl, _, rfl, ?_⟩
      refine ⟨fun ρ => ρ = ffE one s closed ps ls [some (.ol (ws.map pt)), some (.od ks vs), some (.sh (pt q)), some (.sh (.int ((at_ : Int) + 1))), d, none, none], ?_, ?_⟩
      · refine ⟨_, rfl, _, _, _, rfl, rfl, rfl, _, rfl, _, rfl, _, rfl, ?_⟩
        refine ite2 (fun h3 => ?_) (fun h3 => ?_)
        · have h3' : q.1 = ((one.length - 1 : Nat) : Int) := by simpa using h3
          have hct : closed = true := by
            cases hc : closed with
            | true => rfl
            | false => have := hqu hc; omega
          refine iteT ?_
          obtain ⟨rank, N, c1, c2, c3⟩ := hF.ch
          have hN2 := c2 _ hqs
          refine .inr ⟨_, _, rfl, _, rfl, _, rfl, rank, ks, vs, k2 q, rfl, c1, hqs, by omega, fun r rs hrs hr hall2 => ?_⟩
          have pr : ∀ x ∈ r :: rs, ∃ a b : Int, x = [a, b] := fun x hx => by
            rcases List.mem_cons.mp hx with z | z
            · obtain ⟨d, hd⟩ := Option.isSome_iff_exists.mp hr
              rw [z]
              exact (c1.2 r d hd).1
            · obtain ⟨k', hk'⟩ := hall2 x z
              exact (c1.2 x _ hk').1
          refine ⟨_, rfl, fun m acc => acc.length = m, rfl, ?_, fun acc _ => hk1 hct _⟩
          rintro m d acc hm hm3
          obtain ⟨x, hx, rfl⟩ : ∃ x, (r :: rs)[m]? = some x ∧ d = keyT x := by
            rw [List.getElem?_map] at hm
            cases e : (r :: rs)[m]? with
            | none => rw [e] at hm; cases hm
            | some x => rw [e] at hm; exact ⟨x, rfl, (Option.some.inj hm).symm⟩
          have hm2 := (List.getElem?_eq_some_iff.mp hx).1
          rw [List.length_cons] at hm2
          obtain ⟨a, b, rfl⟩ := pr x (List.mem_of_getElem? hx)
          refine ⟨_, rfl, rfl, _, _, rfl, _, _, rfl, rfl, ?_⟩
          refine ⟨_, rfl, tl2, _, rfl, tl2, tl2, by omega, ?_⟩
          show (acc ++ [_]).length = m + 1
          rw [List.length_append, hm3]
          rfl
        · refine ⟨_, rfl, _, _, _, rfl, rfl, rfl, _, rfl, _, rfl, ?_⟩
          refine ite2 (fun h4 => ?_) (fun h4 => ?_)
          · have h4' : q.2 = 0 := by simpa using h4
            have hct : closed = true := by
              cases hc : closed with
              | true => rfl
              | false => have := hqu hc; omega
            obtain ⟨rank, N, c1, c2, c3⟩ := hF.ch
            have hN2 := c2 _ hqs
            refine .inr ⟨_, _, rfl, _, rfl, _, rfl, rank, ks, vs, k2 q, rfl, c1, hqs, by omega, fun r rs hrs hr hall2 => ?_⟩
            have pr : ∀ x ∈ r :: rs, ∃ a b : Int, x = [a, b] := fun x hx => by
              rcases List.mem_cons.mp hx with z | z
              · obtain ⟨d, hd⟩ := Option.isSome_iff_exists.mp hr
                rw [z]
                exact (c1.2 r d hd).1
              · obtain ⟨k', hk'⟩ := hall2 x z
                exact (c1.2 x _ hk').1
            refine ⟨_, rfl, fun m acc => acc.length = m, rfl, ?_, fun acc _ => hk1 hct _⟩
            rintro m d acc hm hm3
            obtain ⟨x, hx, rfl⟩ : ∃ x, (r :: rs)[m]? = some x ∧ d = keyT x := by
              rw [List.getElem?_map] at hm
              cases e : (r :: rs)[m]? with
              | none => rw [e] at hm; cases hm
              | some x => rw [e] at hm; exact ⟨x, rfl, (Option.some.inj hm).symm⟩
            have hm2 := (List.getElem?_eq_some_iff.mp hx).1
            rw [List.length_cons] at hm2
            obtain ⟨a, b, rfl⟩ := pr x (List.mem_of_getElem? hx)
            refine ⟨_, rfl, rfl, _, _, rfl, _, _, rfl, rfl, ?_⟩
            refine ⟨_, rfl, tl2, _, rfl, tl2, tl2, by omega, ?_⟩
            show (acc ++ [_]).length = m + 1
            rw [List.length_append, hm3]
            rfl
          · rfl
      · rintro ρ rfl
        obtain ⟨t, ht⟩ := List.mem_iff_getElem?.mp hqp
        have htl := (List.getElem?_eq_some_iff.mp ht).1
        obtain ⟨li, hli⟩ : ∃ li, ls[t]? = some li := ⟨_, List.getElem?_eq_getElem (by rw [hL]; exact htl)⟩
        obtain ⟨_, hadj⟩ := hA t q li ht hli
        have hnd : (ps.map k2).Nodup := List.Pairwise.map k2 (fun a b hab z => hab (k2_inj z)) hN
        have hget : getK (ps.map k2) (ls.map ln) (k2 q) = some (ln li) := by
          have := getK_at (i := t) (k := k2 q) (ds := ls.map ln) hnd (by simp [hL]) (by rw [List.getElem?_map, ht]; rfl)
          rw [this, List.getElem?_map, hli]
          rfl
        refine ⟨_, rfl, _, _, rfl, _, rfl, k2 q, _, rfl, hget, _, rfl, fun i ρ => ∃ ws ks vs c, ρ = ffE one s closed ps ls [some (.ol (ws.map pt)), some (.od ks vs), some (.sh (pt q)), some (.sh (.int ((at_ : Int) + 1))), c, none, none] ∧ FInv ps ks vs ws ∧ (∀ w ∈ ws, w ∈ ps ∧ (closed = false → w.1 < w.2) ∧ (getK ks vs (k2 w)).isSome = true) ∧ at_ + 1 ≤ ws.length ∧ (getK ks vs (k2 q)).isSome = true, ⟨ws, ks, vs, _, rfl, hF, hall, h2, hqs⟩, ?_, ?_⟩
        · rintro i d ρ hi ⟨ws, ks, vs, c, rfl, hF, hall, hat, hqs⟩
          obtain ⟨p, hp, rfl⟩ := getm hi
          obtain ⟨hpm, hpa⟩ := hadj p (List.mem_of_getElem? hp)
          have hwl := hF.len
          have hkl := hF.klen
          obtain ⟨rank, N, c1, c2, c3⟩ := hF.ch
          refine ⟨_, rfl, k2 p, _, _, rfl, rfl, _, rfl, ?_⟩
          cases hs : (getK ks vs (k2 p)).isSome with
          | true => exact iteF ⟨ws, ks, vs, _, rfl, hF, hall, hat, hqs⟩
          | false =>
            refine iteT ⟨_, _, rfl, by omega, _, rfl, _, rfl, k2 p, rfl, ?_⟩
            refine ⟨_, rfl, by rw [List.length_map]; omega, _, rfl, ?_⟩
            have keep : ∀ k, (getK ks vs k).isSome = true → (getK (putKs ks vs (k2 p)) (putVs ks vs (k2 p) (keyT (k2 q))) k).isSome = true := fun k hk => by
              rw [getK_put _ _ _ c1.1]
              split
              · rfl
              · exact hk
            refine ⟨ws ++ [p], putKs ks vs (k2 p), putVs ks vs (k2 p) (keyT (k2 q)), _, by rw [List.map_append]; rfl, hF.next hpm hs hqs, fun w hw => ?_, by rw [List.length_append]; omega, keep _ hqs⟩
            rcases List.mem_append.mp hw with z | z
            · obtain ⟨z1, z2, z3⟩ := hall w z
              exact ⟨z1, z2, keep _ z3⟩
            · rw [List.mem_singleton.mp z]
              refine ⟨hpm, fun hc => up_adj (hqu hc) hpa (hS.2 hc p hpm), ?_⟩
              rw [getK_put _ _ _ c1.1, if_pos rfl]
              rfl
        · rintro ρ ⟨ws, ks, vs, c, rfl, hF, hall, hat, hqs⟩
          have hwl := hF.len
          have hkl := hF.klen
          exact ⟨2 * ps.length + 1 - (at_ + 1), by omega, ws, ks, vs, at_ + 1, _, _, rfl, hF, hall, hat, rfl⟩
theorem k_fence_freely3 (T : Txt K mg) : Kept P w K mg base "fence_freely" ["one", "other", "square", "closed"] [.bl false] 11 t_fence_freely := by
  obtain ⟨fd, F, G⟩ := fn_fence_freely (P := P) (w := w) (base := base) T
  exact keptD [.bl false] 3 0 F (g_fence_freely T) G (by simp) rfl rfl rfl (fun T kV doc pm an cdv ct us its h1 h2 => match us, its, h1, h2 with | [_, _, _], [_], _, _ => ⟨_, rfl, rfl⟩)
theorem k_fence_freely4 (T : Txt K mg) : Kept P w K mg base "fence_freely" ["one", "other", "square", "closed"] [] 11 t_fence_freely := by
  obtain ⟨fd, F, G⟩ := fn_fence_freely (P := P) (w := w) (base := base) T
  exact keptD [] 4 1 F (g_fence_freely T) G (by simp) rfl rfl rfl (fun T kV doc pm an cdv ct us its h1 h2 => match us, its, h1, h2 with | [_, _, _, _], [_], _, _ => ⟨_, rfl, rfl⟩)
def t_go_free : Tr := fun ds k => ∃ (one : List Pt) (s : Rat), ds = [ln one, ln one, fr s] ∧ Lz one ∧ Fz 4000 s ∧ 0 ≤ s ∧ ∀ d, k (goD true d)
theorem len_go_free : ∀ ds k, t_go_free ds k → ds.length = 3 := by
  rintro ds k ⟨_, _, rfl, _⟩
  rfl
abbrev nm_go_free : List Str := ["one", "other", "square", "fence"]
theorem sc_go_free : FnScope nm_go_free ["one", "other", "square"] (defScope s_go_free) := ⟨rfl, rfl, rfl, by decide +kernel, rfl, by decide +kernel, by decide +kernel⟩
theorem k_go_free (T : Txt K mg) : Kept P w K mg base "go_free" ["one", "other", "square"] [] 12 t_go_free := by
  obtain ⟨fd, F⟩ := T.says.def_ 40 (d := d_go_free) rfl
  refine kept_of (N := nm_go_free) (body := defBody s_go_free) (scope := defScope s_go_free) (params := defArgs s_go_free) F (g_go_free T) sc_go_free len_go_free (fun _ _ _ _ _ _ us hl => match us, hl with | [_, _, _], _ => rfl) (fun cdv A outer s H E hr => ⟨_, _,
      (pbd_cons (psd_expr (pd_call (k_look_at_square T) (hr.mono (by decide)) (by rfl) (pda_cons (pdv 2) pda_nil)))
      (pbd_cons (psd_set (i := 3) sc_go_free.nd rfl (by first | exact .inl rfl | exact .inr rfl) (pd_call (k_fence_freely3 T) (hr.mono (by decide)) (by rfl) (pda_cons (pdv 0) (pda_cons (pdv 1) (pda_cons (pdv 2) pda_nil)))))
      (pbd_cons (psd_if (pdt_cmp op_notN r2_notN (pdv 3) pd_non) (pbd_one (psd_ret (pd_tup (pda_cons pd_str (pda_cons (pdv 3) pda_nil))))) pbd_nil)
      (pbd_one (psd_ret (pd_tup (pda_cons pd_str (pda_cons (pd_call (k_walk_freely T) (hr.mono (by decide)) (by rfl) (pda_cons (pdv 0) (pda_cons (pdv 1) (pda_cons (pdv 2) pda_nil)))) pda_nil)))))))), ?_⟩)
  rintro ds k ⟨one, s, rfl, zl, zs, s0, hk⟩
  refine ⟨_, rfl, s, rfl, s0, _, rfl, _, rfl, _, rfl, one, s, false, rfl, zl, zs, s0, fun _ => ?_, fun h => (nomatch h)⟩
  refine ⟨_, rfl, rfl, _, rfl, iteF ?_⟩
  exact ⟨_, rfl, _, rfl, _, rfl, one, s, rfl, zl, zs, s0, fun d => ⟨tl2, hk d⟩⟩
end
end G
namespace G
open PySem PySem.Spec PyProof.Rows L2 DL M
section
variable {P : Program} {w : World} {K : PySem.W.Frag} {mg : Str → Option Value} {base : Heap}
def t_is_way : Tr := fun ds k => ∃ w : Str, ds = [.str w] ∧ k (.bl (decide (w ∈ (["on", "part", "free", "hops"] : List Str))))
theorem len_is_way : ∀ ds k, t_is_way ds k → ds.length = 1 := by
  rintro ds k ⟨_, rfl, _⟩
  rfl
abbrev nm_is_way : List Str := ["thing"]
theorem sc_is_way : FnScope nm_is_way ["thing"] (defScope s_is_way) := ⟨rfl, rfl, rfl, by decide +kernel, rfl, by decide +kernel, by decide +kernel⟩
theorem k_is_way (T : Txt K mg) : Kept P w K mg base "is_way" ["thing"] [] 1 t_is_way := by
  obtain ⟨fd, F⟩ := T.says.def_ 83 (d := d_is_way) rfl
  refine kept_of (N := nm_is_way) (body := defBody s_is_way) (scope := defScope s_is_way) (params := defArgs s_is_way) F (g_is_way T) sc_is_way len_is_way (fun _ _ _ _ _ _ us hl => match us, hl with | [_], _ => rfl) (fun cdv A outer s H E hr => ⟨_, _,
      (pbd_one (psd_ret (pd_and (pd_isi (T := "str") (by rfl) (f_isinstance T) (pdv 0) (pe_bltn (by rfl) (f_str T) (by decide +kernel) rfl)) (pd_one (pd_cmp op_in_seq r2_inS (pdv 0) (pd_tup (pda_cons pd_str (pda_cons pd_str (pda_cons pd_str (pda_cons pd_str pda_nil)))))))))), ?_⟩)
  rintro ds k ⟨w, rfl, hk⟩
  refine ⟨_, rfl, true, rfl, kit_ss, _, rfl, iteT ?_⟩
  refine ⟨_, rfl, tl4, w, ["on", "part", "free", "hops"], rfl, rfl, ?_⟩
  exact hk
def t_look_at_way : Tr := fun ds k => ∃ w : Str, ds = [.str w] ∧ w ∈ (["on", "part", "free", "hops"] : List Str) ∧ k .non
theorem len_look_at_way : ∀ ds k, t_look_at_way ds k → ds.length = 1 := by
  rintro ds k ⟨_, rfl, _⟩
  rfl
abbrev nm_look_at_way : List Str := ["way"]
theorem sc_look_at_way : FnScope nm_look_at_way ["way"] (defScope s_look_at_way) := ⟨rfl, rfl, rfl, by decide +kernel, rfl, by decide +kernel, by decide +kernel⟩
theorem k_look_at_way (T : Txt K mg) : Kept P w K mg base "look_at_way" ["way"] [] 2 t_look_at_way := by
  obtain ⟨fd, F⟩ := T.says.def_ 84 (d := d_look_at_way) rfl
  refine kept_of (N := nm_look_at_way) (body := defBody s_look_at_way) (scope := defScope s_look_at_way) (params := defArgs s_look_at_way) F (g_look_at_way T) sc_look_at_way len_look_at_way (fun _ _ _ _ _ _ us hl => match us, hl with | [_], _ => rfl) (fun cdv A outer s H E hr => ⟨_, _,
      (pbd_one (psd_if (pdt_not (pdt_val (pd_call (k_is_way T) (hr.mono (by decide)) (by rfl) (pda_cons (pdv 0) pda_nil)))) (pbd_one psd_never) pbd_nil)), ?_⟩)
  rintro ds k ⟨w, rfl, hw, hk⟩
  refine ⟨_, rfl, w, rfl, ?_⟩
  rw [decide_eq_true hw]
  exact ⟨_, rfl, iteF hk⟩
end
end G
/-! Merging rising lists. -/
namespace M
def srt (xs : List Rat) : Prop := xs.Pairwise (· < ·)
structure MInv (xs ys : List Rat) (i t : Nat) (zs : List Rat) : Prop where
  s : srt zs
  m : ∀ q, q ∈ zs ↔ q ∈ xs.take i ∨ q ∈ ys.take t
  x : ∀ z ∈ zs, ∀ w ∈ xs.drop i, z < w
  y : ∀ z ∈ zs, ∀ w ∈ ys.drop t, z < w
  l : zs.length ≤ i + t
theorem MInv.start {xs ys : List Rat} : MInv xs ys 0 0 [] := ⟨List.Pairwise.nil, fun q => by simp, fun z h => (nomatch h), fun z h => (nomatch h), Nat.le_refl _⟩
theorem srt_snoc {zs : List Rat} {x : Rat} (h : srt zs) (hx : ∀ z ∈ zs, z < x) : srt (zs ++ [x]) := by
  unfold srt at h ⊢
  rw [List.pairwise_append]
  exact ⟨h, by simp, fun a ha b hb => by rw [List.mem_singleton.mp hb]; exact hx a ha⟩
theorem drop_at {xs : List Rat} {i : Nat} {x : Rat} (h : xs[i]? = some x) : xs.drop i = x :: xs.drop (i + 1) := by
  obtain ⟨h1, h2⟩ := List.getElem?_eq_some_iff.mp h
  rw [← h2]
  exact List.drop_eq_getElem_cons h1
theorem take_at {xs : List Rat} {i : Nat} {x : Rat} (h : xs[i]? = some x) : xs.take (i + 1) = xs.take i ++ [x] := by
  rw [List.take_add_one, h]
  rfl
theorem srt_drop {xs : List Rat} (h : srt xs) (i : Nat) : srt (xs.drop i) := List.Pairwise.sublist (List.drop_sublist i xs) h
theorem srt_head {xs : List Rat} (hs : srt xs) {i : Nat} {x : Rat} (h : xs[i]? = some x) : ∀ w ∈ xs.drop (i + 1), x < w := by
  have := srt_drop hs i
  rw [drop_at h] at this
  exact (List.pairwise_cons.mp this).1
theorem MInv.less {xs ys zs : List Rat} {i t : Nat} {x y : Rat} (h : MInv xs ys i t zs) (sx : srt xs) (sy : srt ys) (hx : xs[i]? = some x) (hy : ys[t]? = some y) (lt : y < x) : MInv xs ys i (t + 1) (zs ++ [y]) := by
  have dy := drop_at hy
  have dx := drop_at hx
  refine ⟨srt_snoc h.s fun z hz => h.y z hz y (by rw [dy]; exact List.mem_cons_self), fun q => ?_, fun z hz w hw => ?_, fun z hz w hw => ?_, by rw [List.length_append]; have := h.l; simp; omega⟩
  · rw [take_at hy]
    simp only [List.mem_append, h.m q]
    exact or_assoc
  · rcases List.mem_append.mp hz with z1 | z1
    · exact h.x z z1 w hw
    · rw [List.mem_singleton.mp z1]
      rw [dx] at hw
      rcases List.mem_cons.mp hw with w1 | w1
      · rw [w1]; exact lt
      · have := srt_head sx hx w w1
        grind
  · rcases List.mem_append.mp hz with z1 | z1
    · exact h.y z z1 w (by rw [dy]; exact List.mem_cons_of_mem _ hw)
    · rw [List.mem_singleton.mp z1]
      exact srt_head sy hy w hw
theorem MInv.push {xs ys zs : List Rat} {i t t' : Nat} {x : Rat} (h : MInv xs ys i t zs) (sx : srt xs) (sy : srt ys) (hx : xs[i]? = some x) (ht : (t' = t ∧ ∀ w ∈ ys.drop t, x < w) ∨ (t' = t + 1 ∧ ys[t]? = some x)) : MInv xs ys (i + 1) t' (zs ++ [x]) := by
  have dx := drop_at hx
  refine ⟨srt_snoc h.s fun z hz => h.x z hz x (by rw [dx]; exact List.mem_cons_self), fun q => ?_, fun z hz w hw => ?_, fun z hz w hw => ?_, by rw [List.length_append]; have := h.l; simp; rcases ht with ⟨rfl, _⟩ | ⟨rfl, _⟩ <;> omega⟩
  · rw [take_at hx]
    rcases ht with ⟨rfl, _⟩ | ⟨rfl, hy⟩
    · simp only [List.mem_append, h.m q]
      exact or_right_comm
    · rw [take_at hy]
      simp only [List.mem_append, h.m q, List.mem_singleton]
      constructor
      · rintro ((a | a) | a)
        · exact .inl (.inl a)
        · exact .inr (.inl a)
        · exact .inl (.inr a)
      · rintro ((a | a) | (a | a))
        · exact .inl (.inl a)
        · exact .inr a
        · exact .inl (.inr a)
        · exact .inr a
  · rcases List.mem_append.mp hz with z1 | z1
    · exact h.x z z1 w (by rw [dx]; exact List.mem_cons_of_mem _ hw)
    · rw [List.mem_singleton.mp z1]
      exact srt_head sx hx w hw
  · rcases List.mem_append.mp hz with z1 | z1
    · rcases ht with ⟨rfl, _⟩ | ⟨rfl, hy⟩
      · exact h.y z z1 w hw
      · exact h.y z z1 w (by rw [drop_at hy]; exact List.mem_cons_of_mem _ hw)
    · rw [List.mem_singleton.mp z1]
      rcases ht with ⟨rfl, hd⟩ | ⟨rfl, hy⟩
      · exact hd w hw
      · exact srt_head sy hy w hw
theorem MInv.done {xs ys zs : List Rat} {t : Nat} (h : MInv xs ys xs.length t zs) (sy : srt ys) : srt (zs ++ ys.drop t) ∧ ∀ q, q ∈ zs ++ ys.drop t ↔ q ∈ xs ∨ q ∈ ys := by
  refine ⟨?_, fun q => ?_⟩
  · unfold srt
    rw [List.pairwise_append]
    exact ⟨h.s, srt_drop sy t, h.y⟩
  · rw [List.mem_append, h.m q, List.take_length]
    constructor
    · rintro ((a | a) | a)
      · exact .inl a
      · exact .inr (List.mem_of_mem_take a)
      · exact .inr (List.mem_of_mem_drop a)
    · rintro (a | a)
      · exact .inl (.inl a)
      · rw [← List.take_append_drop t ys] at a
        rcases List.mem_append.mp a with z | z
        · exact .inl (.inr z)
        · exact .inr z
end M
namespace G
open PySem PySem.Spec PyProof.Rows L2 DL M
section
variable {P : Program} {w : World} {K : PySem.W.Frag} {mg : Str → Option Value} {base : Heap}
def t_merged : Tr := fun ds k => ∃ xs ys : List Rat, ds = [.lst (xs.map fr), .lst (ys.map fr)] ∧ srt xs ∧ srt ys ∧ (∀ x ∈ xs, Fz 4000 x) ∧ (∀ y ∈ ys, Fz 4000 y) ∧ xs.length ≤ 20000 ∧ ys.length ≤ 20000 ∧ ∀ zs : List Rat, srt zs → (∀ q, q ∈ zs ↔ q ∈ xs ∨ q ∈ ys) → k (.lst (zs.map fr))
theorem len_merged : ∀ ds k, t_merged ds k → ds.length = 2 := by
  rintro ds k ⟨_, _, rfl, _⟩
  rfl
abbrev nm_merged : List Str := ["some", "others", "found", "at", "one"]
theorem sc_merged : FnScope nm_merged ["some", "others"] (defScope s_merged) := ⟨rfl, rfl, rfl, by decide +kernel, rfl, by decide +kernel, by decide +kernel⟩
theorem k_merged (T : Txt K mg) : Kept P w K mg base "merged" ["some", "others"] [] 2 t_merged := by
  obtain ⟨fd, F⟩ := T.says.def_ 85 (d := d_merged) rfl
  refine kept_of (N := nm_merged) (body := defBody s_merged) (scope := defScope s_merged) (params := defArgs s_merged) F (g_merged T) sc_merged len_merged (fun _ _ _ _ _ _ us hl => match us, hl with | [_, _], _ => rfl) (fun cdv A outer s H E hr => ⟨_, _,
      (pbd_cons (psd_own (i := 2) sc_merged.nd rfl (by first | exact .inl rfl | exact .inr rfl) (pl_lst pda_nil))
      (pbd_cons (psd_set (i := 3) sc_merged.nd rfl (by first | exact .inl rfl | exact .inr rfl) pd_int)
      (pbd_cons (psd_for PassesOwn.never rfl (pid_list (pdv 0)) (pgd_name (i := 4) sc_merged.nd rfl (by first | exact .inl rfl | exact .inr rfl))
      (pbd_cut (psd_while PassesOwn.never (pdw_and (pdt_cmp op_lt r2_B (pdv 3) (pd_bi call_len_seq rc_len (by rfl) (f_len T) PySem.boot_len (pda_cons (pdv 1) pda_nil))) (pdw_and1 (pdt_val (pd_call (k_less T) (hr.mono (by decide)) (by rfl) (pda_cons (pd_ixK (K := K) rfl (pdv 1) (pdv 3)) (pda_cons (pdv 4) pda_nil)))))).t
      (pbd_cons (let ae := (pd_ixK (K := K) rfl (pdv 1) (pdv 3)); psd_app (i := 2) rfl (by first | exact .inl rfl | exact .inr (.inl rfl)) ae (pe_bm PySem.F.plainAttrs_list PySem.F.slot_list_append PySem.F.type_list_append mt_append (pv 2) (pa_cons ae.run pa_nil)))
      (pbd_one (psd_set (i := 3) sc_merged.nd rfl (by first | exact .inl rfl | exact .inr rfl) (pd_op op_add r2_I (pdv 3) pd_int)))))
      (pbd_cut (psd_if (pdw_and (pdt_cmp op_lt r2_B (pdv 3) (pd_bi call_len_seq rc_len (by rfl) (f_len T) PySem.boot_len (pda_cons (pdv 1) pda_nil))) (pdw_and1 (pdt_cmp (op_eqA hr.units) r2_eq (pd_ixK (K := K) rfl (pdv 1) (pdv 3)) (pdv 4)))).t (pbd_one (psd_set (i := 3) sc_merged.nd rfl (by first | exact .inl rfl | exact .inr rfl) (pd_op op_add r2_I (pdv 3) pd_int))) pbd_nil)
      (pbd_one (let ae := (pdv 4); psd_app (i := 2) rfl (by first | exact .inl rfl | exact .inr (.inl rfl)) ae (pe_bm PySem.F.plainAttrs_list PySem.F.slot_list_append PySem.F.type_list_append mt_append (pv 2) (pa_cons ae.run pa_nil)))))))
      (pbd_one (psd_frz 2 (psd_ret (pd_sh (pl_cat (pdv 2) (pd_sh (pl_slice (pdv 1) (pdo_some (pdv 3)) pdo_none)))))))))), ?_⟩)
  rintro ds k ⟨xs, ys, rfl, sx, sy, fx, fy, lx, ly, hk⟩
  refine ⟨Nat.zero_le _, _, rfl, _, rfl, fun i ρ => ∃ (zs : List Rat) (t : Nat) (o : _), ρ = [some (.sh (.lst (xs.map fr))), some (.sh (.lst (ys.map fr))), some (.ol (zs.map fr)), some (.sh (.int (t : Int))), o] ∧ MInv xs ys i t zs ∧ t ≤ ys.length, ⟨[], 0, _, rfl, MInv.start, Nat.zero_le _⟩, ?_, ?_⟩
  · rintro i d ρ hi ⟨zs, t, o, rfl, hM, ht⟩
    obtain ⟨x, hx, rfl⟩ := getm hi
    have hil := (List.getElem?_eq_some_iff.mp hx).1
    have zx := fx x (List.mem_of_getElem? hx)
    refine ⟨fun ρ => ∃ (zs : List Rat) (t : Nat), ρ = [some (.sh (.lst (xs.map fr))), some (.sh (.lst (ys.map fr))), some (.ol (zs.map fr)), some (.sh (.int (t : Int))), some (.sh (fr x))] ∧ MInv xs ys i t zs ∧ t ≤ ys.length ∧ ∀ y, ys[t]? = some y → ¬ y < x, ?_, ?_⟩
    · refine ⟨fun M ρ => ∃ (zs : List Rat) (t : Nat), ρ = [some (.sh (.lst (xs.map fr))), some (.sh (.lst (ys.map fr))), some (.ol (zs.map fr)), some (.sh (.int (t : Int))), some (.sh (fr x))] ∧ MInv xs ys i t zs ∧ t ≤ ys.length ∧ M = ys.length - t, ⟨_, zs, t, rfl, hM, ht, rfl⟩, ?_⟩
      rintro M ρ ⟨zs, t, rfl, hM, ht, rfl⟩
      have hzl := hM.l
      refine ⟨_, rfl, _, rfl, _, .inl rfl, _, _, rfl, rfl, _, rfl, ?_⟩
      refine ite2 (fun h1 => ?_) (fun h1 => ?_)
      · have h1' : (t : Int) < ((ys.map fr).length : Int) := by simpa using h1
        rw [List.length_map] at h1'
        obtain ⟨y, hy⟩ : ∃ y, ys[t]? = some y := ⟨_, List.getElem?_eq_getElem (by omega)⟩
        have zy := fy y (List.mem_of_getElem? hy)
        refine ⟨_, rfl, _, rfl, _, _, _, rfl, rfl, atm hy, _, rfl, _, _, rfl, zy, zx, _, rfl, ?_⟩
        refine ite2 (fun h2 => ?_) (fun h2 => ?_)
        · have h2' : y < x := by simpa using h2
          refine ⟨_, rfl, by rw [List.length_map]; omega, _, rfl, _, rfl, _, _, _, rfl, rfl, atm hy, ?_⟩
          refine ⟨_, rfl, _, _, rfl, rfl, ?_⟩
          exact ⟨ys.length - (t + 1), by omega, zs ++ [y], t + 1, by rw [List.map_append]; rfl, hM.less sx sy hx hy h2', by omega, rfl⟩
        · have h2' : ¬ y < x := by simpa using h2
          exact ⟨zs, t, rfl, hM, ht, fun y' hy' => by rw [hy] at hy'; cases hy'; exact h2'⟩
      · have h1' : ¬ ((t : Int) < ((ys.map fr).length : Int)) := by simpa using h1
        rw [List.length_map] at h1'
        exact iteF ⟨zs, t, rfl, hM, ht, fun y' hy' => by have := (List.getElem?_eq_some_iff.mp hy').1; omega⟩
    · rintro ρ ⟨zs, t, rfl, hM, ht, hno⟩
      have hzl := hM.l
      refine ⟨fun ρ => ∃ t' : Nat, ρ = [some (.sh (.lst (xs.map fr))), some (.sh (.lst (ys.map fr))), some (.ol (zs.map fr)), some (.sh (.int (t' : Int))), some (.sh (fr x))] ∧ t' ≤ ys.length ∧ ((t' = t ∧ ∀ w ∈ ys.drop t, x < w) ∨ (t' = t + 1 ∧ ys[t]? = some x)), ?_, ?_⟩
      · refine ⟨_, rfl, _, rfl, _, .inl rfl, _, _, rfl, rfl, _, rfl, ?_⟩
        refine ite2 (fun h1 => ?_) (fun h1 => ?_)
        · have h1' : (t : Int) < ((ys.map fr).length : Int) := by simpa using h1
          rw [List.length_map] at h1'
          obtain ⟨y, hy⟩ : ∃ y, ys[t]? = some y := ⟨_, List.getElem?_eq_getElem (by omega)⟩
          refine ⟨_, rfl, _, rfl, _, _, _, rfl, rfl, atm hy, _, rfl, _, rfl, _, rfl, ?_⟩
          refine ite2 (fun h2 => ?_) (fun h2 => ?_)
          · have h2' : y.num = x.num ∧ (y.den : Int) = (x.den : Int) := by simpa using h2
            have e : y = x := Rat.ext h2'.1 (by omega)
            refine ⟨_, rfl, _, _, rfl, rfl, ?_⟩
            exact ⟨t + 1, rfl, by omega, .inr ⟨rfl, by rw [← e]; exact hy⟩⟩
          · have h2' : ¬ (y.num = x.num ∧ (y.den : Int) = (x.den : Int)) := by simpa using h2
            have hne : y ≠ x := fun e => h2' (by rw [e]; exact ⟨rfl, rfl⟩)
            have hxy : x < y := by
              have := hno y hy
              grind
            refine ⟨t, rfl, ht, .inl ⟨rfl, fun w hw => ?_⟩⟩
            rw [drop_at hy] at hw
            rcases List.mem_cons.mp hw with z | z
            · rw [z]; exact hxy
            · have := srt_head sy hy w z
              grind
        · have h1' : ¬ ((t : Int) < ((ys.map fr).length : Int)) := by simpa using h1
          rw [List.length_map] at h1'
          refine iteF ⟨t, rfl, ht, .inl ⟨rfl, fun w hw => ?_⟩⟩
          rw [List.drop_of_length_le (by omega)] at hw
          cases hw
      · rintro ρ ⟨t', rfl, ht', hc⟩
        refine ⟨_, rfl, by rw [List.length_map]; omega, _, rfl, ?_⟩
        exact ⟨zs ++ [x], t', _, by rw [List.map_append]; rfl, hM.push sx sy hx hc, ht'⟩
  · rintro ρ ⟨zs, t, o, rfl, hM, ht⟩
    rw [List.length_map] at hM
    have hzl := hM.l
    obtain ⟨d1, d2⟩ := hM.done sy
    refine .inl ⟨_, rfl, _, rfl, _, rfl, _, rfl, _, rfl, ?_⟩
    refine ⟨_, rfl, ?_⟩
    rw [cut_from, ← List.map_drop]
    refine ⟨_, _, rfl, rfl, by rw [List.length_map, List.length_map, List.length_drop]; omega, ?_⟩
    rw [← List.map_append]
    exact hk _ d1 d2
theorem srt_len {za xs : List Rat} (s : srt za) (m : ∀ q, q ∈ za → q ∈ xs) : za.length ≤ xs.length := nodup_sub (List.Pairwise.imp (fun {a b} h z => by rw [z] at h; exact Rat.lt_irrefl h) s) (fun q hq => m q hq)
def t_rising (n : Nat) : Tr := fun ds k => ∃ xs : List Rat, ds = [.lst (xs.map fr)] ∧ xs.length ≤ 2 ^ n ∧ xs.length ≤ 20000 ∧ (∀ x ∈ xs, Fz 4000 x) ∧ ∀ zs : List Rat, srt zs → (∀ q, q ∈ zs ↔ q ∈ xs) → k (.lst (zs.map fr))
abbrev nm_rising : List Str := ["some", "middle"]
theorem sc_rising : FnScope nm_rising ["some"] (defScope s_rising) := ⟨rfl, rfl, rfl, by decide +kernel, rfl, by decide +kernel, by decide +kernel⟩
theorem rising_step (T : Txt K mg) {m n : Nat} {R0 : Tr} (rec : Kept P w K mg base "rising" ["some"] [] m R0) (hm : 4 ≤ m) (hcase : n = 0 ∨ ∃ n', n = n' + 1 ∧ R0 = t_rising n') : Kept P w K mg base "rising" ["some"] [] (m + 1) (t_rising n) := by
  obtain ⟨fd, F⟩ := T.says.def_ 86 (d := d_rising) rfl
  refine kept_of (N := nm_rising) (body := defBody s_rising) (scope := defScope s_rising) (params := defArgs s_rising) F (g_rising T) sc_rising (fun ds k h => by obtain ⟨xs, rfl, _⟩ := h; rfl) (fun _ _ _ _ _ _ us hl => match us, hl with | [_], _ => rfl) (fun cdv A outer s H E hr => ⟨_, _,
      (pbd_cons (psd_if (pdt_cmp op_lt r2_B (pd_bi call_len_seq rc_len (by rfl) (f_len T) PySem.boot_len (pda_cons (pdv 0) pda_nil)) pd_int) (pbd_one (psd_ret (pd_sh (pl_list (by rfl) (f_list T) (pdv 0))))) pbd_nil)
      (pbd_cons (psd_set (i := 1) sc_rising.nd rfl (by first | exact .inl rfl | exact .inr rfl) (pd_op op_fdivWN r2_Ic (pd_bi call_len_seq rc_len (by rfl) (f_len T) PySem.boot_len (pda_cons (pdv 0) pda_nil)) pd_int))
      (pbd_one (psd_ret (pd_call (k_merged T) (hr.mono (Nat.le_trans (by decide) hm)) (by rfl) (pda_cons (pd_call rec (hr.mono (Nat.le_refl _)) (by rfl) (pda_cons (pd_sh (pl_slice (pdv 0) pdo_none (pdo_some (pdv 1)))) pda_nil)) (pda_cons (pd_call rec (hr.mono (Nat.le_refl _)) (by rfl) (pda_cons (pd_sh (pl_slice (pdv 0) (pdo_some (pdv 1)) pdo_none)) pda_nil)) pda_nil))))))), ?_⟩)
  rintro ds k ⟨xs, rfl, h1, h2, fx, hk⟩
  refine ⟨_, rfl, _, .inl rfl, _, _, rfl, rfl, _, rfl, ?_⟩
  refine ite2 (fun h => ?_) (fun h => ?_)
  · have h' : ((xs.map fr).length : Int) < 2 := by simpa using h
    rw [List.length_map] at h'
    refine ⟨_, rfl, _, rfl, hk xs ?_ (fun q => Iff.rfl)⟩
    match xs, h' with
    | [], _ => exact List.Pairwise.nil
    | [x], _ => exact List.pairwise_singleton _ _
    | _ :: _ :: _, h' => simp at h'; omega
  · have h' : ¬ ((xs.map fr).length : Int) < 2 := by simpa using h
    rw [List.length_map] at h'
    obtain ⟨n', rfl, rfl⟩ : ∃ n', n = n' + 1 ∧ R0 = t_rising n' := by
      rcases hcase with z | z
      · subst z
        simp at h1
        omega
      · exact z
    have e2 : ((xs.length : Int)).fdiv 2 = ((xs.length / 2 : Nat) : Int) := by
      rw [Int.fdiv_eq_ediv_of_nonneg _ (by decide)]
      omega
    have hp : 2 ^ (n' + 1) = 2 * 2 ^ n' := by rw [Nat.pow_succ, Nat.mul_comm]
    refine ⟨_, rfl, _, .inl rfl, _, _, rfl, rfl, divok (n := 10) (szn (by decide) (by decide)) (by decide) (by decide) (by decide), ?_⟩
    rw [List.length_map, e2]
    refine ⟨_, rfl, _, rfl, _, rfl, _, rfl, ?_⟩
    rw [cut_to, ← List.map_take]
    refine ⟨xs.take (xs.length / 2), rfl, by rw [List.length_take]; omega, by rw [List.length_take]; omega, fun x hx => fx x (List.mem_of_mem_take hx), fun za sa ma => ?_⟩
    refine ⟨_, rfl, _, rfl, _, rfl, _, rfl, ?_⟩
    rw [cut_from, ← List.map_drop]
    refine ⟨xs.drop (xs.length / 2), rfl, by rw [List.length_drop]; omega, by rw [List.length_drop]; omega, fun x hx => fx x (List.mem_of_mem_drop hx), fun zb sb mb => ?_⟩
    have la := srt_len sa (fun q hq => (ma q).mp hq)
    have lb := srt_len sb (fun q hq => (mb q).mp hq)
    rw [List.length_take] at la
    rw [List.length_drop] at lb
    refine ⟨za, zb, rfl, sa, sb, fun x hx => fx x (List.mem_of_mem_take ((ma x).mp hx)), fun x hx => fx x (List.mem_of_mem_drop ((mb x).mp hx)), by omega, by omega, fun zs sz mz => hk zs sz fun q => ?_⟩
    rw [mz q, ma q, mb q, ← List.mem_append, List.take_append_drop]
theorem rising_none (T : Txt K mg) : Kept P w K mg base "rising" ["some"] [] 5 (fun _ _ => False) := by
  obtain ⟨fd, F⟩ := T.says.def_ 86 (d := d_rising) rfl
  exact ⟨⟨He.ga K "rising", fd, [], g_rising T, ⟨fun vs H Q E h => (by obtain ⟨_, _, _, _, _, h, _⟩ := h; exact h.elim), fun A outer s H args us vs Q E _ _ _ _ h => (by obtain ⟨_, _, _, _, _, h, _⟩ := h; exact h.elim)⟩, F.kp, FunD.bindsN (x := "rising") (qual := "rising") (params := defArgs s_rising) (body := defBody s_rising) (scope := defScope s_rising) F (fun _ _ _ _ _ _ us hl => match us, hl with | [_], _ => rfl), .nil⟩, rfl⟩
theorem rising_n (T : Txt K mg) : ∀ n, Kept P w K mg base "rising" ["some"] [] (6 + n) (t_rising n)
  | 0 => rising_step T (rising_none T) (by decide) (.inl rfl)
  | n + 1 => rising_step T (rising_n T n) (Nat.le_trans (by decide) (Nat.le_add_right 6 n)) (.inr ⟨n, rfl, rfl⟩)
theorem k_rising (T : Txt K mg) : Kept P w K mg base "rising" ["some"] [] 20 (t_rising 14) := rising_n T 14
end
end G
namespace G
open PySem PySem.Spec PyProof.Rows L2 DL M
section
variable {P : Program} {w : World} {K : PySem.W.Frag} {mg : Str → Option Value} {base : Heap}
theorem fm_succ {α β : Type} {f : α → List β} {l : List α} {i : Nat} {x : α} (h : l[i]? = some x) : (l.take (i + 1)).flatMap f = (l.take i).flatMap f ++ f x := by
  rw [List.take_add_one, h, List.flatMap_append]
  simp
theorem fr_succ {β : Type} {f : Nat → List β} {i : Nat} : (List.range (i + 1)).flatMap f = (List.range i).flatMap f ++ f i := by
  rw [List.range_succ, List.flatMap_append]
  simp
def t_corner_squares : Tr := fun ds k => ∃ P Q : List Pt, ds = [ln P, ln Q] ∧ Lz P ∧ Lz Q ∧ k (.lst ((cornQ P Q).map fr))
theorem len_corner_squares : ∀ ds k, t_corner_squares ds k → ds.length = 2 := by
  rintro ds k ⟨_, _, rfl, _⟩
  rfl
abbrev nm_corner_squares : List Str := ["one", "other", "found", "x", "y", "a", "b"]
theorem sc_corner_squares : FnScope nm_corner_squares ["one", "other"] (defScope s_corner_squares) := ⟨rfl, rfl, rfl, by decide +kernel, rfl, by decide +kernel, by decide +kernel⟩
theorem k_corner_squares (T : Txt K mg) : Kept P w K mg base "corner_squares" ["one", "other"] [] 3 t_corner_squares := by
  obtain ⟨fd, F⟩ := T.says.def_ 87 (d := d_corner_squares) rfl
  refine kept_of (N := nm_corner_squares) (body := defBody s_corner_squares) (scope := defScope s_corner_squares) (params := defArgs s_corner_squares) F (g_corner_squares T) sc_corner_squares len_corner_squares (fun _ _ _ _ _ _ us hl => match us, hl with | [_, _], _ => rfl) (fun cdv A outer s H E hr => ⟨_, _,
      (pbd_cons (psd_own (i := 2) sc_corner_squares.nd rfl (by first | exact .inl rfl | exact .inr rfl) (pl_lst pda_nil))
      (pbd_cons (psd_for PassesOwn.never rfl (pid_list (pdv 0)) (pgd_tupK (K := K) (n := 2) rfl rfl (pgds_cons (pgd_name (i := 3) sc_corner_squares.nd rfl (by first | exact .inl rfl | exact .inr rfl)) (pgds_cons (pgd_name (i := 4) sc_corner_squares.nd rfl (by first | exact .inl rfl | exact .inr rfl)) pgds_nil)))
      (pbd_one (psd_for PassesOwn.never rfl (pid_list (pdv 1)) (pgd_tupK (K := K) (n := 2) rfl rfl (pgds_cons (pgd_name (i := 5) sc_corner_squares.nd rfl (by first | exact .inl rfl | exact .inr rfl)) (pgds_cons (pgd_name (i := 6) sc_corner_squares.nd rfl (by first | exact .inl rfl | exact .inr rfl)) pgds_nil)))
      (pbd_one (let ae := (pd_call (k_ratio1 T) (hr.mono (by decide)) (by rfl) (pda_cons (pd_op op_add r2_I (pd_op op_mulW r2_Ic (pd_op op_sub r2_I (pdv 3) (pdv 5)) (pd_op op_sub r2_I (pdv 3) (pdv 5))) (pd_op op_mulW r2_Ic (pd_op op_sub r2_I (pdv 4) (pdv 6)) (pd_op op_sub r2_I (pdv 4) (pdv 6)))) pda_nil)); psd_app (i := 2) rfl (by first | exact .inl rfl | exact .inr (.inl rfl)) ae (pe_bm PySem.F.plainAttrs_list PySem.F.slot_list_append PySem.F.type_list_append mt_append (pv 2) (pa_cons ae.run pa_nil)))))))
      (pbd_one (psd_frz 2 (psd_ret (pdv 2)))))), ?_⟩)
  rintro ds k ⟨P, Q, rfl, z1, z2, hk⟩
  have w1 := z1.2.1
  have w2 := z2.2.1
  refine ⟨Nat.zero_le _, _, rfl, _, rfl, fun m ρ => ∃ (zs : List Rat) (a b c d : _), ρ = [some (.sh (ln P)), some (.sh (ln Q)), some (.ol (zs.map fr)), a, b, c, d] ∧ zs = (P.take m).flatMap (fun p => Q.map fun q => ap p q) ∧ zs.length ≤ 20 * m, ⟨[], _, _, _, _, rfl, by simp, Nat.zero_le _⟩, ?_, ?_⟩
  · rintro m d ρ hm ⟨zs, a, b, c, d', rfl, hz, hl⟩
    obtain ⟨p, hp, rfl⟩ := getm hm
    have hml := (List.getElem?_eq_some_iff.mp hp).1
    have zp := z1.2.2 p (List.mem_of_getElem? hp)
    refine ⟨_, rfl, rfl, _, _, rfl, _, _, rfl, rfl, ?_⟩
    refine ⟨_, rfl, _, rfl, fun n ρ => ∃ (ys : List Rat) (c d : _), ρ = [some (.sh (ln P)), some (.sh (ln Q)), some (.ol ((zs ++ ys).map fr)), some (.sh (.int p.1)), some (.sh (.int p.2)), c, d] ∧ ys = (Q.take n).map (fun q => ap p q) ∧ ys.length ≤ n, ⟨[], _, _, by rw [List.append_nil]; rfl, by simp, Nat.zero_le _⟩, ?_, ?_⟩
    · rintro n d ρ hn ⟨ys, c, d', rfl, hy, hl2⟩
      obtain ⟨q, hq, rfl⟩ := getm hn
      have hnl := (List.getElem?_eq_some_iff.mp hq).1
      have zq := z2.2.2 q (List.mem_of_getElem? hq)
      refine ⟨_, rfl, rfl, _, _, rfl, _, _, rfl, rfl, ?_⟩
      refine ⟨_, rfl, by rw [List.length_map, List.length_append]; omega, _, rfl, _, rfl, _, _, rfl, rfl, _, rfl, _, rfl, _, _, rfl, rfl, _, _, rfl, rfl, mulok9 ((zp.1.sub zq.1).mono (by decide)) ((zp.1.sub zq.1).mono (by decide)), ?_⟩
      refine ⟨_, rfl, _, rfl, _, _, rfl, rfl, _, rfl, _, rfl, _, _, rfl, rfl, _, _, rfl, rfl, mulok9 ((zp.2.sub zq.2).mono (by decide)) ((zp.2.sub zq.2).mono (by decide)), _, _, rfl, rfl, ?_⟩
      refine ⟨_, _, rfl, by decide, (ap_sz0 zp zq).mono (by decide), sz1 (by decide), ?_⟩
      rw [divInt_one]
      refine ⟨ys ++ [ap p q], some (.sh (.int q.1)), some (.sh (.int q.2)), ?_, ?_, by rw [List.length_append]; exact Nat.add_le_add_right hl2 1⟩
      · rw [← List.append_assoc, List.map_append (l₁ := zs ++ ys)]
        rfl
      · rw [hy, List.take_add_one, hq, List.map_append]
        rfl
    · rintro ρ ⟨ys, c, d, rfl, hy, hl2⟩
      rw [List.length_map] at hy hl2
      rw [List.take_length] at hy
      refine ⟨zs ++ ys, _, _, _, _, rfl, ?_, by rw [List.length_append]; omega⟩
      rw [fm_succ hp, hz, hy]
  · rintro ρ ⟨zs, a, b, c, d, rfl, hz, hl⟩
    rw [List.length_map, List.take_length] at hz
    refine .inl ⟨_, rfl, _, rfl, ?_⟩
    rw [hz]
    exact hk
def t_stretch_squares : Tr := fun ds k => ∃ P Q : List Pt, ds = [ln P, ln Q] ∧ Lz P ∧ Lz Q ∧ k (.lst ((strQ P Q).map fr))
theorem len_stretch_squares : ∀ ds k, t_stretch_squares ds k → ds.length = 2 := by
  rintro ds k ⟨_, _, rfl, _⟩
  rfl
abbrev nm_stretch_squares : List Str := ["one", "other", "found", "k", "curves", "at", "curve", "second", "part", "corner"]
theorem sc_stretch_squares : FnScope nm_stretch_squares ["one", "other"] (defScope s_stretch_squares) := ⟨rfl, rfl, rfl, by decide +kernel, rfl, by decide +kernel, by decide +kernel⟩
theorem k_stretch_squares (T : Txt K mg) : Kept P w K mg base "stretch_squares" ["one", "other"] [] 5 t_stretch_squares := by
  obtain ⟨fd, F⟩ := T.says.def_ 88 (d := d_stretch_squares) rfl
  refine kept_of (N := nm_stretch_squares) (body := defBody s_stretch_squares) (scope := defScope s_stretch_squares) (params := defArgs s_stretch_squares) F (g_stretch_squares T) sc_stretch_squares len_stretch_squares (fun _ _ _ _ _ _ us hl => match us, hl with | [_, _], _ => rfl) (fun cdv A outer s H E hr => ⟨_, _,
      (pbd_cons (psd_own (i := 2) sc_stretch_squares.nd rfl (by first | exact .inl rfl | exact .inr rfl) (pl_lst pda_nil))
      (pbd_cons (psd_for PassesOwn.never rfl (pid_range1 (by rfl) (f_range T) (pda_cons (pd_op op_sub r2_I (pd_bi call_len_seq rc_len (by rfl) (f_len T) PySem.boot_len (pda_cons (pdv 1) pda_nil)) pd_int) pda_nil)) (pgd_name (i := 3) sc_stretch_squares.nd rfl (by first | exact .inl rfl | exact .inr rfl))
      (pbd_cons (psd_setLc (i := 4) rfl sc_stretch_squares.nd rfl rfl (sw_true rfl rfl rfl (by decide +kernel)) (own := [("corner", 9)]) (pid_list (pdv 0)) (blkOk_by (N := nm_stretch_squares) (sc := defScope s_stretch_squares) (by decide +kernel)) (fun _ _ _ _ _ => (pgd_name (i := 9) sc_stretch_squares.nd rfl (by first | exact .inl rfl | exact .inr rfl))) (fun _ _ _ _ _ => pdts_nil) (fun _ _ _ _ _ => (pd_call (k_curve_of T) (hr.mono (by decide)) (by rfl) (pda_cons (pdv 9) (pda_cons (pd_ixK (K := K) rfl (pdv 1) (pdv 3)) (pda_cons (pd_ixK (K := K) rfl (pdv 1) (pd_op op_add r2_I (pdv 3) pd_int)) pda_nil))))))
      (pbd_one (psd_for PassesOwn.never rfl (let ae := (pda_cons (pdv 4) pda_nil); pid_enum (by rfl) (f_enumerate T) ae rfl (pi_enum (by rfl) (f_enumerate T) ae.run)) (pgd_tupK (K := K) (n := 2) rfl rfl (pgds_cons (pgd_name (i := 5) sc_stretch_squares.nd rfl (by first | exact .inl rfl | exact .inr rfl)) (pgds_cons (pgd_name (i := 6) sc_stretch_squares.nd rfl (by first | exact .inl rfl | exact .inr rfl)) pgds_nil)))
      (pbd_cons (let ae := (pd_call (k_least_worth T) (hr.mono (by decide)) (by rfl) (pda_cons (pdv 6) pda_nil)); psd_app (i := 2) rfl (by first | exact .inl rfl | exact .inr (.inl rfl)) ae (pe_bm PySem.F.plainAttrs_list PySem.F.slot_list_append PySem.F.type_list_append mt_append (pv 2) (pa_cons ae.run pa_nil)))
      (pbd_one (psd_for PassesOwn.never rfl (pid_list (pd_sh (pl_slice (pdv 4) pdo_none (pdo_some (pdv 5))))) (pgd_name (i := 7) sc_stretch_squares.nd rfl (by first | exact .inl rfl | exact .inr rfl))
      (pbd_cons (psd_set (i := 8) sc_stretch_squares.nd rfl (by first | exact .inl rfl | exact .inr rfl) (pd_call (k_meeting_part T) (hr.mono (by decide)) (by rfl) (pda_cons (pdv 6) (pda_cons (pdv 7) pda_nil))))
      (pbd_one (psd_if (pdw_and (pdt_cmp op_notN r2_notN (pdv 8) pd_non) (pdw_and1 (pdt_chain op_le op_le r2_B r2_B pd_int (pd_ixK (K := K) rfl (pdv 8) pd_int) (pd_ixK (K := K) rfl (pdv 8) pd_int)))).t (pbd_one (let ae := (pd_call (k_worth T) (hr.mono (by decide)) (by rfl) (pda_cons (pdv 6) (pda_cons (pdv 8) pda_nil))); psd_app (i := 2) rfl (by first | exact .inl rfl | exact .inr (.inl rfl)) ae (pe_bm PySem.F.plainAttrs_list PySem.F.slot_list_append PySem.F.type_list_append mt_append (pv 2) (pa_cons ae.run pa_nil)))) pbd_nil))))))))))
      (pbd_one (psd_frz 2 (psd_ret (pdv 2)))))), ?_⟩)
  rintro ds k ⟨P, Q, rfl, z1, z2, hk⟩
  have w1 := z1.2.1
  have w2 := z2.2.1
  refine ⟨Nat.zero_le _, _, rfl, _, .inl rfl, _, _, rfl, rfl, _, rfl, by rw [List.length_map]; omega, fun m ρ => ∃ (zs : List Rat) (a b c d e f g : _), ρ = [some (.sh (ln P)), some (.sh (ln Q)), some (.ol (zs.map fr)), a, b, c, d, e, f, g] ∧ zs = (List.range m).flatMap (fun k => (List.range P.length).flatMap fun i => strQ1 P Q k i) ∧ zs.length ≤ 420 * m, ⟨[], _, _, _, _, _, _, _, rfl, by simp, Nat.zero_le _⟩, ?_, ?_⟩
  · rintro m d ρ hm ⟨zs, a, b, c, d', e, f, g, rfl, hz, hl⟩
    obtain ⟨h3, rfl⟩ := rng0_get hm
    rw [List.length_map] at h3
    have hk1 : m + 1 < Q.length := by omega
    have zq0 := z2.2.2 _ (gp_mem (i := m) (by omega))
    have zq1 := z2.2.2 _ (gp_mem hk1)
    have cz : ∀ i, i < P.length → Cz (cq P Q i m) := fun i hi => cq_sz z1.2.2 z2.2.2 hi hk1
    refine ⟨_, rfl, _, rfl, fun n acc => acc = (List.range n).map fun i => cv (cq P Q i m), rfl, ?_, ?_⟩
    · rintro n d acc hn rfl
      obtain ⟨p, hp, rfl⟩ := getm hn
      have hnl := (List.getElem?_eq_some_iff.mp hp).1
      obtain rfl : p = gp P n := Option.some.inj (hp.symm.trans (gp_get hnl))
      refine ⟨_, rfl, _, rfl, _, rfl, _, _, _, rfl, rfl, atm (gp_get (by omega)), _, rfl, _, rfl, _, _, rfl, rfl, _, _, _, rfl, rfl, atm2 (gp_get hk1) (by omega), _, _, _, rfl, z1.2.2 _ (gp_mem hnl), zq0, zq1, by simp; omega, acc_succ n⟩
    · rintro acc rfl
      rw [List.length_map]
      refine ⟨_, rfl, _, rfl, fun n ρ => ∃ (ys : List Rat) (c d e f g : _), ρ = [some (.sh (ln P)), some (.sh (ln Q)), some (.ol ((zs ++ ys).map fr)), some (.sh (.int (m : Int))), some (.sh (.lst ((List.range P.length).map fun i => cv (cq P Q i m)))), c, d, e, f, g] ∧ ys = (List.range n).flatMap (fun i => strQ1 P Q m i) ∧ ys.length ≤ 21 * n, ⟨[], _, _, _, _, _, by rw [List.append_nil]; rfl, by simp, Nat.zero_le _⟩, ?_, ?_⟩
      · rintro n d ρ hn ⟨ys, c, d', e, f, g0, rfl, hy, hl2⟩
        obtain ⟨cu, hcu, rfl⟩ := enum_get hn
        obtain ⟨hnP, rfl⟩ := map_get hcu
        refine ⟨_, rfl, rfl, _, _, rfl, _, _, rfl, rfl, ?_⟩
        refine ⟨_, rfl, by rw [List.length_map, List.length_append]; omega, _, rfl, _, rfl, cz n hnP, ?_⟩
        refine ⟨_, rfl, _, rfl, _, rfl, ?_⟩
        refine ⟨_, rfl, ?_⟩
        rw [cut_to, ← List.map_take]
        have et : (List.range P.length).take n = List.range n := by
          rw [List.take_range]
          congr 1
          omega
        rw [et]
        refine ⟨_, rfl, fun l ρ => ∃ (xs : List Rat) (f g : _), ρ = [some (.sh (ln P)), some (.sh (ln Q)), some (.ol (((zs ++ ys) ++ lw (cq P Q n m) :: xs).map fr)), some (.sh (.int (m : Int))), some (.sh (.lst ((List.range P.length).map fun i => cv (cq P Q i m)))), some (.sh (.int (n : Int))), some (.sh (cv (cq P Q n m))), f, g, g0] ∧ xs = (List.range l).flatMap (meetQ P Q m n) ∧ xs.length ≤ l, ⟨[], e, f, by rw [List.map_append (l₁ := zs ++ ys)]; rfl, by simp, Nat.zero_le _⟩, ?_, ?_⟩
        · rintro l d ρ hl3 ⟨xs, f, g, rfl, hx, hl4⟩
          obtain ⟨hln, rfl⟩ := map_get hl3
          refine ⟨_, rfl, _, rfl, _, _, rfl, cz n hnP, cz l (by omega), ?_⟩
          refine ⟨_, rfl, rfl, _, rfl, ?_⟩
          have hmq : meetQ P Q m n l = match meet (cq P Q n m) (cq P Q l m) with
            | some q => if 0 ≤ q.num ∧ q.num ≤ (q.den : Int) then [wv (cq P Q n m) q] else []
            | none => [] := rfl
          have hno : meetQ P Q m n l = [] → xs = (List.range (l + 1)).flatMap (meetQ P Q m n) := fun h => by rw [fr_succ, h, List.append_nil]; exact hx
          cases hmt : meet (cq P Q n m) (cq P Q l m) with
          | none =>
            rw [hmt] at hmq
            exact iteF (iteF ⟨xs, _, _, rfl, hno hmq, by omega⟩)
          | some q =>
            rw [hmt] at hmq
            have zq := meet_sz (cz n hnP) (cz l (by omega)) hmt
            refine iteT ⟨_, rfl, _, _, _, rfl, rfl, rfl, _, _, rfl, rfl, _, rfl, ?_⟩
            refine ite2 (fun h1 => ?_) (fun h1 => ?_)
            · have h1' : (0 : Int) ≤ q.num := by simpa using h1
              refine ⟨_, rfl, _, _, _, rfl, rfl, rfl, _, _, rfl, rfl, _, rfl, ?_⟩
              refine ite2 (fun h2 => ?_) (fun h2 => ?_)
              · have h2' : q.num ≤ (q.den : Int) := by simpa using h2
                rw [show (match some q with
                  | some q => if 0 ≤ q.num ∧ q.num ≤ (q.den : Int) then [wv (cq P Q n m) q] else []
                  | none => []) = [wv (cq P Q n m) q] from if_pos ⟨h1', h2'⟩] at hmq
                refine ⟨_, rfl, by simp only [List.length_map, List.length_append, List.length_cons]; omega, _, rfl, _, rfl, _, q, rfl, cz n hnP, zq, ?_⟩
                refine ⟨xs ++ [wv (cq P Q n m) q], some (.sh (cv (cq P Q l m))), some (.sh (fr q)), ?_, by rw [fr_succ, hmq, hx], by rw [List.length_append]; exact Nat.add_le_add_right hl4 1⟩
                rw [show zs ++ ys ++ lw (cq P Q n m) :: (xs ++ [wv (cq P Q n m) q]) = (zs ++ ys ++ lw (cq P Q n m) :: xs) ++ [wv (cq P Q n m) q] by simp, List.map_append (l₁ := zs ++ ys ++ lw (cq P Q n m) :: xs)]
                rfl
              · have h2' : ¬ q.num ≤ (q.den : Int) := by simpa using h2
                exact ⟨xs, _, _, rfl, hno (hmq.trans (if_neg (fun z => h2' z.2))), by omega⟩
            · have h1' : ¬ (0 : Int) ≤ q.num := by simpa using h1
              exact ⟨_, rfl, iteF ⟨xs, _, _, rfl, hno (hmq.trans (if_neg (fun z => h1' z.1))), by omega⟩⟩
        · rintro ρ ⟨xs, f, g, rfl, hx, hl4⟩
          rw [List.length_map, List.length_range] at hx hl4
          refine ⟨ys ++ lw (cq P Q n m) :: xs, _, _, _, _, _, by rw [← List.append_assoc], ?_, by rw [List.length_append, List.length_cons]; omega⟩
          rw [fr_succ, hy]
          unfold strQ1
          rw [hx]
      · rintro ρ ⟨ys, c, d, e, f, g, rfl, hy, hl2⟩
        have eq : (enumD ((List.range P.length).map fun i => cv (cq P Q i m))).length = P.length := by unfold enumD; simp
        rw [eq] at hy hl2
        refine ⟨zs ++ ys, _, _, _, _, _, _, _, rfl, ?_, by rw [List.length_append]; omega⟩
        rw [fr_succ, hz, hy]
  · rintro ρ ⟨zs, a, b, c, d, e, f, g, rfl, hz, hl⟩
    refine .inl ⟨_, rfl, _, rfl, ?_⟩
    have e : (((Q.map pt).length : Int) - 1).toNat = Q.length - 1 := by rw [List.length_map]; omega
    rw [rng_len, e] at hz
    rw [hz]
    exact hk
end
end G
namespace G
open PySem PySem.Spec PyProof.Rows L2 DL M
section
variable {P : Program} {w : World} {K : PySem.W.Frag} {mg : Str → Option Value} {base : Heap}
theorem fm_len {α β : Type} {f : α → List β} {c : Nat} : ∀ {l : List α}, (∀ x ∈ l, (f x).length ≤ c) → (l.flatMap f).length ≤ c * l.length
  | [], _ => Nat.zero_le _
  | a :: l, h => by
    have h1 := h a List.mem_cons_self
    have h2 := fm_len (l := l) (fun x hx => h x (List.mem_cons_of_mem _ hx))
    rw [List.flatMap_cons, List.length_append, List.length_cons, Nat.mul_succ]
    omega
theorem meetQ_len (P Q : List Pt) (k i j : Nat) : (meetQ P Q k i j).length ≤ 1 := by
  unfold meetQ
  split
  · split <;> simp
  · simp
theorem cornQ_len {P Q : List Pt} (z1 : Lz P) (z2 : Lz Q) : (cornQ P Q).length ≤ 400 := by
  have h := fm_len (l := P) (f := fun p => Q.map fun q => ap p q) (c := 20) (fun x _ => by rw [List.length_map]; exact z2.2.1)
  have := z1.2.1
  unfold cornQ
  omega
theorem strQ_len {P Q : List Pt} (z1 : Lz P) (z2 : Lz Q) : (strQ P Q).length ≤ 7980 := by
  have w1 := z1.2.1
  have w2 := z2.2.1
  have h1 : ∀ k i, i < P.length → (strQ1 P Q k i).length ≤ 20 := fun k i hi => by
    unfold strQ1
    have := fm_len (l := List.range i) (f := meetQ P Q k i) (c := 1) (fun j _ => meetQ_len P Q k i j)
    rw [List.length_range] at this
    rw [List.length_cons]
    omega
  have h2 : ∀ k, ((List.range P.length).flatMap fun i => strQ1 P Q k i).length ≤ 400 := fun k => by
    have := fm_len (l := List.range P.length) (f := fun i => strQ1 P Q k i) (c := 20) (fun i hi => h1 k i (List.mem_range.mp hi))
    rw [List.length_range] at this
    omega
  have h3 := fm_len (l := List.range (Q.length - 1)) (f := fun k => (List.range P.length).flatMap fun i => strQ1 P Q k i) (c := 400) (fun k _ => h2 k)
  rw [List.length_range] at h3
  unfold strQ
  omega
theorem strQ_sz {P Q : List Pt} (z1 : Lz P) (z2 : Lz Q) {x : Rat} (h : x ∈ strQ P Q) : Fz 420 x := by
  unfold strQ at h
  obtain ⟨k, hk, h⟩ := List.mem_flatMap.mp h
  obtain ⟨i, hi, h⟩ := List.mem_flatMap.mp h
  have hk := List.mem_range.mp hk
  have hi := List.mem_range.mp hi
  have cz : ∀ i, i < P.length → Cz (cq P Q i k) := fun i hi => cq_sz z1.2.2 z2.2.2 hi (by omega)
  unfold strQ1 at h
  rcases List.mem_cons.mp h with h | h
  · rw [h]; exact lw_sz (cz i hi)
  · obtain ⟨j, hj, h⟩ := List.mem_flatMap.mp h
    have hj := List.mem_range.mp hj
    unfold meetQ at h
    split at h
    · rename_i m hm
      split at h
      · rw [List.mem_singleton.mp h]
        exact wv_sz (cz i hi) (meet_sz (cz i hi) (cz j (by omega)) hm)
      · cases h
    · cases h
theorem cands_sz {P Q : List Pt} (z1 : Lz P) (z2 : Lz Q) {x : Rat} (h : x ∈ cands P Q) : Fz 420 x := by
  unfold cands at h
  rcases List.mem_append.mp h with h | h
  · rcases List.mem_append.mp h with h | h
    · obtain ⟨p, hp, h⟩ := List.mem_flatMap.mp h
      obtain ⟨q, hq, rfl⟩ := List.mem_map.mp h
      exact ap_sz (z1.2.2 p hp) (z2.2.2 q hq)
    · exact strQ_sz z1 z2 h
  · exact strQ_sz z2 z1 h
theorem cands_len {P Q : List Pt} (z1 : Lz P) (z2 : Lz Q) : (cands P Q).length ≤ 16360 := by
  have a := cornQ_len z1 z2
  have b := strQ_len z1 z2
  have c := strQ_len z2 z1
  unfold cands
  rw [List.length_append, List.length_append]
  omega
def t_candidates : Tr := fun ds k => ∃ P Q : List Pt, ds = [ln P, ln Q] ∧ Lz P ∧ Lz Q ∧ ∀ zs : List Rat, srt zs → (∀ q, q ∈ zs ↔ q ∈ cands P Q) → k (.lst (zs.map fr))
theorem len_candidates : ∀ ds k, t_candidates ds k → ds.length = 2 := by
  rintro ds k ⟨_, _, rfl, _⟩
  rfl
abbrev nm_candidates : List Str := ["one", "other"]
theorem sc_candidates : FnScope nm_candidates ["one", "other"] (defScope s_candidates) := ⟨rfl, rfl, rfl, by decide +kernel, rfl, by decide +kernel, by decide +kernel⟩
theorem k_candidates (T : Txt K mg) : Kept P w K mg base "candidates" ["one", "other"] [] 21 t_candidates := by
  obtain ⟨fd, F⟩ := T.says.def_ 89 (d := d_candidates) rfl
  refine kept_of (N := nm_candidates) (body := defBody s_candidates) (scope := defScope s_candidates) (params := defArgs s_candidates) F (g_candidates T) sc_candidates len_candidates (fun _ _ _ _ _ _ us hl => match us, hl with | [_, _], _ => rfl) (fun cdv A outer s H E hr => ⟨_, _,
      (pbd_one (psd_ret (pd_call (k_rising T) (hr.mono (by decide)) (by rfl) (pda_cons (pd_sh (pl_cat (pd_sh (pl_cat (pd_call (k_corner_squares T) (hr.mono (by decide)) (by rfl) (pda_cons (pdv 0) (pda_cons (pdv 1) pda_nil))) (pd_call (k_stretch_squares T) (hr.mono (by decide)) (by rfl) (pda_cons (pdv 0) (pda_cons (pdv 1) pda_nil))))) (pd_call (k_stretch_squares T) (hr.mono (by decide)) (by rfl) (pda_cons (pdv 1) (pda_cons (pdv 0) pda_nil))))) pda_nil)))), ?_⟩)
  rintro ds k ⟨P, Q, rfl, z1, z2, hk⟩
  have a := cornQ_len z1 z2
  have b := strQ_len z1 z2
  have c := strQ_len z2 z1
  have hl := cands_len z1 z2
  refine ⟨_, rfl, _, rfl, P, Q, rfl, z1, z2, _, rfl, _, rfl, P, Q, rfl, z1, z2, _, _, rfl, rfl, by rw [List.length_map, List.length_map]; omega, ?_⟩
  refine ⟨_, rfl, _, rfl, Q, P, rfl, z2, z1, _, _, rfl, rfl, by rw [List.length_append, List.length_map, List.length_map, List.length_map]; omega, ?_⟩
  rw [← List.map_append, ← List.map_append]
  exact ⟨cands P Q, rfl, Nat.le_trans hl (by decide), Nat.le_trans hl (by decide), fun x hx => (cands_sz z1 z2 hx).mono (by decide), hk⟩
def ways : List Str := ["on", "part", "free", "hops"]
def tb (w : Str) (P Q : List Pt) (s : Rat) : Bool := if w = "on" then onOk (tS s) (stl P) (stl Q) else if w = "part" then partOk (tS s) (stl P) (stl Q) else if w = "free" then true else hopOk (tS s) P Q
def t_go_by : Tr := fun ds k => ∃ (w : Str) (P Q : List Pt) (s : Rat), ds = [.str w, ln P, ln Q, fr s] ∧ (w = "free" → P = Q) ∧ Lz P ∧ Lz Q ∧ Fz 4000 s ∧ 0 ≤ s ∧ ∀ d, k (goD (tb w P Q s) d)
theorem len_go_by : ∀ ds k, t_go_by ds k → ds.length = 4 := by
  rintro ds k ⟨_, _, _, _, rfl, _⟩
  rfl
abbrev nm_go_by : List Str := ["way", "one", "other", "square"]
theorem sc_go_by : FnScope nm_go_by ["way", "one", "other", "square"] (defScope s_go_by) := ⟨rfl, rfl, rfl, by decide +kernel, rfl, by decide +kernel, by decide +kernel⟩
theorem k_go_by (T : Txt K mg) : Kept P w K mg base "go_by" ["way", "one", "other", "square"] [] 15 t_go_by := by
  obtain ⟨fd, F⟩ := T.says.def_ 90 (d := d_go_by) rfl
  refine kept_of (N := nm_go_by) (body := defBody s_go_by) (scope := defScope s_go_by) (params := defArgs s_go_by) F (g_go_by T) sc_go_by len_go_by (fun _ _ _ _ _ _ us hl => match us, hl with | [_, _, _, _], _ => rfl) (fun cdv A outer s H E hr => ⟨_, _,
      (pbd_cons (psd_if (pdt_cmp (op_eqA hr.units) r2_eq (pdv 0) pd_str) (pbd_one (psd_ret (pd_call (k_go_on T) (hr.mono (by decide)) (by rfl) (pda_cons (pdv 1) (pda_cons (pdv 2) (pda_cons (pdv 3) pda_nil)))))) pbd_nil)
      (pbd_cons (psd_if (pdt_cmp (op_eqA hr.units) r2_eq (pdv 0) pd_str) (pbd_one (psd_ret (pd_call (k_go_part T) (hr.mono (by decide)) (by rfl) (pda_cons (pdv 1) (pda_cons (pdv 2) (pda_cons (pdv 3) pda_nil)))))) pbd_nil)
      (pbd_cons (psd_if (pdt_cmp (op_eqA hr.units) r2_eq (pdv 0) pd_str) (pbd_one (psd_ret (pd_call (k_go_free T) (hr.mono (by decide)) (by rfl) (pda_cons (pdv 1) (pda_cons (pdv 2) (pda_cons (pdv 3) pda_nil)))))) pbd_nil)
      (pbd_one (psd_ret (pd_call (k_go_hops T) (hr.mono (by decide)) (by rfl) (pda_cons (pdv 1) (pda_cons (pdv 2) (pda_cons (pdv 3) pda_nil))))))))), ?_⟩)
  rintro ds k ⟨w, P, Q, s, rfl, hf, z1, z2, zs, s0, hk⟩
  unfold tb at hk
  refine ⟨_, rfl, _, rfl, _, rfl, ?_⟩
  by_cases h1 : w = "on"
  · rw [if_pos h1] at hk
    rw [decide_eq_true h1]
    exact iteT ⟨_, rfl, _, rfl, _, rfl, P, Q, s, rfl, z1, z2, zs, s0, hk⟩
  · rw [if_neg h1] at hk
    rw [decide_eq_false h1]
    refine iteF ⟨_, rfl, _, rfl, _, rfl, ?_⟩
    by_cases h2 : w = "part"
    · rw [if_pos h2] at hk
      rw [decide_eq_true h2]
      exact iteT ⟨_, rfl, _, rfl, _, rfl, P, Q, s, rfl, z1, z2, zs, s0, hk⟩
    · rw [if_neg h2] at hk
      rw [decide_eq_false h2]
      refine iteF ⟨_, rfl, _, rfl, _, rfl, ?_⟩
      by_cases h3 : w = "free"
      · rw [if_pos h3] at hk
        rw [decide_eq_true h3]
        obtain rfl := hf h3
        exact iteT ⟨_, rfl, _, rfl, _, rfl, P, s, rfl, z1, zs, s0, hk⟩
      · rw [if_neg h3] at hk
        rw [decide_eq_false h3]
        exact iteF ⟨_, rfl, _, rfl, _, rfl, P, Q, s, rfl, z1, z2, zs, s0, hk⟩
def t_fence_by : Tr := fun ds k => ∃ (w : Str) (P Q : List Pt) (s : Rat), ds = [.str w, ln P, ln Q, fr s] ∧ (w = "free" → P = Q) ∧ Lz P ∧ Lz Q ∧ Fz 4000 s ∧ 0 ≤ s ∧ ∀ d, k d
theorem len_fence_by : ∀ ds k, t_fence_by ds k → ds.length = 4 := by
  rintro ds k ⟨_, _, _, _, rfl, _⟩
  rfl
abbrev nm_fence_by : List Str := ["way", "one", "other", "square"]
theorem sc_fence_by : FnScope nm_fence_by ["way", "one", "other", "square"] (defScope s_fence_by) := ⟨rfl, rfl, rfl, by decide +kernel, rfl, by decide +kernel, by decide +kernel⟩
theorem k_fence_by (T : Txt K mg) : Kept P w K mg base "fence_by" ["way", "one", "other", "square"] [] 12 t_fence_by := by
  obtain ⟨fd, F⟩ := T.says.def_ 91 (d := d_fence_by) rfl
  refine kept_of (N := nm_fence_by) (body := defBody s_fence_by) (scope := defScope s_fence_by) (params := defArgs s_fence_by) F (g_fence_by T) sc_fence_by len_fence_by (fun _ _ _ _ _ _ us hl => match us, hl with | [_, _, _, _], _ => rfl) (fun cdv A outer s H E hr => ⟨_, _,
      (pbd_cons (psd_if (pdt_cmp (op_eqA hr.units) r2_eq (pdv 0) pd_str) (pbd_one (psd_ret (pd_call (k_on_fence T) (hr.mono (by decide)) (by rfl) (pda_cons (pdv 1) (pda_cons (pdv 2) (pda_cons (pdv 3) (pda_cons pd_bl pda_nil))))))) pbd_nil)
      (pbd_cons (psd_if (pdt_cmp (op_eqA hr.units) r2_eq (pdv 0) pd_str) (pbd_one (psd_ret (pd_call (k_part_fence T) (hr.mono (by decide)) (by rfl) (pda_cons (pdv 1) (pda_cons (pdv 2) (pda_cons (pdv 3) (pda_cons pd_bl pda_nil))))))) pbd_nil)
      (pbd_cons (psd_if (pdt_cmp (op_eqA hr.units) r2_eq (pdv 0) pd_str) (pbd_one (psd_ret (pd_call (k_fence_freely4 T) (hr.mono (by decide)) (by rfl) (pda_cons (pdv 1) (pda_cons (pdv 2) (pda_cons (pdv 3) (pda_cons pd_bl pda_nil))))))) pbd_nil)
      (pbd_one (psd_ret (pd_call (k_hop_fence T) (hr.mono (by decide)) (by rfl) (pda_cons (pdv 1) (pda_cons (pdv 2) (pda_cons (pdv 3) (pda_cons pd_bl pda_nil)))))))))), ?_⟩)
  rintro ds k ⟨w, P, Q, s, rfl, hf, z1, z2, zs, s0, hk⟩
  refine ⟨_, rfl, _, rfl, _, rfl, ?_⟩
  by_cases h1 : w = "on"
  · rw [decide_eq_true h1]
    exact iteT ⟨_, rfl, _, rfl, _, rfl, P, Q, s, true, rfl, z1, z2, zs, hk⟩
  · rw [decide_eq_false h1]
    refine iteF ⟨_, rfl, _, rfl, _, rfl, ?_⟩
    by_cases h2 : w = "part"
    · rw [decide_eq_true h2]
      exact iteT ⟨_, rfl, _, rfl, _, rfl, P, Q, s, true, rfl, z1, z2, zs, hk⟩
    · rw [decide_eq_false h2]
      refine iteF ⟨_, rfl, _, rfl, _, rfl, ?_⟩
      by_cases h3 : w = "free"
      · rw [decide_eq_true h3]
        obtain rfl := hf h3
        exact iteT ⟨_, rfl, _, rfl, _, rfl, P, s, true, rfl, z1, zs, s0, fun h => (nomatch h), fun _ => hk⟩
      · rw [decide_eq_false h3]
        exact iteF ⟨_, rfl, _, rfl, _, rfl, P, Q, s, true, rfl, z1, z2, zs, hk⟩
end
end G
namespace G
open PySem PySem.Spec PyProof.Rows L2 DL M
section
variable {P : Program} {w : World} {K : PySem.W.Frag} {mg : Str → Option Value} {base : Heap}
def t_leash : Tr := fun ds k => ∃ (w : Str) (P Q : List Pt), ds = [ln P, ln Q, .str w] ∧ w ∈ ways ∧ (w = "free" → P = Q) ∧ Lz P ∧ Lz Q ∧ (∀ q ∈ cands P Q, 0 ≤ q) ∧ ∀ (zs : List Rat) (i : Nat) (r : Rat) (d1 d2 : Dat), srt zs → (∀ q, q ∈ zs ↔ q ∈ cands P Q) → zs[i]? = some r → (i = 0 ∨ ∃ q, zs[i - 1]? = some q ∧ tb w P Q q = false) → (i + 1 = zs.length ∨ tb w P Q r = true) → k (.tup [fr r, d1, d2])
theorem len_leash : ∀ ds k, t_leash ds k → ds.length = 3 := by
  rintro ds k ⟨_, _, _, rfl, _⟩
  rfl
abbrev nm_leash : List Str := ["one", "other", "way", "squares", "low", "high", "middle", "found"]
theorem sc_leash : FnScope nm_leash ["one", "other", "way"] (defScope s_leash) := ⟨rfl, rfl, rfl, by decide +kernel, rfl, by decide +kernel, by decide +kernel⟩
theorem fn_leash (T : Txt K mg) : ∃ fd, FunD K "leash" "leash" (defArgs s_leash) (defBody s_leash) (defScope s_leash) [.str "on"] [] (He.ga K "leash") fd ∧ FnOk P w K mg base CX0 22 (He.ga K "leash") fd ["one", "other", "way"] (Pr t_leash) := by
  obtain ⟨fd, F⟩ := T.says.def_ 92 (d := d_leash) rfl
  refine ⟨fd, F, fn_ok (N := nm_leash) (body := defBody s_leash) (scope := defScope s_leash) (params := defArgs s_leash) (x := "leash") (qual := "leash") F sc_leash len_leash (fun cdv A outer s H E hr => ⟨_, _,
      (pbd_cons (psd_expr (pd_call (k_look_at_way T) (hr.mono (by decide)) (by rfl) (pda_cons (pdv 2) pda_nil)))
      (pbd_cons (psd_set (i := 3) sc_leash.nd rfl (by first | exact .inl rfl | exact .inr rfl) (pd_call (k_candidates T) (hr.mono (by decide)) (by rfl) (pda_cons (pdv 0) (pda_cons (pdv 1) pda_nil))))
      (pbd_cons (psd_set (i := 4) sc_leash.nd rfl (by first | exact .inl rfl | exact .inr rfl) pd_int)
      (pbd_cons (psd_set (i := 5) sc_leash.nd rfl (by first | exact .inl rfl | exact .inr rfl) (pd_op op_sub r2_I (pd_bi call_len_seq rc_len (by rfl) (f_len T) PySem.boot_len (pda_cons (pdv 3) pda_nil)) pd_int))
      (pbd_cons (psd_while PassesOwn.never (pdt_cmp op_lt r2_B (pdv 4) (pdv 5))
      (pbd_cons (psd_set (i := 6) sc_leash.nd rfl (by first | exact .inl rfl | exact .inr rfl) (pd_op op_fdivWN r2_Ic (pd_op op_add r2_I (pdv 4) (pdv 5)) pd_int))
      (pbd_one (psd_if (pdt_cmp (op_eqA hr.units) r2_eq (pd_ixK (K := K) rfl (pd_call (k_go_by T) (hr.mono (by decide)) (by rfl) (pda_cons (pdv 2) (pda_cons (pdv 0) (pda_cons (pdv 1) (pda_cons (pd_ixK (K := K) rfl (pdv 3) (pdv 6)) pda_nil))))) pd_int) pd_str) (pbd_one (psd_set (i := 4) sc_leash.nd rfl (by first | exact .inl rfl | exact .inr rfl) (pd_op op_add r2_I (pdv 6) pd_int))) (pbd_one (psd_set (i := 5) sc_leash.nd rfl (by first | exact .inl rfl | exact .inr rfl) (pdv 6)))))))
      (pbd_cons (psd_set (i := 7) sc_leash.nd rfl (by first | exact .inl rfl | exact .inr rfl) (pd_ixK (K := K) rfl (pdv 3) (pdv 4)))
      (pbd_one (psd_ret (pd_tup (pda_cons (pdv 7) (pda_cons (pd_ixK (K := K) rfl (pd_call (k_go_by T) (hr.mono (by decide)) (by rfl) (pda_cons (pdv 2) (pda_cons (pdv 0) (pda_cons (pdv 1) (pda_cons (pdv 7) pda_nil))))) pd_int) (pda_cons (pd_call (k_fence_by T) (hr.mono (by decide)) (by rfl) (pda_cons (pdv 2) (pda_cons (pdv 0) (pda_cons (pdv 1) (pda_cons (pdv 7) pda_nil))))) pda_nil)))))))))))), ?_⟩)⟩
  rintro ds k ⟨w, P, Q, rfl, hw, hf, z1, z2, hpos, hk⟩
  have n1 : 0 < P.length := List.length_pos_iff.mpr z1.1
  have n2 : 0 < Q.length := List.length_pos_iff.mpr z2.1
  refine ⟨_, rfl, w, rfl, hw, ?_⟩
  refine ⟨_, rfl, _, rfl, P, Q, rfl, z1, z2, fun zs sz mz => ?_⟩
  have zl : zs.length ≤ 16360 := Nat.le_trans (srt_len sz (fun q hq => (mz q).mp hq)) (cands_len z1 z2)
  have zf : ∀ q ∈ zs, Fz 4000 q ∧ 0 ≤ q := fun q hq => ⟨(cands_sz z1 z2 ((mz q).mp hq)).mono (by decide), hpos q ((mz q).mp hq)⟩
  have z0 : 0 < zs.length := by
    have : ap (gp P 0) (gp Q 0) ∈ cands P Q := by
      unfold cands cornQ
      refine List.mem_append_left _ (List.mem_append_left _ (List.mem_flatMap.mpr ⟨_, gp_mem n1, List.mem_map.mpr ⟨_, gp_mem n2, rfl⟩⟩))
    exact List.length_pos_of_mem ((mz _).mpr this)
  refine ⟨_, rfl, _, .inl rfl, _, _, rfl, rfl, ?_⟩
  refine ⟨fun M ρ => ∃ (lo hi : Nat) (m f : _), ρ = [some (.sh (ln P)), some (.sh (ln Q)), some (.sh (.str w)), some (.sh (.lst (zs.map fr))), some (.sh (.int (lo : Int))), some (.sh (.int (hi : Int))), m, f] ∧ lo ≤ hi ∧ hi < zs.length ∧ M = hi - lo ∧ (lo = 0 ∨ ∃ q, zs[lo - 1]? = some q ∧ tb w P Q q = false) ∧ (hi + 1 = zs.length ∨ ∃ q, zs[hi]? = some q ∧ tb w P Q q = true), ⟨_, 0, zs.length - 1, none, none, ?_, Nat.zero_le _, by omega, rfl, .inl rfl, .inl (by omega)⟩, ?_⟩
  · rw [List.length_map]
    have : ((zs.length : Int) - 1) = ((zs.length - 1 : Nat) : Int) := by omega
    rw [this]
    rfl
  rintro M ρ ⟨lo, hi, m, f, rfl, hlh, hhi, rfl, hlo, hhi2⟩
  refine ⟨_, rfl, _, rfl, _, _, rfl, rfl, _, rfl, ?_⟩
  refine ite2 (fun h => ?_) (fun h => ?_)
  · have h' : (lo : Int) < (hi : Int) := by simpa using h
    have e2 : ((lo : Int) + (hi : Int)).fdiv 2 = (((lo + hi) / 2 : Nat) : Int) := by
      rw [Int.fdiv_eq_ediv_of_nonneg _ (by decide)]
      omega
    refine ⟨_, rfl, _, rfl, _, _, rfl, rfl, _, _, rfl, rfl, divok (n := 10) (szn (by decide) (by decide)) (by decide) (by decide) (by decide), ?_⟩
    rw [e2]
    obtain ⟨q, hq⟩ : ∃ q, zs[(lo + hi) / 2]? = some q := ⟨_, List.getElem?_eq_getElem (by omega)⟩
    obtain ⟨zq, q0⟩ := zf q (List.mem_of_getElem? hq)
    refine ⟨_, rfl, _, rfl, _, rfl, _, rfl, _, rfl, _, _, _, rfl, rfl, atm hq, w, P, Q, q, rfl, hf, z1, z2, zq, q0, fun d => ?_⟩
    refine ⟨_, _, _, rfl, rfl, rfl, _, rfl, _, rfl, ?_⟩
    cases ht : tb w P Q q with
    | false =>
      refine iteT ⟨_, rfl, _, _, rfl, rfl, ?_⟩
      exact ⟨hi - ((lo + hi) / 2 + 1), by omega, (lo + hi) / 2 + 1, hi, _, _, rfl, by omega, hhi, rfl, .inr ⟨q, hq, ht⟩, hhi2⟩
    | true =>
      refine iteF ⟨_, rfl, ?_⟩
      exact ⟨(lo + hi) / 2 - lo, by omega, lo, (lo + hi) / 2, _, _, rfl, by omega, by omega, rfl, hlo, .inr ⟨q, hq, ht⟩⟩
  · have h' : ¬ ((lo : Int) < (hi : Int)) := by simpa using h
    obtain rfl : lo = hi := by omega
    obtain ⟨r, hr⟩ : ∃ r, zs[lo]? = some r := ⟨_, List.getElem?_eq_getElem hhi⟩
    obtain ⟨zr, r0⟩ := zf r (List.mem_of_getElem? hr)
    refine ⟨_, rfl, _, rfl, _, _, _, rfl, rfl, atm hr, ?_⟩
    refine ⟨_, rfl, _, rfl, _, rfl, _, rfl, _, rfl, w, P, Q, r, rfl, hf, z1, z2, zr, r0, fun d => ?_⟩
    refine ⟨_, _, _, rfl, rfl, rfl, ?_⟩
    refine ⟨_, rfl, _, rfl, _, rfl, _, rfl, w, P, Q, r, rfl, hf, z1, z2, zr, r0, fun d2 => ⟨tl3, ?_⟩⟩
    refine hk zs lo r _ _ sz mz hr hlo (hhi2.imp id ?_)
    rintro ⟨q, hq, ht⟩
    rw [hr] at hq
    cases hq
    exact ht
theorem k_leash2 (T : Txt K mg) : Kept P w K mg base "leash" ["one", "other", "way"] [.str "on"] 22 t_leash := by
  obtain ⟨fd, F, G⟩ := fn_leash (P := P) (w := w) (base := base) T
  exact keptD [.str "on"] 2 0 F (g_leash T) G (by simp) rfl rfl rfl (fun T kV doc pm an cdv ct us its h1 h2 => match us, its, h1, h2 with | [_, _], [_], _, _ => ⟨_, rfl, rfl⟩)
theorem k_leash3 (T : Txt K mg) : Kept P w K mg base "leash" ["one", "other", "way"] [] 22 t_leash := by
  obtain ⟨fd, F, G⟩ := fn_leash (P := P) (w := w) (base := base) T
  exact keptD [] 3 1 F (g_leash T) G (by simp) rfl rfl rfl (fun T kV doc pm an cdv ct us its h1 h2 => match us, its, h1, h2 with | [_, _, _], [_], _, _ => ⟨_, rfl, rfl⟩)
end
end G
/-! The last comparison, in whole numbers. -/
namespace M
def NL (l a b : Rat) : Prop := l ≤ a + b ∨ (l - a - b) * (l - a - b) ≤ 4 * a * b
theorem num_mul (q : Rat) : ((q.num : Int) : Rat) = q * ((q.den : Nat) : Rat) := by
  have hm : ((q.den : Nat) : Rat) ≠ 0 := by
    intro z
    exact q.den_nz (Rat.natCast_eq_zero_iff.mp z)
  have e := num_div_den q
  have e2 := Rat.div_mul_cancel (a := (q.num : Rat)) hm
  rw [e] at e2
  exact e2.symm
theorem nl_int {l x y : Rat} (h : NL l x y) (hp : 0 < l.num * x.den * y.den - x.num * l.den * y.den - y.num * l.den * x.den) :
    (l.num * x.den * y.den - x.num * l.den * y.den - y.num * l.den * x.den) * (l.num * x.den * y.den - x.num * l.den * y.den - y.num * l.den * x.den) * x.den * y.den ≤ 4 * x.num * y.num * (l.den * x.den * y.den) * (l.den * x.den * y.den) := by
  have a := num_mul l
  have b := num_mul x
  have c := num_mul y
  have pos : ∀ q : Rat, (0 : Rat) < ((q.den : Nat) : Rat) := fun q => Rat.natCast_pos.mpr q.den_pos
  have p1 := pos l
  have p2 := pos x
  have p3 := pos y
  generalize hL : ((l.den : Nat) : Rat) = L at a p1
  generalize hX : ((x.den : Nat) : Rat) = X at b p2
  generalize hY : ((y.den : Nat) : Rat) = Y at c p3
  have more : ((l.num * x.den * y.den - x.num * l.den * y.den - y.num * l.den * x.den : Int) : Rat) = (l - x - y) * (L * X * Y) := by
    simp only [Rat.intCast_sub, Rat.intCast_mul, Rat.intCast_natCast]
    rw [a, b, c, hL, hX, hY]
    grind
  have q1 : (0 : Rat) < L * X * Y := Rat.mul_pos (Rat.mul_pos p1 p2) p3
  have hp' : (0 : Rat) < (l - x - y) * (L * X * Y) := by
    rw [← more]
    exact Rat.intCast_pos.mpr hp
  have h2 : (l - x - y) * (l - x - y) ≤ 4 * x * y := by
    rcases h with h | h
    · exfalso
      have h3 : l - x - y ≤ 0 := by grind
      have h4 : (l - x - y) * (L * X * Y) ≤ 0 := by
        have := Rat.mul_nonneg (show 0 ≤ -(l - x - y) by grind) (Rat.le_of_lt q1)
        grind
      grind
    · exact h
  refine Rat.intCast_le_intCast.mp ?_
  have eL : (((l.num * x.den * y.den - x.num * l.den * y.den - y.num * l.den * x.den) * (l.num * x.den * y.den - x.num * l.den * y.den - y.num * l.den * x.den) * x.den * y.den : Int) : Rat) = (l - x - y) * (L * X * Y) * ((l - x - y) * (L * X * Y)) * X * Y := by
    rw [Rat.intCast_mul, Rat.intCast_mul, Rat.intCast_mul, more]
    simp only [Rat.intCast_natCast]
    rw [hX, hY]
  have eR : ((4 * x.num * y.num * (l.den * x.den * y.den) * (l.den * x.den * y.den) : Int) : Rat) = 4 * (x * X) * (y * Y) * (L * X * Y) * (L * X * Y) := by
    simp only [Rat.intCast_mul, Rat.intCast_natCast, Rat.intCast_ofNat]
    rw [b, c, hL, hX, hY]
  rw [eL, eR]
  have h5 : 0 ≤ (4 * x * y - (l - x - y) * (l - x - y)) * ((L * X * Y) * (L * X * Y) * (X * Y)) :=
    Rat.mul_nonneg (by grind) (Rat.mul_nonneg (Rat.mul_nonneg (Rat.le_of_lt q1) (Rat.le_of_lt q1)) (Rat.le_of_lt (Rat.mul_pos p2 p3)))
  grind
end M
namespace G
open PySem PySem.Spec PyProof.Rows L2 DL M
section
variable {P : Program} {w : World} {K : PySem.W.Frag} {mg : Str → Option Value} {base : Heap}
def t__law_whole : Tr := fun ds k => ∃ i : Int, ds = [.int i] ∧ k (.bl true)
theorem len__law_whole : ∀ ds k, t__law_whole ds k → ds.length = 1 := by
  rintro ds k ⟨_, rfl, _⟩
  rfl
abbrev nm__law_whole : List Str := ["thing"]
theorem sc__law_whole : FnScope nm__law_whole ["thing"] (defScope s__law_whole) := ⟨rfl, rfl, rfl, by decide +kernel, rfl, by decide +kernel, by decide +kernel⟩
theorem k__law_whole (T : Txt K mg) : Kept P w K mg base "_law_whole" ["thing"] [] 1 t__law_whole := by
  obtain ⟨fd, F⟩ := T.says.def_ 98 (d := d__law_whole) rfl
  refine kept_of (N := nm__law_whole) (body := defBody s__law_whole) (scope := defScope s__law_whole) (params := defArgs s__law_whole) F (g__law_whole T) sc__law_whole len__law_whole (fun _ _ _ _ _ _ us hl => match us, hl with | [_], _ => rfl) (fun cdv A outer s H E hr => ⟨_, _,
      (pbd_one (psd_ret (pd_and (pd_isi (T := "int") (by rfl) (f_isinstance T) (pdv 0) (pe_bltn (by rfl) (f_int T) (by decide +kernel) rfl)) (pd_one (pd_not (pd_isi (T := "bool") (by rfl) (f_isinstance T) (pdv 0) (pe_bltn (by rfl) (f_bool T) (by decide +kernel) rfl))))))), ?_⟩)
  rintro ds k ⟨i, rfl, hk⟩
  refine ⟨_, rfl, true, rfl, kit_ii, _, rfl, iteT ?_⟩
  refine ⟨_, rfl, false, rfl, kit_ib, ?_⟩
  exact ⟨_, rfl, hk⟩
def t__law_shared : Tr := fun ds k => ∃ a b : Int, ds = [.int a, .int b] ∧ 0 ≤ b ∧ k (.int (Nat.gcd a.natAbs b.natAbs : Nat))
theorem len__law_shared : ∀ ds k, t__law_shared ds k → ds.length = 2 := by
  rintro ds k ⟨_, _, rfl, _⟩
  rfl
abbrev nm__law_shared : List Str := ["a", "b"]
theorem sc__law_shared : FnScope nm__law_shared ["a", "b"] (defScope s__law_shared) := ⟨rfl, rfl, rfl, by decide +kernel, rfl, by decide +kernel, by decide +kernel⟩
theorem k__law_shared (T : Txt K mg) : Kept P w K mg base "_law_shared" ["a", "b"] [] 1 t__law_shared := by
  obtain ⟨fd, F⟩ := T.says.def_ 99 (d := d__law_shared) rfl
  refine kept_of (N := nm__law_shared) (body := defBody s__law_shared) (scope := defScope s__law_shared) (params := defArgs s__law_shared) F (g__law_shared T) sc__law_shared len__law_shared (fun _ _ _ _ _ _ us hl => match us, hl with | [_, _], _ => rfl) (fun cdv A outer s H E hr => ⟨_, _,
      (pbd_cons (psd_set (i := 0) sc__law_shared.nd rfl (by first | exact .inl rfl | exact .inr rfl) (pd_bi call_abs rc_abs (by rfl) (f_abs T) (by decide +kernel) (pda_cons (pdv 0) pda_nil)))
      (pbd_cons (psd_while PassesOwn.never (pdt_cmp (op_neA hr.units) r2_ne (pdv 1) pd_int)
      (pbd_one (psd_par rfl sc__law_shared.nd (i := 0) (j := 1) rfl rfl (by decide) rfl rfl (pda_cons (pdv 1) (pda_cons (pd_op op_mod r2_Ic (pdv 0) (pdv 1)) pda_nil)))))
      (pbd_one (psd_ret (pdv 0))))), ?_⟩)
  rintro ds k ⟨a, b, rfl, hb, hk⟩
  refine ⟨_, rfl, a, rfl, ?_⟩
  refine ⟨fun m ρ => ∃ x y : Int, ρ = [some (.sh (.int x)), some (.sh (.int y))] ∧ 0 ≤ x ∧ 0 ≤ y ∧ Nat.gcd x.natAbs y.natAbs = Nat.gcd a.natAbs b.natAbs ∧ m = y.toNat, ⟨_, _, _, rfl, by show (0 : Int) ≤ (a.natAbs : Int); omega, hb, by simp, rfl⟩, ?_⟩
  rintro m ρ ⟨x, y, rfl, hx, hy, hg, rfl⟩
  refine ⟨_, rfl, _, rfl, _, rfl, ?_⟩
  by_cases h : y = 0
  · subst h
    refine iteF ⟨_, rfl, ?_⟩
    have e : (x : Int) = ((Nat.gcd a.natAbs b.natAbs : Nat) : Int) := by
      rw [← hg]
      simp
      omega
    rw [e]
    exact hk
  · rw [decide_eq_false h]
    have hy' : 0 < y := by omega
    have h1 := Int.emod_nonneg x (Int.ne_of_gt hy')
    have h2 := Int.emod_lt_of_pos x hy'
    refine iteT ⟨_, rfl, _, rfl, _, rfl, _, _, rfl, rfl, hy', _, _, rfl, ?_⟩
    refine ⟨_, by omega, _, _, rfl, hy, h1, ?_, rfl⟩
    rw [← hg]
    have e : (x % y).natAbs = x.natAbs % y.natAbs := by
      obtain ⟨x, rfl⟩ := Int.eq_ofNat_of_zero_le hx
      obtain ⟨y, rfl⟩ := Int.eq_ofNat_of_zero_le hy
      rw [← Int.natCast_emod]
      simp only [Int.natAbs_natCast]
    rw [e, Nat.gcd_comm x.natAbs y.natAbs, Nat.gcd_rec y.natAbs x.natAbs, Nat.gcd_comm]
def t__law_is_fraction : Tr := fun ds k => ∃ q : Rat, ds = [fr q] ∧ k (.bl true)
theorem len__law_is_fraction : ∀ ds k, t__law_is_fraction ds k → ds.length = 1 := by
  rintro ds k ⟨_, rfl, _⟩
  rfl
abbrev nm__law_is_fraction : List Str := ["thing"]
theorem sc__law_is_fraction : FnScope nm__law_is_fraction ["thing"] (defScope s__law_is_fraction) := ⟨rfl, rfl, rfl, by decide +kernel, rfl, by decide +kernel, by decide +kernel⟩
theorem k__law_is_fraction (T : Txt K mg) : Kept P w K mg base "_law_is_fraction" ["thing"] [] 2 t__law_is_fraction := by
  obtain ⟨fd, F⟩ := T.says.def_ 100 (d := d__law_is_fraction) rfl
  refine kept_of (N := nm__law_is_fraction) (body := defBody s__law_is_fraction) (scope := defScope s__law_is_fraction) (params := defArgs s__law_is_fraction) F (g__law_is_fraction T) sc__law_is_fraction len__law_is_fraction (fun _ _ _ _ _ _ us hl => match us, hl with | [_], _ => rfl) (fun cdv A outer s H E hr => ⟨_, _,
      (pbd_cons (psd_if (pdw_or (pdt_not (pdt_val (pd_isi (T := "tuple") (by rfl) (f_isinstance T) (pdv 0) (pe_bltn (by rfl) (f_tuple T) (by decide +kernel) rfl)))) (pdw_or1 (pdt_cmp (op_neA hr.units) r2_ne (pd_bi call_len_seq rc_len (by rfl) (f_len T) PySem.boot_len (pda_cons (pdv 0) pda_nil)) pd_int))).t (pbd_one (psd_ret pd_bl)) pbd_nil)
      (pbd_cons (psd_if (pdw_or (pdt_not (pdt_val (pd_call (k__law_whole T) (hr.mono (by decide)) (by rfl) (pda_cons (pd_ixK (K := K) rfl (pdv 0) pd_int) pda_nil)))) (pdw_or (pdt_not (pdt_val (pd_call (k__law_whole T) (hr.mono (by decide)) (by rfl) (pda_cons (pd_ixK (K := K) rfl (pdv 0) pd_int) pda_nil)))) (pdw_or1 (pdt_cmp op_lt r2_B (pd_ixK (K := K) rfl (pdv 0) pd_int) pd_int)))).t (pbd_one (psd_ret pd_bl)) pbd_nil)
      (pbd_one (psd_ret (pd_cmp (op_eqA hr.units) r2_eq (pd_call (k__law_shared T) (hr.mono (by decide)) (by rfl) (pda_cons (pd_ixK (K := K) rfl (pdv 0) pd_int) (pda_cons (pd_ixK (K := K) rfl (pdv 0) pd_int) pda_nil))) pd_int))))), ?_⟩)
  rintro ds k ⟨q, rfl, hk⟩
  have hd := den_pos q
  refine ⟨_, rfl, true, rfl, kit_tt, _, rfl, ?_⟩
  refine iteF ⟨_, rfl, _, .inr rfl, _, rfl, _, rfl, ?_⟩
  refine iteF ⟨_, rfl, _, _, _, rfl, rfl, rfl, _, rfl, _, rfl, ?_⟩
  refine iteF ⟨_, rfl, _, _, _, rfl, rfl, rfl, _, rfl, _, rfl, ?_⟩
  refine iteF ⟨_, rfl, _, _, _, rfl, rfl, rfl, _, _, rfl, rfl, _, rfl, ?_⟩
  refine ite2 (fun h => ?_) (fun _ => ?_)
  · have h' : (q.den : Int) < 1 := by simpa using h
    omega
  · refine ⟨_, rfl, _, _, _, rfl, rfl, rfl, _, rfl, _, _, _, rfl, rfl, rfl, _, _, rfl, Int.le_of_lt hd, _, rfl, ?_⟩
    have e : Nat.gcd q.num.natAbs ((q.den : Int)).natAbs = 1 := q.reduced
    rw [e]
    exact hk
def t__law_not_longer : Tr := fun ds k => ∃ l x y : Rat, ds = [fr l, fr x, fr y] ∧ Fz 420 l ∧ Fz 420 x ∧ Fz 420 y ∧ NL l x y ∧ k (.bl true)
theorem len__law_not_longer : ∀ ds k, t__law_not_longer ds k → ds.length = 3 := by
  rintro ds k ⟨_, _, _, rfl, _⟩
  rfl
abbrev nm__law_not_longer : List Str := ["long", "one", "other", "a", "b", "c", "d", "e", "f", "more", "bottom"]
theorem sc__law_not_longer : FnScope nm__law_not_longer ["long", "one", "other"] (defScope s__law_not_longer) := ⟨rfl, rfl, rfl, by decide +kernel, rfl, by decide +kernel, by decide +kernel⟩
theorem k__law_not_longer (T : Txt K mg) : Kept P w K mg base "_law_not_longer" ["long", "one", "other"] [] 1 t__law_not_longer := by
  obtain ⟨fd, F⟩ := T.says.def_ 101 (d := d__law_not_longer) rfl
  refine kept_of (N := nm__law_not_longer) (body := defBody s__law_not_longer) (scope := defScope s__law_not_longer) (params := defArgs s__law_not_longer) F (g__law_not_longer T) sc__law_not_longer len__law_not_longer (fun _ _ _ _ _ _ us hl => match us, hl with | [_, _, _], _ => rfl) (fun cdv A outer s H E hr => ⟨_, _,
      (pbd_cons (psd_asg (pdv 0) (pgd_tupK (K := K) (n := 2) rfl rfl (pgds_cons (pgd_name (i := 3) sc__law_not_longer.nd rfl (by first | exact .inl rfl | exact .inr rfl)) (pgds_cons (pgd_name (i := 4) sc__law_not_longer.nd rfl (by first | exact .inl rfl | exact .inr rfl)) pgds_nil))))
      (pbd_cons (psd_asg (pdv 1) (pgd_tupK (K := K) (n := 2) rfl rfl (pgds_cons (pgd_name (i := 5) sc__law_not_longer.nd rfl (by first | exact .inl rfl | exact .inr rfl)) (pgds_cons (pgd_name (i := 6) sc__law_not_longer.nd rfl (by first | exact .inl rfl | exact .inr rfl)) pgds_nil))))
      (pbd_cons (psd_asg (pdv 2) (pgd_tupK (K := K) (n := 2) rfl rfl (pgds_cons (pgd_name (i := 7) sc__law_not_longer.nd rfl (by first | exact .inl rfl | exact .inr rfl)) (pgds_cons (pgd_name (i := 8) sc__law_not_longer.nd rfl (by first | exact .inl rfl | exact .inr rfl)) pgds_nil))))
      (pbd_cons (psd_set (i := 9) sc__law_not_longer.nd rfl (by first | exact .inl rfl | exact .inr rfl) (pd_op op_sub r2_I (pd_op op_sub r2_I (pd_op op_mulW r2_Ic (pd_op op_mulW r2_Ic (pdv 3) (pdv 6)) (pdv 8)) (pd_op op_mulW r2_Ic (pd_op op_mulW r2_Ic (pdv 5) (pdv 4)) (pdv 8))) (pd_op op_mulW r2_Ic (pd_op op_mulW r2_Ic (pdv 7) (pdv 4)) (pdv 6))))
      (pbd_cons (psd_if (pdt_cmp op_le r2_B (pdv 9) pd_int) (pbd_one (psd_ret pd_bl)) pbd_nil)
      (pbd_cons (psd_set (i := 10) sc__law_not_longer.nd rfl (by first | exact .inl rfl | exact .inr rfl) (pd_op op_mulW r2_Ic (pd_op op_mulW r2_Ic (pdv 4) (pdv 6)) (pdv 8)))
      (pbd_one (psd_ret (pd_cmp op_le r2_B (pd_op op_mulW r2_Ic (pd_op op_mulW r2_Ic (pd_op op_mulW r2_Ic (pdv 9) (pdv 9)) (pdv 6)) (pdv 8)) (pd_op op_mulW r2_Ic (pd_op op_mulW r2_Ic (pd_op op_mulW r2_Ic (pd_op op_mulW r2_Ic pd_int (pdv 5)) (pdv 7)) (pdv 10)) (pdv 10))))))))))), ?_⟩)
  rintro ds k ⟨l, x, y, rfl, zl, zx, zy, hn, hk⟩
  have m : ∀ {n : Nat} {i : Int}, Sz n i → n ≤ 400000 → Sz 400000 i := fun h le => h.mono le
  refine ⟨_, rfl, _, rfl, rfl, _, _, rfl, _, _, rfl, rfl, ?_⟩
  refine ⟨_, rfl, _, rfl, rfl, _, _, rfl, _, _, rfl, rfl, ?_⟩
  refine ⟨_, rfl, _, rfl, rfl, _, _, rfl, _, _, rfl, rfl, ?_⟩
  have s1 := zl.1.mul zx.2
  have s2 := s1.mul zy.2
  have s3 := zx.1.mul zl.2
  have s4 := s3.mul zy.2
  have s5 := zy.1.mul zl.2
  have s6 := s5.mul zx.2
  have s7 := zl.2.mul zx.2
  have s8 := s7.mul zy.2
  refine ⟨_, rfl, _, rfl, _, _, rfl, rfl, mulok9 (m zl.1 (by decide)) (m zx.2 (by decide)), _, rfl, _, _, rfl, rfl, mulok9 (m s1 (by decide)) (m zy.2 (by decide)), ?_⟩
  refine ⟨_, rfl, _, rfl, _, _, rfl, rfl, mulok9 (m zx.1 (by decide)) (m zl.2 (by decide)), _, rfl, _, _, rfl, rfl, mulok9 (m s3 (by decide)) (m zy.2 (by decide)), _, _, rfl, rfl, ?_⟩
  refine ⟨_, rfl, _, rfl, _, _, rfl, rfl, mulok9 (m zy.1 (by decide)) (m zl.2 (by decide)), _, rfl, _, _, rfl, rfl, mulok9 (m s5 (by decide)) (m zx.2 (by decide)), _, _, rfl, rfl, ?_⟩
  have s9 := ((s2.sub s4).mono (m := 1300) (by decide)).sub (s6.mono (m := 1300) (by decide))
  refine ⟨_, rfl, _, _, rfl, rfl, _, rfl, ?_⟩
  refine ite2 (fun h => hk) (fun h => ?_)
  have h' : ¬ (l.num * (x.den : Int) * (y.den : Int) - x.num * (l.den : Int) * (y.den : Int) - y.num * (l.den : Int) * (x.den : Int) ≤ 0) := by simpa using h
  have hle := nl_int hn (by omega)
  refine ⟨_, rfl, _, rfl, _, _, rfl, rfl, mulok9 (m zl.2 (by decide)) (m zx.2 (by decide)), _, rfl, _, _, rfl, rfl, mulok9 (m s7 (by decide)) (m zy.2 (by decide)), ?_⟩
  have t1 := s9.mul s9
  have t2 := t1.mul zx.2
  have u1 := (sz2 (n := 3) (by decide)).mul (sz2 (n := 3) (by decide))
  have u0 : Sz 10 4 := szn (by decide) (by decide)
  have u2 := u0.mul zx.1
  have u3 := u2.mul zy.1
  have u4 := u3.mul s8
  refine ⟨_, rfl, _, rfl, _, _, rfl, rfl, mulok9 (m s9 (by decide)) (m s9 (by decide)), _, rfl, _, _, rfl, rfl, mulok9 (m t1 (by decide)) (m zx.2 (by decide)), _, rfl, _, _, rfl, rfl, mulok9 (m t2 (by decide)) (m zy.2 (by decide)), ?_⟩
  refine ⟨_, rfl, _, _, rfl, rfl, mulok9 (m u0 (by decide)) (m zx.1 (by decide)), _, rfl, _, _, rfl, rfl, mulok9 (m u2 (by decide)) (m zy.1 (by decide)), _, rfl, _, _, rfl, rfl, mulok9 (m u3 (by decide)) (m s8 (by decide)), _, rfl, _, _, rfl, rfl, mulok9 (m u4 (by decide)) (m s8 (by decide)), _, _, rfl, rfl, ?_⟩
  dsimp only
  rw [decide_eq_true hle]
  exact hk
end
end G
namespace G
open PySem PySem.Spec PyProof.Rows L2 DL M
section
variable {P : Program} {w : World} {K : PySem.W.Frag} {mg : Str → Option Value} {base : Heap}
def LR (w : Str) (P Q : List Pt) (r : Rat) : Prop := ∃ (zs : List Rat) (i : Nat), srt zs ∧ (∀ q, q ∈ zs ↔ q ∈ cands P Q) ∧ zs[i]? = some r ∧ (i = 0 ∨ ∃ q, zs[i - 1]? = some q ∧ tb w P Q q = false) ∧ (i + 1 = zs.length ∨ tb w P Q r = true)
def tri : List (Str × Str × Str) := [("on", "on", "on"), ("hops", "hops", "hops"), ("part", "part", "on")]
def t__law_three : Tr := fun ds k => ∃ P Q R : List Pt, ds = [ln P, ln Q, ln R] ∧ Lz P ∧ Lz Q ∧ Lz R ∧ (∀ A B : List Pt, ∀ q ∈ cands A B, 0 ≤ q) ∧ (∀ w ∈ tri, ∀ l a b, LR w.1 P R l → LR w.2.1 P Q a → LR w.2.2 Q R b → NL l a b) ∧ k (.bl true)
theorem len__law_three : ∀ ds k, t__law_three ds k → ds.length = 3 := by
  rintro ds k ⟨_, _, _, rfl, _⟩
  rfl
abbrev nm__law_three : List Str := ["one", "other", "third", "ways", "long", "here", "there", "square"]
theorem sc__law_three : FnScope nm__law_three ["one", "other", "third"] (defScope s__law_three) := ⟨rfl, rfl, rfl, by decide +kernel, rfl, by decide +kernel, by decide +kernel⟩
theorem k__law_three (T : Txt K mg) : Kept P w K mg base "_law_three" ["one", "other", "third"] [] 23 t__law_three := by
  obtain ⟨fd, F⟩ := T.says.def_ 102 (d := d__law_three) rfl
  refine kept_of (N := nm__law_three) (body := defBody s__law_three) (scope := defScope s__law_three) (params := defArgs s__law_three) F (g__law_three T) sc__law_three len__law_three (fun _ _ _ _ _ _ us hl => match us, hl with | [_, _, _], _ => rfl) (fun cdv A outer s H E hr => ⟨_, _,
      (pbd_cons (psd_for PassesOwn.never rfl (pid_list (pd_sh (pl_lst (pda_cons (pd_tup (pda_cons pd_str (pda_cons pd_str (pda_cons pd_str pda_nil)))) (pda_cons (pd_tup (pda_cons pd_str (pda_cons pd_str (pda_cons pd_str pda_nil)))) (pda_cons (pd_tup (pda_cons pd_str (pda_cons pd_str (pda_cons pd_str pda_nil)))) pda_nil)))))) (pgd_name (i := 3) sc__law_three.nd rfl (by first | exact .inl rfl | exact .inr rfl))
      (pbd_cons (psd_set (i := 4) sc__law_three.nd rfl (by first | exact .inl rfl | exact .inr rfl) (pd_ixK (K := K) rfl (pd_call (k_leash3 T) (hr.mono (by decide)) (by rfl) (pda_cons (pdv 0) (pda_cons (pdv 2) (pda_cons (pd_ixK (K := K) rfl (pdv 3) pd_int) pda_nil)))) pd_int))
      (pbd_cons (psd_set (i := 5) sc__law_three.nd rfl (by first | exact .inl rfl | exact .inr rfl) (pd_ixK (K := K) rfl (pd_call (k_leash3 T) (hr.mono (by decide)) (by rfl) (pda_cons (pdv 0) (pda_cons (pdv 1) (pda_cons (pd_ixK (K := K) rfl (pdv 3) pd_int) pda_nil)))) pd_int))
      (pbd_cons (psd_set (i := 6) sc__law_three.nd rfl (by first | exact .inl rfl | exact .inr rfl) (pd_ixK (K := K) rfl (pd_call (k_leash3 T) (hr.mono (by decide)) (by rfl) (pda_cons (pdv 1) (pda_cons (pdv 2) (pda_cons (pd_ixK (K := K) rfl (pdv 3) pd_int) pda_nil)))) pd_int))
      (pbd_cons (psd_if (pdt_not (pdt_val (pd_bi (cr_all rfl) rc_all (by rfl) (f_all T) (by decide +kernel) (pda_cons (pd_sh (pl_lc (own := [("square", 7)]) rfl sc__law_three.nd (pid_list (pd_sh (pl_lst (pda_cons (pdv 4) (pda_cons (pdv 5) (pda_cons (pdv 6) pda_nil)))))) (blkOk_by (N := nm__law_three) (sc := defScope s__law_three) (by decide +kernel)) (fun _ _ _ _ _ => (pgd_name (i := 7) sc__law_three.nd rfl (by first | exact .inl rfl | exact .inr rfl))) (fun _ _ _ _ _ => pdts_nil) (fun _ _ _ _ _ => (pd_call (k__law_is_fraction T) (hr.mono (by decide)) (by rfl) (pda_cons (pdv 7) pda_nil))))) pda_nil)))) (pbd_one (psd_ret pd_bl)) pbd_nil)
      (pbd_one (psd_if (pdt_not (pdt_val (pd_call (k__law_not_longer T) (hr.mono (by decide)) (by rfl) (pda_cons (pdv 4) (pda_cons (pdv 5) (pda_cons (pdv 6) pda_nil)))))) (pbd_one (psd_ret pd_bl)) pbd_nil)))))))
      (pbd_one (psd_ret pd_bl))), ?_⟩)
  rintro ds k ⟨P, Q, R, rfl, z1, z2, z3, hpos, hnl, hk⟩
  have inw : ∀ w ∈ tri, w.1 ∈ ways ∧ w.2.1 ∈ ways ∧ w.2.2 ∈ ways ∧ w.1 ≠ "free" ∧ w.2.1 ≠ "free" ∧ w.2.2 ≠ "free" := by decide +kernel
  refine ⟨tl3, tl3, tl3, tl3, _, rfl, fun i ρ => ∃ a b c d e, ρ = [some (.sh (ln P)), some (.sh (ln Q)), some (.sh (ln R)), a, b, c, d, e], ⟨_, _, _, _, _, rfl⟩, ?_, ?_⟩
  · rintro i d ρ hi ⟨a, b, c, d', e, rfl⟩
    obtain ⟨w, hw, rfl⟩ : ∃ w ∈ tri, d = Dat.tup [.str w.1, .str w.2.1, .str w.2.2] := by
      have hi' : (tri.map fun w => Dat.tup [.str w.1, .str w.2.1, .str w.2.2])[i]? = some d := hi
      rw [List.getElem?_map] at hi'
      cases e : tri[i]? with
      | none => rw [e] at hi'; cases hi'
      | some w => rw [e] at hi'; exact ⟨w, List.mem_of_getElem? e, (Option.some.inj hi').symm⟩
    obtain ⟨i1, i2, i3, f1, f2, f3⟩ := inw w hw
    refine ⟨_, rfl, _, rfl, _, rfl, _, _, _, rfl, rfl, rfl, w.1, P, R, rfl, i1, fun h => absurd h f1, z1, z3, hpos P R, fun za ia l d1 d2 sa ma ha la ua => ?_⟩
    refine ⟨_, _, _, rfl, rfl, rfl, ?_⟩
    refine ⟨_, rfl, _, rfl, _, rfl, _, _, _, rfl, rfl, rfl, w.2.1, P, Q, rfl, i2, fun h => absurd h f2, z1, z2, hpos P Q, fun zb ib x d3 d4 sb mb hb lb ub => ?_⟩
    refine ⟨_, _, _, rfl, rfl, rfl, ?_⟩
    refine ⟨_, rfl, _, rfl, _, rfl, _, _, _, rfl, rfl, rfl, w.2.2, Q, R, rfl, i3, fun h => absurd h f3, z2, z3, hpos Q R, fun zc ic y d5 d6 sc mc hc lc uc => ?_⟩
    refine ⟨_, _, _, rfl, rfl, rfl, ?_⟩
    have hNL := hnl w hw l x y ⟨za, ia, sa, ma, ha, la, ua⟩ ⟨zb, ib, sb, mb, hb, lb, ub⟩ ⟨zc, ic, sc, mc, hc, lc, uc⟩
    have fl := cands_sz z1 z3 ((ma l).mp (List.mem_of_getElem? ha))
    have fx := cands_sz z1 z2 ((mb x).mp (List.mem_of_getElem? hb))
    have fy := cands_sz z2 z3 ((mc y).mp (List.mem_of_getElem? hc))
    refine ⟨_, rfl, _, rfl, _, rfl, tl3, _, rfl, fun n acc => acc = (List.replicate n true).map Dat.bl, rfl, ?_, ?_⟩
    · rintro n d acc hn rfl
      obtain ⟨q, rfl⟩ : ∃ q : Rat, d = fr q := by
        have := List.mem_of_getElem? hn
        simp at this
        rcases this with h | h | h <;> exact ⟨_, h⟩
      have hn2 := (List.getElem?_eq_some_iff.mp hn).1
      have hn2 : n < 3 := hn2
      refine ⟨_, rfl, q, rfl, by simp; omega, ?_⟩
      show List.map Dat.bl (List.replicate n true) ++ [Dat.bl true] = List.map Dat.bl (List.replicate (n + 1) true)
      rw [List.replicate_succ', List.map_append]
      rfl
    · rintro acc rfl
      refine ⟨[true, true, true], rfl, _, rfl, ?_⟩
      refine iteF ⟨_, rfl, _, rfl, _, rfl, l, x, y, rfl, fl, fx, fy, hNL, _, rfl, ?_⟩
      exact iteF ⟨_, _, _, _, _, rfl⟩
  · rintro ρ ⟨a, b, c, d, e, rfl⟩
    exact hk
end
end G
/-! Curves: where they fall and rise, and what a bar says. -/
namespace M
/-- what a curve of a corner and a stretch is -/
def Cw (c : Cv) : Prop := 0 ≤ c.1 ∧ (c.1 = 0 → c.2.1 = 0)
theorem sq_nonneg (a : Int) : 0 ≤ a * a := by
  rcases Int.le_total 0 a with h | h
  · exact Int.mul_nonneg h h
  · have := Int.mul_nonneg (show 0 ≤ -a by omega) (show 0 ≤ -a by omega)
    rwa [Int.neg_mul_neg] at this
theorem rsq_nonneg (a : Rat) : 0 ≤ a * a := by
  rcases Rat.le_total (a := 0) (b := a) with h | h
  · exact Rat.mul_nonneg h h
  · have := Rat.mul_nonneg (show 0 ≤ -a by grind) (show 0 ≤ -a by grind)
    grind
theorem crv_w (c b e : Pt) : Cw (crv c b e) := by
  have h1 := sq_nonneg (e.1 - b.1)
  have h2 := sq_nonneg (e.2 - b.2)
  refine ⟨?_, fun h => ?_⟩
  · show 0 ≤ (e.1 - b.1) * (e.1 - b.1) + (e.2 - b.2) * (e.2 - b.2)
    omega
  · have h : (e.1 - b.1) * (e.1 - b.1) + (e.2 - b.2) * (e.2 - b.2) = 0 := h
    have h3 : e.1 - b.1 = 0 := by
      have : (e.1 - b.1) * (e.1 - b.1) = 0 := by omega
      rcases Int.mul_eq_zero.mp this with z | z <;> exact z
    have h4 : e.2 - b.2 = 0 := by
      have : (e.2 - b.2) * (e.2 - b.2) = 0 := by omega
      rcases Int.mul_eq_zero.mp this with z | z <;> exact z
    show (b.1 - c.1) * (e.1 - b.1) + (b.2 - c.2) * (e.2 - b.2) = 0
    rw [h3, h4]
    simp
theorem wv_sub (c : Cv) (s t : Rat) : wv c t - wv c s = (t - s) * ((c.1 : Rat) * (t + s) + 2 * (c.2.1 : Rat)) := by
  unfold wv
  grind
/-- the foot: between both ends; the curve falls up to it and rises from it on -/
theorem near_spec {c : Cv} (h : Cw c) : 0 ≤ near c ∧ near c ≤ 1 ∧ (∀ s t, near c ≤ s → s ≤ t → t ≤ 1 → wv c s ≤ wv c t) ∧ (∀ s t, 0 ≤ s → s ≤ t → t ≤ near c → wv c t ≤ wv c s) := by
  obtain ⟨h1, h2⟩ := h
  have key : ∀ s t : Rat, s ≤ t → (0 ≤ (c.1 : Rat) * (t + s) + 2 * (c.2.1 : Rat) ∨ s = t) → wv c s ≤ wv c t := by
    intro s t hst hk
    rcases hk with hk | hk
    · have a := Rat.mul_nonneg (show 0 ≤ t - s by grind) hk
      rw [← wv_sub] at a
      grind
    · rw [hk]; exact Rat.le_refl
  have key2 : ∀ s t : Rat, s ≤ t → ((c.1 : Rat) * (t + s) + 2 * (c.2.1 : Rat) ≤ 0 ∨ s = t) → wv c t ≤ wv c s := by
    intro s t hst hk
    rcases hk with hk | hk
    · have a := Rat.mul_nonneg (show 0 ≤ t - s by grind) (show 0 ≤ -((c.1 : Rat) * (t + s) + 2 * (c.2.1 : Rat)) by grind)
      have b := wv_sub c s t
      grind
    · rw [hk]; exact Rat.le_refl
  have hA : (0 : Rat) ≤ (c.1 : Rat) := by exact_mod_cast h1
  unfold near
  split
  · rename_i h3
    refine ⟨Rat.le_refl, by grind, fun s t a b _ => key s t b (.inl ?_), fun s t a b d => key2 s t b (.inr (by grind))⟩
    have hB : (0 : Rat) ≤ (c.2.1 : Rat) := by
      rcases h3 with h3 | h3
      · rw [h2 h3]; simp
      · exact_mod_cast h3
    have := Rat.mul_nonneg hA (show 0 ≤ t + s by grind)
    grind
  · rename_i h3
    split
    · rename_i h4
      have hB : (c.1 : Rat) ≤ -(c.2.1 : Rat) := by
        have : ((c.1 : Int) : Rat) ≤ ((-c.2.1 : Int) : Rat) := by exact_mod_cast h4
        simpa using this
      refine ⟨by grind, Rat.le_refl, fun s t a b d => key s t b (.inr (by grind)), fun s t a b d => key2 s t b (.inl ?_)⟩
      have := Rat.mul_nonneg hA (show 0 ≤ 2 - (t + s) by grind)
      grind
    · rename_i h4
      have hpos : (0 : Rat) < (c.1 : Rat) := by
        have : 0 < c.1 := by
          rcases Int.lt_or_eq_of_le h1 with z | z
          · exact z
          · exact absurd (.inl z.symm) h3
        exact_mod_cast this
      have hB : (c.2.1 : Rat) ≤ 0 := by
        have : c.2.1 ≤ 0 := by
          rcases Int.le_total 0 c.2.1 with z | z
          · exact absurd (.inr z) h3
          · exact z
        exact_mod_cast this
      have hC : -(c.2.1 : Rat) ≤ (c.1 : Rat) := by
        have : ((-c.2.1 : Int) : Rat) ≤ ((c.1 : Int) : Rat) := by
          have h5 : -c.2.1 ≤ c.1 := by omega
          exact_mod_cast h5
        simpa using this
      generalize hN : Rat.divInt (-c.2.1) c.1 = N
      have eN : N * (c.1 : Rat) = -(c.2.1 : Rat) := by
        rw [← hN, Rat.divInt_eq_div, Rat.div_mul_cancel (by grind)]
        simp
      have n0 : 0 ≤ N := by
        rcases Rat.le_total (a := 0) (b := N) with z | z
        · exact z
        · have := Rat.mul_nonneg (show 0 ≤ -N by grind) hA
          by_cases e : N = 0
          · rw [e]; exact Rat.le_refl
          · have := Rat.mul_pos (show 0 < -N by grind) hpos
            grind
      have n1 : N ≤ 1 := by
        rcases Rat.le_total (a := N) (b := 1) with z | z
        · exact z
        · by_cases e : N = 1
          · rw [e]; exact Rat.le_refl
          · have := Rat.mul_pos (show 0 < N - 1 by grind) hpos
            grind
      refine ⟨n0, n1, fun s t a b d => key s t b (.inl ?_), fun s t a b d => key2 s t b (.inl ?_)⟩
      · have := Rat.mul_nonneg hA (show 0 ≤ (t - N) + (s - N) by grind)
        grind
      · have := Rat.mul_nonneg hA (show 0 ≤ (N - t) + (N - s) by grind)
        grind
theorem lw_le {c : Cv} (h : Cw c) {t : Rat} (t0 : 0 ≤ t) (t1 : t ≤ 1) : lw c ≤ wv c t := by
  obtain ⟨a, b, d, e⟩ := near_spec h
  unfold lw
  rcases Rat.le_total (a := t) (b := near c) with z | z
  · exact e t _ t0 z Rat.le_refl
  · exact d _ t Rat.le_refl z t1
theorem rmax_l (a b : Rat) : a ≤ rmax a b := by unfold rmax; split <;> grind
theorem rmax_r (a b : Rat) : b ≤ rmax a b := by unfold rmax; split <;> grind
theorem rmax_or (a b : Rat) : rmax a b = a ∨ rmax a b = b := by unfold rmax; split <;> grind
theorem bar_self {c : Cv} : (bar c c).2 = lw c := by
  unfold bar
  rw [if_neg (Rat.lt_irrefl)]
  unfold rmax lw
  rw [if_neg (Rat.lt_irrefl)]
def DC (T : Rat → Bool) : Prop := ∀ a b, a ≤ b → T b = true → T a = true
theorem meet_some {f l : Cv} {m : Rat} (ha : f.1 = l.1) (h : meet f l = some m) : wv f m = wv l m := by
  unfold meet at h
  split at h
  · cases h
  · rename_i h1
    have h := Option.some.inj h
    have e : m * (2 * ((f.2.1 : Rat) - (l.2.1 : Rat))) = (l.2.2 : Rat) - (f.2.2 : Rat) := by
      rw [← h, Rat.divInt_eq_div]
      have h2 : ((2 * (f.2.1 - l.2.1) : Int) : Rat) ≠ 0 := by
        intro z
        exact h1 (Rat.intCast_eq_zero_iff.mp z)
      have e2 : ((2 * (f.2.1 - l.2.1) : Int) : Rat) = 2 * ((f.2.1 : Rat) - (l.2.1 : Rat)) := by
        simp only [Rat.intCast_mul, Rat.intCast_sub, Rat.intCast_ofNat]
      rw [← e2, Rat.div_mul_cancel h2]
      simp only [Rat.intCast_sub]
    unfold wv
    rw [ha]
    grind
/-- where there is no crossing the order at one end is that at the other -/
theorem crs_none {f l : Cv} (ha : f.1 = l.1) (hn : near l < near f) (h : crs f l = none) (hle : wv f (near f) ≤ wv l (near f)) : wv f (near l) ≤ wv l (near l) := by
  unfold crs at h
  rw [if_pos hn] at h
  have dif : ∀ t, wv f t - wv l t = 2 * ((f.2.1 : Rat) - (l.2.1 : Rat)) * t + ((f.2.2 : Rat) - (l.2.2 : Rat)) := by
    intro t
    unfold wv
    rw [ha]
    grind
  have d1 := dif (near f)
  have d2 := dif (near l)
  generalize near f = F at *
  generalize near l = L at *
  unfold meet at h
  by_cases h1 : 2 * (f.2.1 - l.2.1) = 0
  · have e : (f.2.1 : Rat) - (l.2.1 : Rat) = 0 := by
      have : f.2.1 = l.2.1 := by omega
      rw [this]
      grind
    rw [e] at d1 d2
    grind
  · rw [if_neg h1] at h
    dsimp only at h
    split at h
    · rename_i h3
      have e : Rat.divInt (l.2.2 - f.2.2) (2 * (f.2.1 - l.2.1)) * (2 * ((f.2.1 : Rat) - (l.2.1 : Rat))) = (l.2.2 : Rat) - (f.2.2 : Rat) := by
        rw [Rat.divInt_eq_div]
        have h2 : ((2 * (f.2.1 - l.2.1) : Int) : Rat) ≠ 0 := by
          intro z
          exact h1 (Rat.intCast_eq_zero_iff.mp z)
        have e2 : ((2 * (f.2.1 - l.2.1) : Int) : Rat) = 2 * ((f.2.1 : Rat) - (l.2.1 : Rat)) := by
          simp only [Rat.intCast_mul, Rat.intCast_sub, Rat.intCast_ofNat]
        rw [← e2, Rat.div_mul_cancel h2]
        simp only [Rat.intCast_sub]
      generalize Rat.divInt (l.2.2 - f.2.2) (2 * (f.2.1 - l.2.1)) = m at h3 e
      generalize hS : 2 * ((f.2.1 : Rat) - (l.2.1 : Rat)) = S at d1 d2 e
      -- the difference is S * (t - m)
      have g1 : wv f F - wv l F = S * (F - m) := by grind
      have g2 : wv f L - wv l L = S * (L - m) := by grind
      rcases Rat.le_total (a := 0) (b := S) with z | z
      · have := Rat.mul_nonneg z (show 0 ≤ F - L by grind)
        grind
      · rcases h3 with h3 | h3
        · have := Rat.mul_nonneg (show 0 ≤ -S by grind) (show 0 ≤ L - m by grind)
          grind
        · by_cases e0 : S = 0
          · rw [e0] at g2; grind
          · have := Rat.mul_pos (show 0 < -S by grind) (show 0 < m - F by grind)
            grind
    · cases h
theorem crs_some {f l : Cv} {m : Rat} (h : crs f l = some m) : near l ≤ m ∧ m ≤ near f ∧ meet f l = some m := by
  unfold crs at h
  split at h
  · split at h
    · cases h
    · rename_i h1
      split at h
      · cases h
      · rename_i h2
        cases h
        refine ⟨?_, ?_, h1⟩ <;> grind
  · cases h
theorem bar_ex {T : Rat → Bool} (hT : DC T) {f l : Cv} (hf : Cw f) (hl : Cw l) (ha : f.1 = l.1) (h : T (bar f l).2 = true) : ∃ u v, 0 ≤ u ∧ u ≤ v ∧ v ≤ 1 ∧ T (wv f u) = true ∧ T (wv l v) = true := by
  obtain ⟨f0, f1, _, _⟩ := near_spec hf
  obtain ⟨l0, l1, _, _⟩ := near_spec hl
  unfold bar at h
  split at h
  · rename_i hn
    split at h
    · rename_i m hm
      obtain ⟨a, b, d⟩ := crs_some hm
      have e := meet_some ha d
      refine ⟨m, m, by grind, Rat.le_refl, by grind, h, by rw [← e]; exact h⟩
    · rename_i hm
      split at h
      · rename_i h2
        exact ⟨near f, near f, f0, Rat.le_refl, f1, h, hT _ _ (by grind) h⟩
      · rename_i h2
        have := crs_none ha hn hm (by grind)
        exact ⟨near l, near l, l0, Rat.le_refl, l1, hT _ _ this h, h⟩
  · rename_i hn
    exact ⟨near f, near l, f0, by grind, l1, hT _ _ (rmax_l _ _) h, hT _ _ (rmax_r _ _) h⟩
theorem bar_le {f l : Cv} (hf : Cw f) (hl : Cw l) (ha : f.1 = l.1) {u v : Rat} (u0 : 0 ≤ u) (huv : u ≤ v) (v1 : v ≤ 1) : (bar f l).2 ≤ wv f u ∨ (bar f l).2 ≤ wv l v := by
  obtain ⟨f0, f1, f2, f3⟩ := near_spec hf
  obtain ⟨l0, l1, l2, l3⟩ := near_spec hl
  by_cases hn : near l < near f
  · obtain ⟨w, w0, w1, w2, w3⟩ : ∃ w, near l ≤ w ∧ w ≤ near f ∧ wv f w ≤ wv f u ∧ wv l w ≤ wv l v := by
      rcases Rat.le_total (a := near f) (b := u) with z | z
      · exact ⟨near f, by grind, Rat.le_refl, f2 _ _ Rat.le_refl z (by grind), l2 _ _ (by grind) (by grind) v1⟩
      · rcases Rat.le_total (a := near l) (b := u) with y | y
        · exact ⟨u, y, z, Rat.le_refl, l2 _ _ y huv v1⟩
        · refine ⟨near l, Rat.le_refl, by grind, f3 _ _ u0 y (by grind), ?_⟩
          exact lw_le hl (by grind) v1
    unfold bar
    rw [if_pos hn]
    split
    · rename_i m hm
      obtain ⟨a, b, d⟩ := crs_some hm
      have e := meet_some ha d
      rcases Rat.le_total (a := w) (b := m) with z | z
      · left
        have := f3 w m (by grind) z b
        show wv f m ≤ _
        grind
      · right
        have := l2 m w a z (by grind)
        show wv f m ≤ _
        grind
    · split
      · left
        have := f3 w _ (by grind) w1 Rat.le_refl
        show wv f (near f) ≤ _
        grind
      · right
        have := l2 _ w Rat.le_refl w0 (by grind)
        show wv l (near l) ≤ _
        grind
  · unfold bar
    rw [if_neg hn]
    have a := lw_le hf u0 (by grind)
    have b := lw_le hl (show 0 ≤ v by grind) v1
    unfold lw at a b
    show rmax _ _ ≤ _ ∨ rmax _ _ ≤ _
    rcases rmax_or (wv f (near f)) (wv l (near l)) with z | z
    · left; rw [z]; exact a
    · right; rw [z]; exact b
theorem bar_in {T : Rat → Bool} (hT : DC T) {f l : Cv} (hf : Cw f) (hl : Cw l) (ha : f.1 = l.1) {u v : Rat} (u0 : 0 ≤ u) (huv : u ≤ v) (v1 : v ≤ 1) (h1 : T (wv f u) = true) (h2 : T (wv l v) = true) : T (bar f l).2 = true := by
  rcases bar_le hf hl ha u0 huv v1 with z | z
  · exact hT _ _ z h1
  · exact hT _ _ z h2
theorem wv_mid {T : Rat → Bool} (hT : DC T) {c : Cv} (hc : Cw c) {a b x : Rat} (a0 : 0 ≤ a) (b1 : b ≤ 1) (h1 : a ≤ x) (h2 : x ≤ b) (ta : T (wv c a) = true) (tb : T (wv c b) = true) : T (wv c x) = true := by
  obtain ⟨c0, c1, c2, c3⟩ := near_spec hc
  rcases Rat.le_total (a := x) (b := near c) with z | z
  · exact hT _ _ (c3 a x a0 h1 z) ta
  · exact hT _ _ (c2 x b z h2 b1) tb
end M
/-! Walks as chains of pairs of places; that the table's recursion finds just those. -/
namespace M
/-- the point of a place, on the straight line of the stretch k; at a place -/
def px (P : List Pt) (k : Nat) (x : Rat) : Rat := ((gp P k).1 : Rat) + (x - (k : Rat)) * (((gp P (k + 1)).1 : Rat) - ((gp P k).1 : Rat))
def py (P : List Pt) (k : Nat) (x : Rat) : Rat := ((gp P k).2 : Rat) + (x - (k : Rat)) * (((gp P (k + 1)).2 : Rat) - ((gp P k).2 : Rat))
def ax (P : List Pt) (x : Rat) : Rat := px P x.floor.toNat x
def ay (P : List Pt) (x : Rat) : Rat := py P x.floor.toNat x
theorem floor_at {x : Rat} {i : Nat} (h0 : (i : Rat) ≤ x) (h1 : x < (i : Rat) + 1) : x.floor.toNat = i := by
  have a : (i : Int) ≤ x.floor := Rat.le_floor_iff.mpr (by rw [Rat.intCast_natCast]; exact h0)
  have b : x.floor < (i : Int) + 1 := Rat.floor_lt_iff.mpr (by rw [Rat.intCast_add, Rat.intCast_natCast]; exact h1)
  omega
theorem at_eq (P : List Pt) {x : Rat} {i : Nat} (h0 : (i : Rat) ≤ x) (h1 : x ≤ (i : Rat) + 1) : ax P x = px P i x ∧ ay P x = py P i x := by
  by_cases h : x < (i : Rat) + 1
  · unfold ax ay
    rw [floor_at h0 h]
    exact ⟨rfl, rfl⟩
  · have e : x = (i : Rat) + 1 := by grind
    have f : x.floor.toNat = i + 1 := floor_at (by simp; grind) (by simp; grind)
    unfold ax ay
    rw [f, e]
    unfold px py
    simp
    constructor <;> grind
theorem at_nat (P : List Pt) (i : Nat) : ax P (i : Rat) = ((gp P i).1 : Rat) ∧ ay P (i : Rat) = ((gp P i).2 : Rat) := by
  obtain ⟨a, b⟩ := at_eq P (x := (i : Rat)) (i := i) Rat.le_refl (by grind)
  rw [a, b]
  unfold px py
  constructor <;> grind
def sqd (P Q : List Pt) (x y : Rat) : Rat := (ax P x - ax Q y) * (ax P x - ax Q y) + (ay P x - ay Q y) * (ay P x - ay Q y)
theorem sqd_ap (P Q : List Pt) (i j : Nat) : sqd P Q (i : Rat) (j : Rat) = ap (gp P i) (gp Q j) := by
  obtain ⟨a, b⟩ := at_nat P i
  obtain ⟨c, d⟩ := at_nat Q j
  unfold sqd ap
  rw [a, b, c, d]
  simp only [Rat.intCast_add, Rat.intCast_mul, Rat.intCast_sub]
theorem sqd_sym (P Q : List Pt) (x y : Rat) : sqd P Q x y = sqd Q P y x := by
  unfold sqd
  grind
theorem sqd_nonneg (P Q : List Pt) (x y : Rat) : 0 ≤ sqd P Q x y := by
  unfold sqd
  have a := rsq_nonneg (ax P x - ax Q y)
  have b := rsq_nonneg (ay P x - ay Q y)
  grind
theorem crv_wv (c b e : Pt) (t : Rat) : wv (crv c b e) t = ((c.1 : Rat) - ((b.1 : Rat) + t * ((e.1 : Rat) - (b.1 : Rat)))) * ((c.1 : Rat) - ((b.1 : Rat) + t * ((e.1 : Rat) - (b.1 : Rat)))) + ((c.2 : Rat) - ((b.2 : Rat) + t * ((e.2 : Rat) - (b.2 : Rat)))) * ((c.2 : Rat) - ((b.2 : Rat) + t * ((e.2 : Rat) - (b.2 : Rat)))) := by
  unfold wv crv
  simp only [Rat.intCast_add, Rat.intCast_mul, Rat.intCast_sub]
  grind
theorem wv_up (P Q : List Pt) (i k : Nat) {t : Rat} (t0 : 0 ≤ t) (t1 : t ≤ 1) : wv (cq P Q i k) t = sqd P Q (i : Rat) ((k : Rat) + t) := by
  obtain ⟨a, b⟩ := at_nat P i
  obtain ⟨c, d⟩ := at_eq Q (x := (k : Rat) + t) (i := k) (by grind) (by grind)
  unfold sqd cq
  rw [a, b, c, d, crv_wv]
  unfold px py
  grind
theorem wv_lev (P Q : List Pt) (j k : Nat) {t : Rat} (t0 : 0 ≤ t) (t1 : t ≤ 1) : wv (cq Q P j k) t = sqd P Q ((k : Rat) + t) (j : Rat) := by
  rw [wv_up Q P j k t0 t1, sqd_sym]
/-- a pair between two pairs of one cell -/
theorem sqd_mid (P Q : List Pt) {i j : Nat} {x0 x1 y0 y1 l : Rat} (a0 : (i : Rat) ≤ x0) (a1 : x0 ≤ x1) (a2 : x1 ≤ (i : Rat) + 1) (b0 : (j : Rat) ≤ y0) (b1 : y0 ≤ y1) (b2 : y1 ≤ (j : Rat) + 1) (l0 : 0 ≤ l) (l1 : l ≤ 1) {T : Rat → Bool} (hT : DC T) (h0 : T (sqd P Q x0 y0) = true) (h1 : T (sqd P Q x1 y1) = true) : T (sqd P Q (x0 + l * (x1 - x0)) (y0 + l * (y1 - y0))) = true := by
  have q1 := Rat.mul_nonneg l0 (show 0 ≤ x1 - x0 by grind)
  have q2 := Rat.mul_nonneg (show 0 ≤ 1 - l by grind) (show 0 ≤ x1 - x0 by grind)
  have q3 := Rat.mul_nonneg l0 (show 0 ≤ y1 - y0 by grind)
  have q4 := Rat.mul_nonneg (show 0 ≤ 1 - l by grind) (show 0 ≤ y1 - y0 by grind)
  obtain ⟨e1, e2⟩ := at_eq P a0 (show x0 ≤ (i : Rat) + 1 by grind)
  obtain ⟨e3, e4⟩ := at_eq P (show (i : Rat) ≤ x1 by grind) a2
  obtain ⟨e5, e6⟩ := at_eq P (x := x0 + l * (x1 - x0)) (i := i) (by grind) (by grind)
  obtain ⟨f1, f2⟩ := at_eq Q b0 (show y0 ≤ (j : Rat) + 1 by grind)
  obtain ⟨f3, f4⟩ := at_eq Q (show (j : Rat) ≤ y1 by grind) b2
  obtain ⟨f5, f6⟩ := at_eq Q (x := y0 + l * (y1 - y0)) (i := j) (by grind) (by grind)
  have key : sqd P Q (x0 + l * (x1 - x0)) (y0 + l * (y1 - y0)) ≤ (1 - l) * sqd P Q x0 y0 + l * sqd P Q x1 y1 := by
    unfold sqd
    rw [e1, e2, e3, e4, e5, e6, f1, f2, f3, f4, f5, f6]
    have g1 : px P i (x0 + l * (x1 - x0)) - px Q j (y0 + l * (y1 - y0)) = (1 - l) * (px P i x0 - px Q j y0) + l * (px P i x1 - px Q j y1) := by
      unfold px
      grind
    have g2 : py P i (x0 + l * (x1 - x0)) - py Q j (y0 + l * (y1 - y0)) = (1 - l) * (py P i x0 - py Q j y0) + l * (py P i x1 - py Q j y1) := by
      unfold py
      grind
    rw [g1, g2]
    generalize px P i x0 - px Q j y0 = u
    generalize px P i x1 - px Q j y1 = v
    generalize py P i x0 - py Q j y0 = u'
    generalize py P i x1 - py Q j y1 = v'
    have n1 := Rat.mul_nonneg (Rat.mul_nonneg l0 (show 0 ≤ 1 - l by grind)) (rsq_nonneg (u - v))
    have n2 := Rat.mul_nonneg (Rat.mul_nonneg l0 (show 0 ≤ 1 - l by grind)) (rsq_nonneg (u' - v'))
    grind
  rcases Rat.le_total (a := sqd P Q x0 y0) (b := sqd P Q x1 y1) with z | z
  · refine hT _ _ ?_ h1
    have := Rat.mul_nonneg (show 0 ≤ 1 - l by grind) (show 0 ≤ sqd P Q x1 y1 - sqd P Q x0 y0 by grind)
    grind
  · refine hT _ _ ?_ h0
    have := Rat.mul_nonneg l0 (show 0 ≤ sqd P Q x0 y0 - sqd P Q x1 y1 by grind)
    grind
/-- a chain of pairs: from the begin (bg: from any place of the other line), each pair within the leash, each two in one cell, none going back -/
inductive Rc (T : Rat → Bool) (bg : Bool) (P Q : List Pt) : Nat → Rat → Rat → Prop
  | start {y : Rat} : (bg = true ∨ y = 0) → 0 ≤ y → y ≤ ((Q.length - 1 : Nat) : Rat) → T (sqd P Q 0 y) = true → Rc T bg P Q 0 0 y
  | step {n : Nat} {x y x' y' : Rat} (i j : Nat) : Rc T bg P Q n x y → i + 1 < P.length → j + 1 < Q.length → (i : Rat) ≤ x → x ≤ x' → x' ≤ (i : Rat) + 1 → (j : Rat) ≤ y → y ≤ y' → y' ≤ (j : Rat) + 1 → T (sqd P Q x' y') = true → Rc T bg P Q (n + 1) x' y'
theorem Rc.ok {T : Rat → Bool} {bg : Bool} {P Q : List Pt} {n : Nat} {x y : Rat} (h : Rc T bg P Q n x y) : T (sqd P Q x y) = true := by
  cases h with
  | start _ _ _ h => exact h
  | step _ _ _ _ _ _ _ _ _ _ _ h => exact h
theorem Rc.nn {T : Rat → Bool} {bg : Bool} {P Q : List Pt} {n : Nat} {x y : Rat} (h : Rc T bg P Q n x y) : 0 ≤ x ∧ 0 ≤ y := by
  induction h with
  | start _ h _ _ => exact ⟨Rat.le_refl, h⟩
  | step i j _ _ _ _ _ _ _ _ _ _ ih => constructor <;> grind
theorem Rc.mono {T T' : Rat → Bool} (hm : ∀ q, T q = true → T' q = true) {bg : Bool} {P Q : List Pt} {n : Nat} {x y : Rat} (h : Rc T bg P Q n x y) : Rc T' bg P Q n x y := by
  induction h with
  | start a b c d => exact .start a b c (hm _ d)
  | step i j _ a b c d e f g k l ih => exact .step i j ih a b c d e f g k (hm _ l)
/-! ## completeness -/
def ch (T : Rat → Bool) (c : Nat → Cv) (f i : Nat) (b : Rat) : Prop := ∀ m, f ≤ m → m ≤ i → ∃ u, 0 ≤ u ∧ u ≤ 1 ∧ u ≤ b ∧ T (wv (c m) u) = true
def In (T : Rat → Bool) (c : Nat → Cv) (l u : Option Nat) (st : Bool) (i : Nat) (b : Rat) : Prop := (l.isSome || st) = true ∨ ∃ f, u = some f ∧ ch T c f i b
theorem In.mono {T : Rat → Bool} {c : Nat → Cv} {l u : Option Nat} {st : Bool} {i : Nat} {a b : Rat} (hab : a ≤ b) (h : In T c l u st i a) : In T c l u st i b := by
  rcases h with h | ⟨f, h, k⟩
  · exact .inl h
  · exact .inr ⟨f, h, fun m h1 h2 => by obtain ⟨u, u0, u1, u2, u3⟩ := k m h1 h2; exact ⟨u, u0, u1, by grind, u3⟩⟩
theorem runOk_of {T : Rat → Bool} {c : Nat → Cv} {f i : Nat} (h : ∀ m, f ≤ m → m ≤ i → T (bar (c m) (c i)).2 = true) : runOk T c f i = true := by
  unfold runOk
  rw [List.all_eq_true]
  intro m hm
  have := List.mem_range.mp hm
  exact h (f + m) (by omega) (by omega)
theorem runOk_to {T : Rat → Bool} {c : Nat → Cv} {f i : Nat} (h : runOk T c f i = true) : ∀ m, f ≤ m → m ≤ i → T (bar (c m) (c i)).2 = true := by
  unfold runOk at h
  rw [List.all_eq_true] at h
  intro m h1 h2
  have := h (m - f) (List.mem_range.mpr (by omega))
  have e : f + (m - f) = m := by omega
  rwa [e] at this
theorem In.next {T : Rat → Bool} (hT : DC T) {c : Nat → Cv} (hc : ∀ m, Cw (c m)) (ha : ∀ m m', (c m).1 = (c m').1) {l u : Option Nat} {st : Bool} {i : Nat} {b v : Rat} (h : In T c l u st i b) (hb : b ≤ v) (v0 : 0 ≤ v) (v1 : v ≤ 1) (t : T (wv (c (i + 1)) v) = true) : ∃ f, nxt T c i (fstv l u st i) = some f ∧ ch T c f (i + 1) v := by
  by_cases h1 : (l.isSome || st) = true
  · refine ⟨i + 1, ?_, fun m a b => ?_⟩
    · unfold fstv
      rw [if_pos h1]
      show (if runOk T c (i + 1) (i + 1) = true then some (i + 1) else none) = some (i + 1)
      rw [if_pos]
      refine runOk_of fun m a b => ?_
      obtain rfl : m = i + 1 := by omega
      exact bar_in hT (hc _) (hc _) rfl v0 Rat.le_refl v1 t t
    · obtain rfl : m = i + 1 := by omega
      exact ⟨v, v0, v1, Rat.le_refl, t⟩
  · rcases h with h | ⟨f, hu, k⟩
    · exact absurd h h1
    · refine ⟨f, ?_, fun m a b => ?_⟩
      · unfold fstv
        rw [if_neg h1, hu]
        show (if runOk T c f (i + 1) = true then some f else none) = some f
        rw [if_pos]
        refine runOk_of fun m a b => ?_
        by_cases e : m = i + 1
        · rw [e]
          exact bar_in hT (hc _) (hc _) rfl v0 Rat.le_refl v1 t t
        · obtain ⟨u, u0, u1, u2, u3⟩ := k m a (by omega)
          exact bar_in hT (hc _) (hc _) (ha _ _) u0 (by grind) v1 u3 t
      · by_cases e : m = i + 1
        · rw [e]
          exact ⟨v, v0, v1, Rat.le_refl, t⟩
        · obtain ⟨u, u0, u1, u2, u3⟩ := k m a (by omega)
          exact ⟨u, u0, u1, by grind, u3⟩
theorem cq_w (P Q : List Pt) (i k : Nat) : Cw (cq P Q i k) := crv_w _ _ _
theorem cq_a (P Q : List Pt) (i i' k : Nat) : (cq P Q i k).1 = (cq P Q i' k).1 := rfl
section
variable {T : Rat → Bool} {bg : Bool} {P Q : List Pt}
/-- the beginning, as the table has it -/
def s0v (T : Rat → Bool) (bg : Bool) (P Q : List Pt) : Bool := !bg && T (ap (gp P 0) (gp Q 0))
def InU (T : Rat → Bool) (bg : Bool) (P Q : List Pt) (i j : Nat) (y : Rat) : Prop := In T (fun m => cq P Q m j) (tl T bg (s0v T bg P Q) P Q i j) (tu T bg (s0v T bg P Q) P Q i j) (stv (s0v T bg P Q) i j) i (y - (j : Rat))
def InL (T : Rat → Bool) (bg : Bool) (P Q : List Pt) (i j : Nat) (x : Rat) : Prop := In T (fun m => cq Q P m i) (tu T bg (s0v T bg P Q) P Q i j) (tl T bg (s0v T bg P Q) P Q i j) (stv (s0v T bg P Q) i j) j (x - (i : Rat))
theorem go_r (hT : DC T) {i j : Nat} {y y' : Rat} (h : InU T bg P Q i j y) (hy : y ≤ y') (y0 : (j : Rat) ≤ y') (y1 : y' ≤ (j : Rat) + 1) (t : T (sqd P Q ((i : Rat) + 1) y') = true) : (tu T bg (s0v T bg P Q) P Q (i + 1) j).isSome = true ∧ InU T bg P Q (i + 1) j y' ∧ ∀ x, InL T bg P Q (i + 1) j x := by
  have t' : T (wv (cq P Q (i + 1) j) (y' - (j : Rat))) = true := by
    rw [wv_up P Q (i + 1) j (by grind) (by grind)]
    have e : (j : Rat) + (y' - (j : Rat)) = y' := by grind
    have e2 : ((i + 1 : Nat) : Rat) = (i : Rat) + 1 := by simp
    rw [e, e2]
    exact t
  obtain ⟨f, hf, k⟩ := In.next hT (c := fun m => cq P Q m j) (fun m => cq_w _ _ _ _) (fun m m' => cq_a _ _ _ _ _) h (v := y' - (j : Rat)) (by grind) (by grind) (by grind) t'
  have e : tu T bg (s0v T bg P Q) P Q (i + 1) j = some f := by
    rw [tu_succ]
    exact hf
  refine ⟨by rw [e]; rfl, .inr ⟨f, e, k⟩, fun x => .inl ?_⟩
  rw [e]
  rfl
theorem go_u (hT : DC T) {i j : Nat} {x x' : Rat} (h : InL T bg P Q i j x) (hx : x ≤ x') (x0 : (i : Rat) ≤ x') (x1 : x' ≤ (i : Rat) + 1) (t : T (sqd P Q x' ((j : Rat) + 1)) = true) : (tl T bg (s0v T bg P Q) P Q i (j + 1)).isSome = true ∧ InL T bg P Q i (j + 1) x' ∧ ∀ y, InU T bg P Q i (j + 1) y := by
  have t' : T (wv (cq Q P (j + 1) i) (x' - (i : Rat))) = true := by
    rw [wv_lev P Q (j + 1) i (by grind) (by grind)]
    have e : (i : Rat) + (x' - (i : Rat)) = x' := by grind
    have e2 : ((j + 1 : Nat) : Rat) = (j : Rat) + 1 := by simp
    rw [e, e2]
    exact t
  obtain ⟨f, hf, k⟩ := In.next hT (c := fun m => cq Q P m i) (fun m => cq_w _ _ _ _) (fun m m' => cq_a _ _ _ _ _) h (v := x' - (i : Rat)) (by grind) (by grind) (by grind) t'
  have e : tl T bg (s0v T bg P Q) P Q i (j + 1) = some f := by
    rw [tl_succ]
    exact hf
  refine ⟨by rw [e]; rfl, .inr ⟨f, e, k⟩, fun x => .inl ?_⟩
  rw [e]
  rfl
theorem nat_of_le0 {i : Nat} (h : (i : Rat) ≤ 0) : i = 0 := by
  have : i ≤ 0 := by exact_mod_cast h
  omega
theorem Rc.comes (hT : DC T) {n : Nat} {x y : Rat} (h : Rc T bg P Q n x y) : ∀ i j : Nat, (i : Rat) ≤ x → x ≤ (i : Rat) + 1 → (j : Rat) ≤ y → y ≤ (j : Rat) + 1 → InU T bg P Q i j y ∧ InL T bg P Q i j x := by
  induction h with
  | @start y hb h0 h1 ht =>
    intro i j a b c d
    obtain rfl := nat_of_le0 a
    cases bg with
    | false =>
      rcases hb with hb | hb
      · cases hb
      subst hb
      obtain rfl := nat_of_le0 c
      have es : stv (s0v T false P Q) 0 0 = true := by
        have := sqd_ap P Q 0 0
        unfold stv s0v
        rw [show ((0 : Nat) : Rat) = 0 from rfl] at this
        rw [← this, ht]
        rfl
      refine ⟨.inl ?_, .inl ?_⟩ <;> rw [es] <;> simp
    | true =>
      have tw : T (wv (cq P Q 0 j) (y - (j : Rat))) = true := by
        rw [wv_up P Q 0 j (by grind) (by grind)]
        have e : (j : Rat) + (y - (j : Rat)) = y := by grind
        rw [e]
        exact ht
      have e : tu T true (s0v T true P Q) P Q 0 j = some 0 := by
        rw [tu_zero]
        unfold baseU
        rw [if_pos]
        rw [Bool.true_and]
        exact hT _ _ (lw_le (cq_w _ _ _ _) (by grind) (by grind)) tw
      refine ⟨.inr ⟨0, e, fun m _ hm => ?_⟩, .inl ?_⟩
      · obtain rfl : m = 0 := by omega
        exact ⟨_, by grind, by grind, Rat.le_refl, tw⟩
      · rw [e]
        rfl
  | @step n x y x' y' i0 j0 _ hi hj a b c d e f ht ih =>
    intro i j a' b' c' d'
    by_cases hx : (i : Rat) ≤ x
    · by_cases hy : (j : Rat) ≤ y
      · obtain ⟨u, v⟩ := ih i j hx (by grind) hy (by grind)
        exact ⟨In.mono (by grind) u, In.mono (by grind) v⟩
      · -- the level gate
        have ej : j = j0 + 1 := by
          have p1 : (j : Rat) ≤ (j0 : Rat) + 1 := by grind
          have p2 : (j0 : Rat) < (j : Rat) := by grind
          have q1 : j ≤ j0 + 1 := by exact_mod_cast p1
          have q2 : j0 < j := by exact_mod_cast p2
          omega
        subst ej
        have ec : ((j0 + 1 : Nat) : Rat) = (j0 : Rat) + 1 := by simp
        rw [ec] at c' d' hy
        have ey : y' = (j0 : Rat) + 1 := by grind
        obtain ⟨u, v⟩ := ih i j0 hx (by grind) d (by grind)
        obtain ⟨_, g1, g2⟩ := go_u hT v b a' b' (by rw [← ey]; exact ht)
        exact ⟨g2 _, g1⟩
    · have ei : i = i0 + 1 := by
        have p1 : (i : Rat) ≤ (i0 : Rat) + 1 := by grind
        have p2 : (i0 : Rat) < (i : Rat) := by grind
        have q1 : i ≤ i0 + 1 := by exact_mod_cast p1
        have q2 : i0 < i := by exact_mod_cast p2
        omega
      subst ei
      have ec : ((i0 + 1 : Nat) : Rat) = (i0 : Rat) + 1 := by simp
      rw [ec] at a' b' hx
      have ex : x' = (i0 : Rat) + 1 := by grind
      by_cases hy : (j : Rat) ≤ y
      · obtain ⟨u, v⟩ := ih i0 j a (by grind) hy (by grind)
        obtain ⟨_, g1, g2⟩ := go_r hT u e c' d' (by rw [← ex]; exact ht)
        exact ⟨g1, g2 _⟩
      · have ej : j = j0 + 1 := by
          have p1 : (j : Rat) ≤ (j0 : Rat) + 1 := by grind
          have p2 : (j0 : Rat) < (j : Rat) := by grind
          have q1 : j ≤ j0 + 1 := by exact_mod_cast p1
          have q2 : j0 < j := by exact_mod_cast p2
          omega
        subst ej
        have ec : ((j0 + 1 : Nat) : Rat) = (j0 : Rat) + 1 := by simp
        rw [ec] at c' d' hy
        have ey : y' = (j0 : Rat) + 1 := by grind
        obtain ⟨u, v⟩ := ih i0 j0 a (by grind) d (by grind)
        obtain ⟨_, g1, g2⟩ := go_r hT u e (by grind) (by grind) (by rw [← ex]; exact ht)
        obtain ⟨_, g3, g4⟩ := go_u hT (g2 ((i0 : Rat) + 1)) (x' := x') (by grind) (by rw [‹((i0 + 1 : Nat) : Rat) = (i0 : Rat) + 1›]; grind) (by rw [‹((i0 + 1 : Nat) : Rat) = (i0 : Rat) + 1›]; grind) (by rw [← ey]; exact ht)
        exact ⟨g4 _, g3⟩
end
end M
/-! The table's recursion finds walks only; walks joined to one another. -/
namespace M
section
variable {T : Rat → Bool} {bg : Bool} {P Q : List Pt}
theorem tu_pair (s0 : Bool) (j : Nat) : ∀ (i f : Nat), tu T bg s0 P Q i j = some f → ∀ k l, f ≤ k → k ≤ l → l ≤ i → T (bar (cq P Q k j) (cq P Q l j)).2 = true
  | 0, f, h, k, l, a, b, c => by
    obtain rfl : l = 0 := by omega
    obtain rfl : k = 0 := by omega
    rw [tu_zero] at h
    unfold baseU at h
    split at h
    · rename_i h1
      rw [Bool.and_eq_true] at h1
      rw [bar_self]
      exact h1.2
    · cases h
  | i + 1, f, h, k, l, a, b, c => by
    rw [tu_succ] at h
    obtain ⟨h1, h2⟩ := nxt_some h
    by_cases hl : l = i + 1
    · rw [hl]
      exact runOk_to h2 k a (by omega)
    · unfold fstv at h1
      split at h1
      · cases h1
        omega
      · exact tu_pair s0 j i f h1 k l a b (by omega)
theorem tl_pair (s0 : Bool) (i : Nat) : ∀ (j f : Nat), tl T bg s0 P Q i j = some f → ∀ k l, f ≤ k → k ≤ l → l ≤ j → T (bar (cq Q P k i) (cq Q P l i)).2 = true
  | 0, f, h, k, l, a, b, c => by
    rw [tl_zero] at h
    cases h
  | j + 1, f, h, k, l, a, b, c => by
    rw [tl_succ] at h
    obtain ⟨h1, h2⟩ := nxt_some h
    by_cases hl : l = j + 1
    · rw [hl]
      exact runOk_to h2 k a (by omega)
    · unfold fstv at h1
      split at h1
      · cases h1
        omega
      · exact tl_pair s0 i j f h1 k l a b (by omega)
theorem lows {S : Nat → Rat → Prop} {k : Nat} : ∀ d : Nat, (∀ l, k ≤ l → l ≤ k + d → ∃ u v, u ≤ v ∧ S k u ∧ S l v) → ∃ lo, S k lo ∧ ∀ l, k ≤ l → l ≤ k + d → ∃ v, lo ≤ v ∧ S l v
  | 0, h => by
    obtain ⟨u, v, a, b, c⟩ := h k (Nat.le_refl _) (Nat.le_refl _)
    refine ⟨u, b, fun l h1 h2 => ?_⟩
    have e : l = k := by omega
    rw [e]
    exact ⟨u, Rat.le_refl, b⟩
  | d + 1, h => by
    obtain ⟨lo, h1, h2⟩ := lows d (fun l a b => h l a (by omega))
    obtain ⟨u, v, a, b, c⟩ := h (k + (d + 1)) (by omega) (by omega)
    rcases Rat.le_total (a := lo) (b := u) with z | z
    · refine ⟨lo, h1, fun l x y => ?_⟩
      by_cases e : l = k + (d + 1)
      · rw [e]; exact ⟨v, by grind, c⟩
      · exact h2 l x (by omega)
    · refine ⟨u, b, fun l x y => ?_⟩
      by_cases e : l = k + (d + 1)
      · rw [e]; exact ⟨v, a, c⟩
      · obtain ⟨v', p, q⟩ := h2 l x (by omega)
        exact ⟨v', by grind, q⟩
/-- through a run of gates, never back -/
theorem through {S R : Nat → Rat → Prop} (conv : ∀ m a b x, S m a → S m b → a ≤ x → x ≤ b → S m x) {f i : Nat} (hp : ∀ k l, f ≤ k → k ≤ l → l ≤ i → ∃ u v, u ≤ v ∧ S k u ∧ S l v) (hb : ∀ t, S f t → R f t) (hs : ∀ m t t', f ≤ m → m < i → S m t → R m t → t ≤ t' → S (m + 1) t' → R (m + 1) t') : ∀ d : Nat, f + d ≤ i → ∃ t, S (f + d) t ∧ R (f + d) t ∧ ∀ l, f + d ≤ l → l ≤ i → ∃ v, t ≤ v ∧ S l v := by
  have low : ∀ k, f ≤ k → k ≤ i → ∃ lo, S k lo ∧ ∀ l, k ≤ l → l ≤ i → ∃ v, lo ≤ v ∧ S l v := by
    intro k h1 h2
    obtain ⟨lo, a, b⟩ := lows (S := S) (k := k) (i - k) (fun l x y => hp k l h1 x (by omega))
    exact ⟨lo, a, fun l x y => b l x (by omega)⟩
  intro d
  induction d with
  | zero =>
    intro h
    obtain ⟨lo, a, b⟩ := low f (Nat.le_refl _) h
    exact ⟨lo, a, hb _ a, b⟩
  | succ d ih =>
    intro h
    obtain ⟨t, a, b, c⟩ := ih (by omega)
    obtain ⟨lo, e, g⟩ := low (f + (d + 1)) (by omega) h
    rcases Rat.le_total (a := t) (b := lo) with z | z
    · exact ⟨lo, e, hs (f + d) t lo (by omega) (by omega) a b z e, g⟩
    · obtain ⟨v, p, q⟩ := c (f + (d + 1)) (by omega) h
      have st : S (f + (d + 1)) t := conv _ _ _ _ e q z p
      exact ⟨t, st, hs (f + d) t t (by omega) (by omega) a b Rat.le_refl st, fun l x y => c l (by omega) y⟩
def SU (T : Rat → Bool) (c : Nat → Cv) (m : Nat) (t : Rat) : Prop := 0 ≤ t ∧ t ≤ 1 ∧ T (wv (c m) t) = true
theorem SU.conv (hT : DC T) {c : Nat → Cv} (hc : ∀ m, Cw (c m)) : ∀ m a b x, SU T c m a → SU T c m b → a ≤ x → x ≤ b → SU T c m x := by
  rintro m a b x ⟨a0, a1, a2⟩ ⟨b0, b1, b2⟩ h1 h2
  exact ⟨by grind, by grind, wv_mid hT (hc m) a0 b1 h1 h2 a2 b2⟩
theorem SU.pair (hT : DC T) {c : Nat → Cv} (hc : ∀ m, Cw (c m)) (ha : ∀ m m', (c m).1 = (c m').1) {k l : Nat} (h : T (bar (c k) (c l)).2 = true) : ∃ u v, u ≤ v ∧ SU T c k u ∧ SU T c l v := by
  obtain ⟨u, v, a, b, d, e, f⟩ := bar_ex hT (hc k) (hc l) (ha k l) h
  exact ⟨u, v, b, ⟨a, by grind, e⟩, ⟨by grind, d, f⟩⟩
theorem zero01 : ((0 : Nat) : Rat) ≤ 0 ∧ (0 : Rat) ≤ ((0 : Nat) : Rat) + 1 := by
  have e : ((0 : Nat) : Rat) = 0 := rfl
  rw [e]
  constructor <;> grind
theorem cast_le {a b : Nat} (h : a ≤ b) : (a : Rat) ≤ (b : Rat) := by exact_mod_cast h
theorem cast_succ (a : Nat) : ((a + 1 : Nat) : Rat) = (a : Rat) + 1 := by simp
theorem st_start {i j : Nat} (h : stv (s0v T bg P Q) i j = true) : i = 0 ∧ j = 0 ∧ bg = false ∧ Rc T bg P Q 0 0 0 := by
  unfold stv s0v at h
  simp only [Bool.and_eq_true, decide_eq_true_eq, Bool.not_eq_true'] at h
  obtain ⟨⟨h1, h2⟩, h3, h4⟩ := h
  refine ⟨h3, h4, h1, .start (.inr rfl) Rat.le_refl ?_ ?_⟩
  · have := cast_le (Nat.zero_le (Q.length - 1))
    exact this
  · rw [← sqd_ap] at h2
    exact h2
theorem sound (hT : DC T) : ∀ N i j : Nat, i + j ≤ N → (∀ f, tu T bg (s0v T bg P Q) P Q i j = some f → i < P.length → j + 1 < Q.length → ∃ n t, 0 ≤ t ∧ t ≤ 1 ∧ Rc T bg P Q n (i : Rat) ((j : Rat) + t)) ∧ (∀ f, tl T bg (s0v T bg P Q) P Q i j = some f → i + 1 < P.length → j < Q.length → ∃ n t, 0 ≤ t ∧ t ≤ 1 ∧ Rc T bg P Q n ((i : Rat) + t) (j : Rat)) := by
  intro N
  induction N with
  | zero =>
    intro i j hij
    obtain rfl : i = 0 := by omega
    obtain rfl : j = 0 := by omega
    refine ⟨fun f h hi hj => ?_, fun f h _ _ => by rw [tl_zero] at h; cases h⟩
    obtain ⟨hf, hbg, _⟩ := tu_le 0 0 f h
    obtain rfl : f = 0 := by omega
    have hp := tu_pair _ 0 0 0 h 0 0 (Nat.le_refl _) (Nat.le_refl _) (Nat.le_refl _)
    obtain ⟨u, v, a, b, c, d, _⟩ := bar_ex hT (cq_w _ _ _ _) (cq_w _ _ _ _) (cq_a _ _ _ _ _) hp
    refine ⟨0, u, a, by grind, ?_⟩
    rw [wv_up P Q 0 0 a (by grind)] at d
    refine .start (.inl (hbg rfl)) (by grind) ?_ d
    have := cast_le (show 1 ≤ Q.length - 1 by omega)
    have e1 : ((0 : Nat) : Rat) = 0 := rfl
    have e2 : ((1 : Nat) : Rat) = 1 := rfl
    grind
  | succ N ih =>
    intro i j hij
    constructor
    · intro f h hi hj
      obtain ⟨hf, hbg, hlev⟩ := tu_le i j f h
      have hp := tu_pair (P := P) (Q := Q) (T := T) (bg := bg) _ j i f h
      have hth := through (S := SU T (fun m => cq P Q m j)) (R := fun m t => ∃ n, Rc T bg P Q n (m : Rat) ((j : Rat) + t)) (SU.conv hT (fun m => cq_w _ _ _ _)) (f := f) (i := i) (fun k l a b c => SU.pair hT (fun m => cq_w _ _ _ _) (fun m m' => cq_a _ _ _ _ _) (hp k l a b c)) ?_ ?_ (i - f) (by omega)
      · obtain ⟨t, ⟨t0, t1, _⟩, ⟨n, r⟩, _⟩ := hth
        have e : f + (i - f) = i := by omega
        rw [e] at r
        exact ⟨n, t, t0, t1, r⟩
      · rintro t ⟨t0, t1, tt⟩
        have tt' := tt
        dsimp only at tt
        rw [wv_up P Q f j t0 t1] at tt
        by_cases f0 : f = 0
        · subst f0
          refine ⟨0, .start (.inl (hbg rfl)) ?_ ?_ tt⟩
          · have := cast_le (Nat.zero_le j)
            have e1 : ((0 : Nat) : Rat) = 0 := rfl
            grind
          · have := cast_le (show j + 1 ≤ Q.length - 1 by omega)
            rw [cast_succ] at this
            grind
        · obtain ⟨g, rfl⟩ : ∃ g, f = g + 1 := ⟨f - 1, by omega⟩
          obtain ⟨n, x0, a0, a1, r⟩ : ∃ n x0, (g : Rat) ≤ x0 ∧ x0 ≤ (g : Rat) + 1 ∧ Rc T bg P Q n x0 (j : Rat) := by
            rcases hlev (by omega) with z | z
            · obtain ⟨f', hf'⟩ := Option.isSome_iff_exists.mp z
              obtain ⟨n, t, u0, u1, r⟩ := (ih g j (by omega)).2 f' hf' (by omega) (by omega)
              exact ⟨n, (g : Rat) + t, by grind, by grind, r⟩
            · obtain ⟨e1, e2, _, r⟩ := st_start z
              have e1 : g = 0 := e1
              subst e1 e2
              refine ⟨0, 0, Rat.le_refl, ?_, r⟩
              have e1 : ((0 : Nat) : Rat) = 0 := rfl
              rw [e1]
              grind
          have ec := cast_succ g
          refine ⟨n + 1, .step g j r (by omega) hj a0 (by grind) (by grind) Rat.le_refl (by grind) (by grind) tt⟩
      · rintro m t t' h1 h2 ⟨a0, a1, _⟩ ⟨n, r⟩ htt ⟨b0, b1, b2⟩
        dsimp only at b2
        rw [wv_up P Q (m + 1) j b0 b1] at b2
        have ec := cast_succ m
        refine ⟨n + 1, .step m j r (by omega) hj Rat.le_refl (by grind) (by grind) (by grind) (by grind) (by grind) b2⟩
    · intro f h hi hj
      obtain ⟨hf, f0, hlev⟩ := tl_le j i f h
      have hp := tl_pair (P := P) (Q := Q) (T := T) (bg := bg) _ i j f h
      have hth := through (S := SU T (fun m => cq Q P m i)) (R := fun m t => ∃ n, Rc T bg P Q n ((i : Rat) + t) (m : Rat)) (SU.conv hT (fun m => cq_w _ _ _ _)) (f := f) (i := j) (fun k l a b c => SU.pair hT (fun m => cq_w _ _ _ _) (fun m m' => cq_a _ _ _ _ _) (hp k l a b c)) ?_ ?_ (j - f) (by omega)
      · obtain ⟨t, ⟨t0, t1, _⟩, ⟨n, r⟩, _⟩ := hth
        have e : f + (j - f) = j := by omega
        rw [e] at r
        exact ⟨n, t, t0, t1, r⟩
      · rintro t ⟨t0, t1, tt⟩
        dsimp only at tt
        rw [wv_lev P Q f i t0 t1] at tt
        obtain ⟨g, rfl⟩ : ∃ g, f = g + 1 := ⟨f - 1, by omega⟩
        obtain ⟨n, y0, a0, a1, r⟩ : ∃ n y0, (g : Rat) ≤ y0 ∧ y0 ≤ (g : Rat) + 1 ∧ Rc T bg P Q n (i : Rat) y0 := by
          rcases hlev with z | z
          · obtain ⟨f', hf'⟩ := Option.isSome_iff_exists.mp z
            obtain ⟨n, t, u0, u1, r⟩ := (ih i g (by omega)).1 f' hf' (by omega) (by omega)
            exact ⟨n, (g : Rat) + t, by grind, by grind, r⟩
          · obtain ⟨e1, e2, _, r⟩ := st_start z
            have e2 : g = 0 := e2
            subst e1 e2
            refine ⟨0, 0, Rat.le_refl, ?_, r⟩
            have e1 : ((0 : Nat) : Rat) = 0 := rfl
            rw [e1]
            grind
        have ec := cast_succ g
        refine ⟨n + 1, .step i g r hi (by omega) Rat.le_refl (by grind) (by grind) a0 (by grind) (by grind) tt⟩
      · rintro m t t' h1 h2 ⟨a0, a1, _⟩ ⟨n, r⟩ htt ⟨b0, b1, b2⟩
        dsimp only at b2
        rw [wv_lev P Q (m + 1) i b0 b1] at b2
        have ec := cast_succ m
        refine ⟨n + 1, .step i m r hi (by omega) (by grind) (by grind) (by grind) Rat.le_refl (by grind) (by grind) b2⟩
end
theorem on_iff {T : Rat → Bool} (hT : DC T) {P Q : List Pt} (hP : 2 ≤ P.length) (hQ : 2 ≤ Q.length) : onOk T P Q = true ↔ ∃ n, Rc T false P Q n ((P.length - 1 : Nat) : Rat) ((Q.length - 1 : Nat) : Rat) := by
  obtain ⟨p, hp⟩ : ∃ p, P.length = p + 2 := ⟨P.length - 2, by omega⟩
  obtain ⟨q, hq⟩ : ∃ q, Q.length = q + 2 := ⟨Q.length - 2, by omega⟩
  have e1 : P.length - 1 = p + 1 := by omega
  have e2 : Q.length - 1 = q + 1 := by omega
  have e3 : P.length - 2 = p := by omega
  have e4 : Q.length - 2 = q := by omega
  have es : T (ap (gp P 0) (gp Q 0)) = s0v T false P Q := by simp [s0v]
  unfold onOk
  rw [es, e1, e2, e3, e4, Bool.and_eq_true, Bool.or_eq_true, Bool.or_eq_true]
  rw [← sqd_ap P Q (p + 1) (q + 1)]
  have c1 := cast_succ p
  have c2 := cast_succ q
  constructor
  · rintro ⟨h1, h2⟩
    obtain ⟨n, x, y, a0, a1, b0, b1, r⟩ : ∃ n x y, (p : Rat) ≤ x ∧ x ≤ (p : Rat) + 1 ∧ (q : Rat) ≤ y ∧ y ≤ (q : Rat) + 1 ∧ Rc T false P Q n x y := by
      rcases h2 with (z | z) | z
      · obtain ⟨e5, e6, _, r⟩ := st_start z
        subst e5 e6
        exact ⟨0, 0, 0, zero01.1, zero01.2, zero01.1, zero01.2, r⟩
      · obtain ⟨f, hf⟩ := Option.isSome_iff_exists.mp z
        obtain ⟨n, t, t0, t1, r⟩ := (sound hT (p + q) p q (Nat.le_refl _)).1 f hf (by omega) (by omega)
        exact ⟨n, _, _, Rat.le_refl, by grind, by grind, by grind, r⟩
      · obtain ⟨f, hf⟩ := Option.isSome_iff_exists.mp z
        obtain ⟨n, t, t0, t1, r⟩ := (sound hT (p + q) p q (Nat.le_refl _)).2 f hf (by omega) (by omega)
        exact ⟨n, _, _, by grind, by grind, Rat.le_refl, by grind, r⟩
    exact ⟨n + 1, .step p q r (by omega) (by omega) a0 (by grind) (by grind) b0 (by grind) (by grind) h1⟩
  · rintro ⟨n, r⟩
    refine ⟨r.ok, ?_⟩
    obtain ⟨u, v⟩ := r.comes hT p q (by grind) (by grind) (by grind) (by grind)
    rcases u with u | ⟨f, u, _⟩
    · rcases (Bool.or_eq_true _ _).mp u with u | u
      · exact .inr u
      · exact .inl (.inl u)
    · exact .inl (.inr (by rw [u]; rfl))
theorem part_iff {T : Rat → Bool} (hT : DC T) {P Q : List Pt} (hP : 2 ≤ P.length) (hQ : 2 ≤ Q.length) : partOk T P Q = true ↔ ∃ n y, Rc T true P Q n ((P.length - 1 : Nat) : Rat) y := by
  obtain ⟨p, hp⟩ : ∃ p, P.length = p + 2 := ⟨P.length - 2, by omega⟩
  have e1 : P.length - 1 = p + 1 := by omega
  have es : false = s0v T true P Q := by simp [s0v]
  unfold partOk
  rw [e1, List.any_eq_true]
  constructor
  · rintro ⟨j, hj, h⟩
    have hj := List.mem_range.mp hj
    rw [es] at h
    obtain ⟨f, hf⟩ := Option.isSome_iff_exists.mp h
    obtain ⟨n, t, t0, t1, r⟩ := (sound hT (p + 1 + j) (p + 1) j (Nat.le_refl _)).1 f hf (by omega) (by omega)
    exact ⟨n, _, r⟩
  · rintro ⟨n, y, r⟩
    have c1 := cast_succ p
    rw [c1] at r
    have hh : ∀ m x y, Rc T true P Q m x y → x = (p : Rat) + 1 → ∃ j, j + 1 < Q.length ∧ (tu T true (s0v T true P Q) P Q (p + 1) j).isSome = true := by
      intro m x y h hx
      cases h with
      | start _ _ _ _ =>
        exfalso
        have := cast_le (Nat.zero_le p)
        have e0 : ((0 : Nat) : Rat) = 0 := rfl
        grind
      | @step n x0 y0 _ _ i j r hi hj a b c d e f ht =>
        obtain ⟨u, v⟩ := (Rc.step i j r hi hj a b c d e f ht).comes hT p j (by grind) (by grind) (by grind) (by grind)
        obtain ⟨g, _⟩ := go_r hT u Rat.le_refl (by grind) (by grind) (by rw [← hx]; exact ht)
        exact ⟨j, hj, g⟩
    obtain ⟨j, hj, h⟩ := hh _ _ _ r rfl
    exact ⟨j, List.mem_range.mpr (by omega), by rw [es]; exact h⟩
/-! ## walks joined -/
/-- what two legs leave for the third side -/
def Tri (A B C : Rat → Bool) : Prop := ∀ u u' v v' : Rat, A (u * u + u' * u') = true → B (v * v + v' * v') = true → C ((u + v) * (u + v) + (u' + v') * (u' + v')) = true
theorem Tri.sq {A B C : Rat → Bool} (h : Tri A B C) {P Q R : List Pt} {x y z : Rat} (h1 : A (sqd P Q x y) = true) (h2 : B (sqd Q R y z) = true) : C (sqd P R x z) = true := by
  have := h _ _ _ _ h1 h2
  have e : sqd P R x z = (ax P x - ax Q y + (ax Q y - ax R z)) * (ax P x - ax Q y + (ax Q y - ax R z)) + (ay P x - ay Q y + (ay Q y - ay R z)) * (ay P x - ay Q y + (ay Q y - ay R z)) := by
    unfold sqd
    grind
  rw [e]
  exact this
/-- the step, as far as a place of the other line between -/
theorem part_of {a0 a1 a : Rat} (h0 : a0 ≤ a) (h1 : a ≤ a1) : ∃ l, 0 ≤ l ∧ l ≤ 1 ∧ a0 + l * (a1 - a0) = a := by
  by_cases e : a0 = a1
  · exact ⟨0, Rat.le_refl, by decide, by grind⟩
  · have hp : 0 < a1 - a0 := by grind
    have hne : a1 - a0 ≠ 0 := by grind
    have em : (a - a0) / (a1 - a0) * (a1 - a0) = a - a0 := Rat.div_mul_cancel hne
    generalize (a - a0) / (a1 - a0) = l at em
    refine ⟨l, ?_, ?_, by grind⟩
    · rcases Rat.le_total (a := 0) (b := l) with z | z
      · exact z
      · by_cases e0 : l = 0
        · rw [e0]; exact Rat.le_refl
        · have := Rat.mul_pos (show 0 < -l by grind) hp
          grind
    · rcases Rat.le_total (a := l) (b := 1) with z | z
      · exact z
      · by_cases e0 : l = 1
        · rw [e0]; exact Rat.le_refl
        · have := Rat.mul_pos (show 0 < l - 1 by grind) hp
          grind
theorem between {l a b : Rat} (l0 : 0 ≤ l) (l1 : l ≤ 1) (h : a ≤ b) : a ≤ a + l * (b - a) ∧ a + l * (b - a) ≤ b := by
  have q1 := Rat.mul_nonneg l0 (show 0 ≤ b - a by grind)
  have q2 := Rat.mul_nonneg (show 0 ≤ 1 - l by grind) (show 0 ≤ b - a by grind)
  constructor <;> grind
theorem Rc.join {A B C : Rat → Bool} (hA : DC A) (hB : DC B) (h3 : Tri A B C) {bg : Bool} {P Q R : List Pt} (hP : 2 ≤ P.length) (hR : 2 ≤ R.length) : ∀ (N n k : Nat) (x y z : Rat), n + k ≤ N → Rc A bg P Q n x y → Rc B false Q R k y z → ∃ m, Rc C bg P R m x z := by
  intro N
  induction N with
  | zero =>
    intro n k x y z hN h1 h2
    have hs := h3.sq h1.ok h2.ok
    obtain rfl : n = 0 := by omega
    obtain rfl : k = 0 := by omega
    cases h1 with
    | start _ _ _ _ =>
      cases h2 with
      | start hb z0 z1 _ => exact ⟨0, .start (.inr (by simpa using hb)) z0 z1 hs⟩
  | succ N ih =>
    intro n k x y z hN h1 h2
    have hs := h3.sq h1.ok h2.ok
    have h1' := h1
    have h2' := h2
    cases h1 with
    | start hb y0 y1 ht =>
      cases h2 with
      | start hb2 z0 z1 _ => exact ⟨0, .start (.inr (by simpa using hb2)) z0 z1 hs⟩
      | @step k y1' z1 _ _ i j r hi hj a b c d e f ht2 =>
        cases bg with
        | true =>
          have := r.nn
          refine ⟨0, .start (.inl rfl) (by grind) ?_ hs⟩
          have := cast_le (show j + 1 ≤ R.length - 1 by omega)
          rw [cast_succ] at this
          grind
        | false =>
          have hy : y = 0 := by simpa using hb
          have hn := r.nn
          have e0 : y1' = y := by grind
          rw [e0] at r
          obtain ⟨m, g⟩ := ih 0 k 0 y z1 (by omega) h1' r
          exact ⟨m + 1, .step 0 j g (by omega) hj zero01.1 Rat.le_refl zero01.2 d e f hs⟩
    | @step n x0 y0 _ _ i j r hi hj a b c d e f ht =>
      cases h2 with
      | start hb2 z0 z1 _ =>
        have hz : z = 0 := by simpa using hb2
        have hn := r.nn
        have e0 : y0 = 0 := by grind
        rw [e0] at r
        obtain ⟨m, g⟩ := ih n 0 x0 0 z (by omega) r h2'
        refine ⟨m + 1, .step i 0 g hi (by omega) a b c ?_ Rat.le_refl ?_ hs⟩
        · rw [hz]; exact zero01.1
        · rw [hz]; exact zero01.2
      | @step k y1 z1 _ _ i2 j2 r2 hi2 hj2 a2 b2 c2 d2 e2 f2 ht2 =>
        rcases Rat.le_total (a := y1) (b := y0) with w | w
        · obtain ⟨l, l0, l1, el⟩ := part_of w e
          obtain ⟨m1, m2⟩ := between l0 l1 e2
          have tm := sqd_mid Q R a2 b2 c2 d2 e2 f2 l0 l1 hB r2.ok ht2
          rw [el] at tm
          obtain ⟨m, g⟩ := ih n (k + 1) x0 y0 (z1 + l * (z - z1)) (by omega) r (.step i2 j2 r2 hi2 hj2 a2 w (by grind) d2 m1 (by grind) tm)
          exact ⟨m + 1, .step i j2 g hi hj2 a b c (by grind) m2 f2 hs⟩
        · obtain ⟨l, l0, l1, el⟩ := part_of w b2
          obtain ⟨m1, m2⟩ := between l0 l1 b
          have tm := sqd_mid P Q a b c d e f l0 l1 hA r.ok ht
          rw [el] at tm
          obtain ⟨m, g⟩ := ih (n + 1) k (x0 + l * (x - x0)) y1 z1 (by omega) (.step i j r hi hj a m1 (by grind) d w (by grind) tm) r2
          exact ⟨m + 1, .step i j2 g hi hj2 (by grind) m2 c d2 e2 f2 hs⟩
theorem Rc.cut {B : Rat → Bool} (hB : DC B) {Q R : List Pt} {k : Nat} {y' z' : Rat} (h : Rc B false Q R k y' z') : ∀ y, 0 ≤ y → y ≤ y' → ∃ m z, Rc B false Q R m y z := by
  induction h with
  | @start z hb z0 z1 ht =>
    intro y h0 h1
    have : y = 0 := by grind
    rw [this]
    exact ⟨0, z, .start hb z0 z1 ht⟩
  | @step n x y x' y' i j r hi hj a b c d e f ht ih =>
    intro w h0 h1
    rcases Rat.le_total (a := w) (b := x) with z | z
    · exact ih w h0 z
    · obtain ⟨l, l0, l1, el⟩ := part_of z h1
      obtain ⟨m1, m2⟩ := between l0 l1 e
      have tm := sqd_mid Q R a b c d e f l0 l1 hB r.ok ht
      rw [el] at tm
      exact ⟨n + 1, _, .step i j r hi hj a z (by grind) d m1 (by grind) tm⟩
theorem Rc.top {T : Rat → Bool} {bg : Bool} {P Q : List Pt} {n : Nat} {x y : Rat} (h : Rc T bg P Q n x y) : y ≤ ((Q.length - 1 : Nat) : Rat) := by
  cases h with
  | start _ _ h _ => exact h
  | step i j _ hi hj _ _ _ _ _ f _ =>
    have := cast_le (show j + 1 ≤ Q.length - 1 by omega)
    rw [cast_succ] at this
    grind
theorem on_join {A B C : Rat → Bool} (hA : DC A) (hB : DC B) (hC : DC C) (h3 : Tri A B C) {P Q R : List Pt} (hP : 2 ≤ P.length) (hQ : 2 ≤ Q.length) (hR : 2 ≤ R.length) (h1 : onOk A P Q = true) (h2 : onOk B Q R = true) : onOk C P R = true := by
  obtain ⟨n, r1⟩ := (on_iff hA hP hQ).mp h1
  obtain ⟨k, r2⟩ := (on_iff hB hQ hR).mp h2
  exact (on_iff hC hP hR).mpr (Rc.join hA hB h3 hP hR _ n k _ _ _ (Nat.le_refl _) r1 r2)
theorem part_join {A B C : Rat → Bool} (hA : DC A) (hB : DC B) (hC : DC C) (h3 : Tri A B C) {P Q R : List Pt} (hP : 2 ≤ P.length) (hQ : 2 ≤ Q.length) (hR : 2 ≤ R.length) (h1 : partOk A P Q = true) (h2 : onOk B Q R = true) : partOk C P R = true := by
  obtain ⟨n, y, r1⟩ := (part_iff hA hP hQ).mp h1
  obtain ⟨k, r2⟩ := (on_iff hB hQ hR).mp h2
  obtain ⟨k', z, r3⟩ := r2.cut hB y r1.nn.2 r1.top
  obtain ⟨m, g⟩ := Rc.join hA hB h3 hP hR _ n k' _ _ _ (Nat.le_refl _) r1 r3
  exact (part_iff hC hP hR).mpr ⟨m, z, g⟩
/-- a line with itself -/
theorem Rc.diag {T : Rat → Bool} (h0 : T 0 = true) (bg : Bool) (P : List Pt) : ∀ n : Nat, n < P.length → ∃ k, Rc T bg P P k (n : Rat) (n : Rat)
  | 0, h => by
    refine ⟨0, .start (.inr rfl) Rat.le_refl (cast_le (Nat.zero_le _)) ?_⟩
    have : sqd P P 0 0 = 0 := by unfold sqd; grind
    show T (sqd P P 0 0) = true
    rw [this]
    exact h0
  | n + 1, h => by
    obtain ⟨k, r⟩ := Rc.diag h0 bg P n (by omega)
    have c := cast_succ n
    refine ⟨k + 1, .step n n r h h Rat.le_refl (by grind) (by grind) Rat.le_refl (by grind) (by grind) ?_⟩
    have : ∀ x, sqd P P x x = 0 := fun x => by unfold sqd; grind
    rw [this]
    exact h0
theorem on_self {T : Rat → Bool} (hT : DC T) (h0 : T 0 = true) {P : List Pt} (hP : 2 ≤ P.length) : onOk T P P = true := (on_iff hT hP hP).mpr (Rc.diag h0 false P _ (by omega))
theorem part_self {T : Rat → Bool} (hT : DC T) (h0 : T 0 = true) {P : List Pt} (hP : 2 ≤ P.length) : partOk T P P = true := by
  obtain ⟨k, r⟩ := Rc.diag h0 true P (P.length - 1) (by omega)
  exact (part_iff hT hP hP).mpr ⟨k, _, r⟩
theorem on_mono {T T' : Rat → Bool} (hT : DC T) (hT' : DC T') (hm : ∀ q, T q = true → T' q = true) {P Q : List Pt} (hP : 2 ≤ P.length) (hQ : 2 ≤ Q.length) (h : onOk T P Q = true) : onOk T' P Q = true := by
  obtain ⟨n, r⟩ := (on_iff hT hP hQ).mp h
  exact (on_iff hT' hP hQ).mpr ⟨n, r.mono hm⟩
theorem part_mono {T T' : Rat → Bool} (hT : DC T) (hT' : DC T') (hm : ∀ q, T q = true → T' q = true) {P Q : List Pt} (hP : 2 ≤ P.length) (hQ : 2 ≤ Q.length) (h : partOk T P Q = true) : partOk T' P Q = true := by
  obtain ⟨n, y, r⟩ := (part_iff hT hP hQ).mp h
  exact (part_iff hT' hP hQ).mpr ⟨n, y, r.mono hm⟩
end M
/-! What is tested stands among the candidates; the shortest leash; three lines. -/
namespace M
theorem dc_tS (s : Rat) : DC (tS s) := by
  intro a b h1 h2
  unfold tS at *
  simp only [Bool.not_eq_true', decide_eq_false_iff_not] at *
  grind
theorem tS_iff {s q : Rat} : tS s q = true ↔ q ≤ s := by
  unfold tS
  simp only [Bool.not_eq_true', decide_eq_false_iff_not]
  grind
theorem dc_all : DC (fun _ => true) := fun _ _ _ _ => rfl
/-! ## candidates -/
theorem ap_sym (p q : Pt) : ap p q = ap q p := by
  unfold ap
  congr 1
  grind
theorem ap_self (p : Pt) : ap p p = 0 := by
  unfold ap
  simp
def Cd (P Q : List Pt) (r : Rat) : Prop := (∃ p ∈ P, ∃ q ∈ Q, r = ap p q) ∨ r ∈ strQ P Q
theorem Cd.c {P Q : List Pt} {r : Rat} (h : Cd P Q r) : r ∈ cands P Q := by
  unfold cands
  rcases h with ⟨p, hp, q, hq, rfl⟩ | h
  · exact List.mem_append_left _ (List.mem_append_left _ (List.mem_flatMap.mpr ⟨p, hp, List.mem_map.mpr ⟨q, hq, rfl⟩⟩))
  · exact List.mem_append_left _ (List.mem_append_right _ h)
theorem Cd.c' {P Q : List Pt} {r : Rat} (h : Cd Q P r) : r ∈ cands P Q := by
  unfold cands
  rcases h with ⟨q, hq, p, hp, rfl⟩ | h
  · rw [ap_sym]
    exact List.mem_append_left _ (List.mem_append_left _ (List.mem_flatMap.mpr ⟨p, hp, List.mem_map.mpr ⟨q, hq, rfl⟩⟩))
  · exact List.mem_append_right _ h
theorem stl_two {P : List Pt} (h : P ≠ []) : 2 ≤ (stl P).length := by
  unfold stl
  split
  · exact Nat.le_refl 2
  · have : P.length ≠ 0 := fun z => h (List.length_eq_zero_iff.mp z)
    omega
/-- the corners of a stretched line -/
theorem stl_get {P : List Pt} (h : P ≠ []) {i : Nat} (hi : i < (stl P).length) : (P.length = 1 ∧ gp (stl P) i = gp P 0) ∨ (stl P = P ∧ i < P.length) := by
  by_cases e : P.length = 1
  · left
    refine ⟨e, ?_⟩
    match P, e with
    | [p], _ =>
      have hi : i < 2 := hi
      have : i = 0 ∨ i = 1 := by omega
      rcases this with rfl | rfl <;> rfl
  · right
    have : stl P = P := by unfold stl; rw [if_neg e]
    rw [this] at hi ⊢
    exact ⟨rfl, hi⟩
theorem stl_in {P : List Pt} (h : P ≠ []) {i : Nat} (hi : i < (stl P).length) : ∃ i0, i0 < P.length ∧ gp (stl P) i = gp P i0 := by
  rcases stl_get h hi with ⟨a, b⟩ | ⟨a, b⟩
  · exact ⟨0, by omega, b⟩
  · exact ⟨i, b, by rw [a]⟩
theorem cd_ap {P Q : List Pt} (h1 : P ≠ []) (h2 : Q ≠ []) {i j : Nat} (hi : i < (stl P).length) (hj : j < (stl Q).length) : Cd P Q (ap (gp (stl P) i) (gp (stl Q) j)) := by
  obtain ⟨i0, a, b⟩ := stl_in h1 hi
  obtain ⟨j0, c, d⟩ := stl_in h2 hj
  exact .inl ⟨_, gp_mem a, _, gp_mem c, by rw [b, d]⟩
/-- a stretch without length -/
theorem crv_flat (c b : Pt) : crv c b b = (0, 0, (b.1 - c.1) * (b.1 - c.1) + (b.2 - c.2) * (b.2 - c.2)) := by
  unfold crv
  simp
theorem lw_flat (c b : Pt) : lw (crv c b b) = ap c b := by
  rw [crv_flat, ap_sym]
  unfold lw near wv ap
  rw [if_pos (.inl rfl)]
  simp only [Rat.intCast_zero]
  grind
theorem cd_lw {P Q : List Pt} (h1 : P ≠ []) (h2 : Q ≠ []) {i k : Nat} (hi : i < (stl P).length) (hk : k + 1 < (stl Q).length) : Cd P Q (lw (cq (stl P) (stl Q) i k)) := by
  obtain ⟨i0, a, b⟩ := stl_in h1 hi
  rcases stl_get h2 hk with ⟨c, d⟩ | ⟨c, d⟩
  · have e : gp (stl Q) k = gp Q 0 := by
      rcases stl_get h2 (show k < (stl Q).length by omega) with ⟨_, e⟩ | ⟨_, e⟩
      · exact e
      · obtain rfl : k = 0 := by omega
        match Q, c with
        | [q], _ => rfl
    unfold cq
    rw [d, e, lw_flat, b]
    exact .inl ⟨_, gp_mem a, _, gp_mem (by omega), rfl⟩
  · right
    rw [c]
    have : cq (stl P) Q i k = cq P Q i0 k := by unfold cq; rw [b]
    rw [this]
    unfold strQ strQ1
    exact List.mem_flatMap.mpr ⟨k, List.mem_range.mpr (by omega), List.mem_flatMap.mpr ⟨i0, List.mem_range.mpr a, List.mem_cons_self⟩⟩
theorem meet_comm (f l : Cv) : meet f l = meet l f := by
  unfold meet
  by_cases h : 2 * (f.2.1 - l.2.1) = 0
  · rw [if_pos h, if_pos (by omega)]
  · rw [if_neg h, if_neg (by omega), ← Rat.neg_divInt_neg]
    congr 2 <;> omega
theorem cd_meet {P Q : List Pt} (h1 : P ≠ []) (h2 : Q ≠ []) {f i k : Nat} (hf : f < i) (hi : i < (stl P).length) (hk : k + 1 < (stl Q).length) {m : Rat} (hm : meet (cq (stl P) (stl Q) f k) (cq (stl P) (stl Q) i k) = some m) (m0 : 0 ≤ m) (m1 : m ≤ 1) : Cd P Q (wv (cq (stl P) (stl Q) f k) m) := by
  rcases stl_get h1 hi with ⟨a, b⟩ | ⟨a, b⟩
  · exfalso
    have e : gp (stl P) f = gp P 0 := by
      rcases stl_get h1 (show f < (stl P).length by omega) with ⟨_, e⟩ | ⟨_, e⟩
      · exact e
      · obtain rfl : f = 0 := by omega
        match P, a with
        | [p], _ => rfl
    have : cq (stl P) (stl Q) f k = cq (stl P) (stl Q) i k := by unfold cq; rw [b, e]
    rw [this] at hm
    unfold meet at hm
    rw [if_pos (by omega)] at hm
    cases hm
  · rcases stl_get h2 hk with ⟨c, d⟩ | ⟨c, d⟩
    · exfalso
      have e : gp (stl Q) k = gp Q 0 := by
        rcases stl_get h2 (show k < (stl Q).length by omega) with ⟨_, e⟩ | ⟨_, e⟩
        · exact e
        · obtain rfl : k = 0 := by omega
          match Q, c with
          | [q], _ => rfl
      unfold cq at hm
      rw [d, e, crv_flat, crv_flat] at hm
      unfold meet at hm
      rw [if_pos (by rfl)] at hm
      cases hm
    · right
      rw [a, c] at hm ⊢
      have hw := meet_some (cq_a P Q f i k) hm
      rw [meet_comm] at hm
      rw [hw]
      unfold strQ
      refine List.mem_flatMap.mpr ⟨k, List.mem_range.mpr (by omega), List.mem_flatMap.mpr ⟨i, List.mem_range.mpr b, ?_⟩⟩
      unfold strQ1
      refine List.mem_cons_of_mem _ (List.mem_flatMap.mpr ⟨f, List.mem_range.mpr hf, ?_⟩)
      unfold meetQ
      have hle : m.num ≤ (m.den : Int) := by
        have := num_mul m
        have p : (0 : Rat) < ((m.den : Nat) : Rat) := Rat.natCast_pos.mpr m.den_pos
        refine Rat.intCast_le_intCast.mp ?_
        rw [this, Rat.intCast_natCast]
        have := Rat.mul_nonneg (show 0 ≤ 1 - m by grind) (Rat.le_of_lt p)
        grind
      rw [hm]
      show wv (cq P Q i k) m ∈ (if 0 ≤ m.num ∧ m.num ≤ (m.den : Int) then [wv (cq P Q i k) m] else [])
      rw [if_pos ⟨Rat.num_nonneg.mpr m0, hle⟩]
      exact List.mem_singleton.mpr rfl
theorem cd_bar {P Q : List Pt} (h1 : P ≠ []) (h2 : Q ≠ []) {f i k : Nat} (hf : f ≤ i) (hi : i < (stl P).length) (hk : k + 1 < (stl Q).length) : Cd P Q (bar (cq (stl P) (stl Q) f k) (cq (stl P) (stl Q) i k)).2 := by
  have a := cd_lw h1 h2 (show f < (stl P).length by omega) hk
  have b := cd_lw h1 h2 hi hk
  by_cases e : f = i
  · rw [e, bar_self]
    exact b
  · obtain ⟨f0, f1, _, _⟩ := near_spec (cq_w (stl P) (stl Q) f k)
    obtain ⟨l0, l1, _, _⟩ := near_spec (cq_w (stl P) (stl Q) i k)
    unfold bar
    split
    · split
      · rename_i m hm
        obtain ⟨x, y, z⟩ := crs_some hm
        exact cd_meet h1 h2 (by omega) hi hk z (by grind) (by grind)
      · split
        · exact a
        · exact b
    · show Cd P Q (rmax _ _)
      rcases rmax_or (wv (cq (stl P) (stl Q) f k) (near (cq (stl P) (stl Q) f k))) (wv (cq (stl P) (stl Q) i k) (near (cq (stl P) (stl Q) i k))) with z | z
      · rw [z]; exact a
      · rw [z]; exact b
/-! ## the answers hang on the candidates alone -/
theorem nxt_congr {T T' : Rat → Bool} {c : Nat → Cv} {i : Nat} (h : ∀ f, f ≤ i + 1 → T (bar (c f) (c (i + 1))).2 = T' (bar (c f) (c (i + 1))).2) (o : Option Nat) : nxt T c i o = nxt T' c i o := by
  cases o with
  | none => rfl
  | some f =>
    have : runOk T c f (i + 1) = runOk T' c f (i + 1) := by
      unfold runOk
      rw [Bool.eq_iff_iff, List.all_eq_true, List.all_eq_true]
      constructor <;> intro g m hm <;> have g := g m hm <;> have hm := List.mem_range.mp hm <;> have e := h (f + m) (by omega)
      · rw [← e]; exact g
      · rw [e]; exact g
    show (if runOk T c f (i + 1) = true then some f else none) = (if runOk T' c f (i + 1) = true then some f else none)
    rw [this]
section
variable {T T' : Rat → Bool} {P Q : List Pt}
theorem cell_congr (h1 : P ≠ []) (h2 : Q ≠ []) (h : ∀ q ∈ cands P Q, T q = T' q) (bg s0 : Bool) : ∀ N i j : Nat, i + j ≤ N → (i < (stl P).length → j + 1 < (stl Q).length → tu T bg s0 (stl P) (stl Q) i j = tu T' bg s0 (stl P) (stl Q) i j) ∧ (i + 1 < (stl P).length → j < (stl Q).length → tl T bg s0 (stl P) (stl Q) i j = tl T' bg s0 (stl P) (stl Q) i j) := by
  intro N
  induction N with
  | zero =>
    intro i j hij
    obtain rfl : i = 0 := by omega
    obtain rfl : j = 0 := by omega
    refine ⟨fun a b => ?_, fun _ _ => by rw [tl_zero, tl_zero]⟩
    rw [tu_zero, tu_zero]
    unfold baseU
    rw [h _ (cd_lw h1 h2 a b).c]
  | succ N ih =>
    intro i j hij
    constructor
    · intro a b
      cases i with
      | zero =>
        rw [tu_zero, tu_zero]
        unfold baseU
        rw [h _ (cd_lw h1 h2 a b).c]
      | succ i =>
        obtain ⟨x, y⟩ := ih i j (by omega)
        rw [tu_succ, tu_succ, x (by omega) b, y a (by omega)]
        exact nxt_congr (c := fun m => cq (stl P) (stl Q) m j) (fun f hf => h _ (cd_bar h1 h2 hf a b).c) _
    · intro a b
      cases j with
      | zero => rw [tl_zero, tl_zero]
      | succ j =>
        obtain ⟨x, y⟩ := ih i j (by omega)
        rw [tl_succ, tl_succ, x (by omega) b, y a (by omega)]
        exact nxt_congr (c := fun m => cq (stl Q) (stl P) m i) (fun f hf => h _ (cd_bar h2 h1 hf b a).c') _
theorem on_congr (h1 : P ≠ []) (h2 : Q ≠ []) (h : ∀ q ∈ cands P Q, T q = T' q) : onOk T (stl P) (stl Q) = onOk T' (stl P) (stl Q) := by
  have l1 := stl_two h1
  have l2 := stl_two h2
  have e1 := h _ (cd_ap h1 h2 (show (stl P).length - 1 < (stl P).length by omega) (show (stl Q).length - 1 < (stl Q).length by omega)).c
  have e2 := h _ (cd_ap h1 h2 (show 0 < (stl P).length by omega) (show 0 < (stl Q).length by omega)).c
  obtain ⟨x, y⟩ := cell_congr h1 h2 h false (T' (ap (gp (stl P) 0) (gp (stl Q) 0))) _ ((stl P).length - 2) ((stl Q).length - 2) (Nat.le_refl _)
  unfold onOk
  rw [e1, e2, x (by omega) (by omega), y (by omega) (by omega)]
theorem part_congr (h1 : P ≠ []) (h2 : Q ≠ []) (h : ∀ q ∈ cands P Q, T q = T' q) : partOk T (stl P) (stl Q) = partOk T' (stl P) (stl Q) := by
  have l1 := stl_two h1
  unfold partOk
  rw [Bool.eq_iff_iff, List.any_eq_true, List.any_eq_true]
  constructor <;> rintro ⟨j, hj, g⟩ <;> refine ⟨j, hj, ?_⟩ <;> have hj := List.mem_range.mp hj <;> have e := (cell_congr h1 h2 h true false _ ((stl P).length - 1) j (Nat.le_refl _)).1 (by omega) (by omega)
  · rw [← e]; exact g
  · rw [e]; exact g
end
theorem rc_right (bg : Bool) {P Q : List Pt} (hQ : 2 ≤ Q.length) : ∀ n, n < P.length → ∃ k, Rc (fun _ => true) bg P Q k (n : Rat) 0
  | 0, _ => ⟨0, .start (.inr rfl) Rat.le_refl (cast_le (Nat.zero_le _)) rfl⟩
  | n + 1, h => by
    obtain ⟨k, r⟩ := rc_right bg (P := P) hQ n (by omega)
    have c := cast_succ n
    exact ⟨k + 1, .step n 0 r h (by omega) Rat.le_refl (by grind) (by grind) zero01.1 Rat.le_refl zero01.2 rfl⟩
theorem rc_up (bg : Bool) {P Q : List Pt} (hP : 2 ≤ P.length) (hQ : 2 ≤ Q.length) : ∀ n, n < Q.length → ∃ k, Rc (fun _ => true) bg P Q k ((P.length - 1 : Nat) : Rat) (n : Rat)
  | 0, _ => rc_right bg hQ _ (by omega)
  | n + 1, h => by
    obtain ⟨k, r⟩ := rc_up bg hP hQ n (by omega)
    have c := cast_succ n
    obtain ⟨p, hp⟩ : ∃ p, P.length = p + 2 := ⟨P.length - 2, by omega⟩
    have e1 : P.length - 1 = p + 1 := by omega
    have c2 := cast_succ p
    rw [e1] at r ⊢
    exact ⟨k + 1, .step p n r (by omega) h (by grind) Rat.le_refl (by grind) Rat.le_refl (by grind) (by grind) rfl⟩
theorem on_all {P Q : List Pt} (hP : 2 ≤ P.length) (hQ : 2 ≤ Q.length) : onOk (fun _ => true) P Q = true := (on_iff dc_all hP hQ).mpr (rc_up false hP hQ _ (by omega))
theorem part_all {P Q : List Pt} (hP : 2 ≤ P.length) (hQ : 2 ≤ Q.length) : partOk (fun _ => true) P Q = true := by
  obtain ⟨k, r⟩ := rc_right true (P := P) hQ (P.length - 1) (by omega)
  exact (part_iff dc_all hP hQ).mpr ⟨k, 0, r⟩
theorem on_some {T : Rat → Bool} {P Q : List Pt} (h1 : P ≠ []) (h2 : Q ≠ []) (h : onOk T (stl P) (stl Q) = true) : ∃ q ∈ cands P Q, T q = true := by
  have l1 := stl_two h1
  have l2 := stl_two h2
  unfold onOk at h
  rw [Bool.and_eq_true] at h
  exact ⟨_, (cd_ap h1 h2 (show (stl P).length - 1 < (stl P).length by omega) (show (stl Q).length - 1 < (stl Q).length by omega)).c, h.1⟩
theorem part_some {T : Rat → Bool} {P Q : List Pt} (h1 : P ≠ []) (h2 : Q ≠ []) (h : partOk T (stl P) (stl Q) = true) : ∃ q ∈ cands P Q, T q = true := by
  have l1 := stl_two h1
  unfold partOk at h
  rw [List.any_eq_true] at h
  obtain ⟨j, hj, g⟩ := h
  have hj := List.mem_range.mp hj
  obtain ⟨p, hp⟩ : ∃ p, (stl P).length - 1 = p + 1 := ⟨(stl P).length - 2, by omega⟩
  rw [hp] at g
  obtain ⟨f, hf⟩ := Option.isSome_iff_exists.mp g
  obtain ⟨hle, _, _⟩ := tu_le _ _ _ hf
  have := tu_pair _ j _ _ hf f (p + 1) (Nat.le_refl _) hle (Nat.le_refl _)
  exact ⟨_, (cd_bar h1 h2 hle (by omega) (by omega)).c, this⟩
/-! ## hops -/
inductive Hc (T : Rat → Bool) (P Q : List Pt) : Nat → Nat → Nat → Prop
  | start : T (ap (gp P 0) (gp Q 0)) = true → Hc T P Q 0 0 0
  | step {n x y x' y' : Nat} : Hc T P Q n x y → x ≤ x' → x' ≤ x + 1 → y ≤ y' → y' ≤ y + 1 → T (ap (gp P x') (gp Q y')) = true → Hc T P Q (n + 1) x' y'
theorem Hc.ok {T : Rat → Bool} {P Q : List Pt} {n x y : Nat} (h : Hc T P Q n x y) : T (ap (gp P x) (gp Q y)) = true := by
  cases h with
  | start h => exact h
  | step _ _ _ _ _ h => exact h
theorem Hc.mono {T T' : Rat → Bool} (hm : ∀ q, T q = true → T' q = true) {P Q : List Pt} {n x y : Nat} (h : Hc T P Q n x y) : Hc T' P Q n x y := by
  induction h with
  | start a => exact .start (hm _ a)
  | step _ a b c d e ih => exact .step ih a b c d (hm _ e)
theorem hr_to {T : Rat → Bool} {P Q : List Pt} : ∀ x y : Nat, hr T P Q x y = true → ∃ n, Hc T P Q n x y
  | 0, 0, h => by
    rw [hr] at h
    exact ⟨0, .start h⟩
  | x + 1, 0, h => by
    rw [hr, Bool.and_eq_true] at h
    obtain ⟨n, r⟩ := hr_to x 0 h.2
    exact ⟨n + 1, .step r (by omega) (by omega) (by omega) (by omega) h.1⟩
  | 0, y + 1, h => by
    rw [hr, Bool.and_eq_true] at h
    obtain ⟨n, r⟩ := hr_to 0 y h.2
    exact ⟨n + 1, .step r (by omega) (by omega) (by omega) (by omega) h.1⟩
  | x + 1, y + 1, h => by
    rw [hr, Bool.and_eq_true, Bool.or_eq_true, Bool.or_eq_true] at h
    obtain ⟨h1, (h2 | h2) | h2⟩ := h
    · obtain ⟨n, r⟩ := hr_to x y h2
      exact ⟨n + 1, .step r (by omega) (by omega) (by omega) (by omega) h1⟩
    · obtain ⟨n, r⟩ := hr_to x (y + 1) h2
      exact ⟨n + 1, .step r (by omega) (by omega) (by omega) (by omega) h1⟩
    · obtain ⟨n, r⟩ := hr_to (x + 1) y h2
      exact ⟨n + 1, .step r (by omega) (by omega) (by omega) (by omega) h1⟩
theorem hr_of {T : Rat → Bool} {P Q : List Pt} {n x y : Nat} (h : Hc T P Q n x y) : hr T P Q x y = true := by
  induction h with
  | start a => rw [hr]; exact a
  | @step n x y x' y' _ a b c d e ih =>
    have hx : x' = x ∨ x' = x + 1 := by omega
    have hy : y' = y ∨ y' = y + 1 := by omega
    rcases hx with rfl | rfl
    · rcases hy with rfl | rfl
      · exact ih
      · cases x' with
        | zero => rw [hr, e, ih]; rfl
        | succ x' => rw [hr, e, ih]; simp
    · rcases hy with rfl | rfl
      · cases y' with
        | zero => rw [hr, e, ih]; rfl
        | succ y' => rw [hr, e, ih]; simp
      · rw [hr, e, ih]; simp
theorem hop_iff {T : Rat → Bool} {P Q : List Pt} : hopOk T P Q = true ↔ ∃ n, Hc T P Q n (P.length - 1) (Q.length - 1) := ⟨hr_to _ _, fun ⟨_, r⟩ => hr_of r⟩
theorem Hc.join {A B C : Rat → Bool} (h3 : Tri A B C) {P Q R : List Pt} : ∀ (N n k x y z : Nat), n + k ≤ N → Hc A P Q n x y → Hc B Q R k y z → ∃ m, Hc C P R m x z := by
  have hs : ∀ x y z : Nat, A (ap (gp P x) (gp Q y)) = true → B (ap (gp Q y) (gp R z)) = true → C (ap (gp P x) (gp R z)) = true := by
    intro x y z a b
    rw [← sqd_ap] at *
    exact h3.sq a b
  intro N
  induction N with
  | zero =>
    intro n k x y z hN h1 h2
    have hh := hs _ _ _ h1.ok h2.ok
    obtain rfl : n = 0 := by omega
    obtain rfl : k = 0 := by omega
    cases h1
    cases h2
    exact ⟨0, .start hh⟩
  | succ N ih =>
    intro n k x y z hN h1 h2
    have hh := hs _ _ _ h1.ok h2.ok
    have h1' := h1
    have h2' := h2
    cases h1 with
    | start a =>
      cases h2 with
      | start b => exact ⟨0, .start hh⟩
      | @step k y1 z1 _ _ r b c d e f =>
        obtain rfl : y1 = 0 := by omega
        obtain ⟨m, g⟩ := ih 0 k 0 0 z1 (by omega) h1' r
        exact ⟨m + 1, .step g (by omega) (by omega) d e hh⟩
    | @step n x0 y0 _ _ r b c d e f =>
      by_cases e0 : y0 = y
      · rw [e0] at r
        obtain ⟨m, g⟩ := ih n k x0 y z (by omega) r h2'
        exact ⟨m + 1, .step g b c (by omega) (by omega) hh⟩
      · cases h2 with
        | start _ => omega
        | @step k y1 z1 _ _ r2 b2 c2 d2 e2 f2 =>
          by_cases e1 : y1 = y
          · rw [e1] at r2
            obtain ⟨m, g⟩ := ih (n + 1) k x y z1 (by omega) h1' r2
            exact ⟨m + 1, .step g (by omega) (by omega) d2 e2 hh⟩
          · have e3 : y1 = y0 := by omega
            rw [e3] at r2
            obtain ⟨m, g⟩ := ih n k x0 y0 z1 (by omega) r r2
            exact ⟨m + 1, .step g b c d2 e2 hh⟩
theorem hr_congr {T T' : Rat → Bool} {P Q : List Pt} (h : ∀ x y, x < P.length → y < Q.length → T (ap (gp P x) (gp Q y)) = T' (ap (gp P x) (gp Q y))) : ∀ x y, x < P.length → y < Q.length → hr T P Q x y = hr T' P Q x y
  | 0, 0, a, b => by rw [hr, hr, h _ _ a b]
  | x + 1, 0, a, b => by rw [hr, hr, h _ _ a b, hr_congr h x 0 (by omega) b]
  | 0, y + 1, a, b => by rw [hr, hr, h _ _ a b, hr_congr h 0 y a (by omega)]
  | x + 1, y + 1, a, b => by rw [hr, hr, h _ _ a b, hr_congr h x y (by omega) (by omega), hr_congr h x (y + 1) (by omega) b, hr_congr h (x + 1) y a (by omega)]
theorem hc_right {P Q : List Pt} : ∀ n, Hc (fun _ => true) P Q n n 0
  | 0 => .start rfl
  | n + 1 => .step (hc_right n) (by omega) (by omega) (by omega) (by omega) rfl
theorem hc_up {P Q : List Pt} (k : Nat) : ∀ n, ∃ m, Hc (fun _ => true) P Q m k n
  | 0 => ⟨k, hc_right k⟩
  | n + 1 => by
    obtain ⟨m, r⟩ := hc_up k n
    exact ⟨m + 1, .step r (by omega) (by omega) (by omega) (by omega) rfl⟩
theorem hc_diag {T : Rat → Bool} (h0 : T 0 = true) {P : List Pt} : ∀ n, Hc T P P n n n
  | 0 => .start (by rw [ap_self]; exact h0)
  | n + 1 => .step (hc_diag h0 n) (by omega) (by omega) (by omega) (by omega) (by rw [ap_self]; exact h0)
/-! ## a way to go, and the leash that the search finds -/
structure Way (F : (Rat → Bool) → List Pt → List Pt → Bool) : Prop where
  congr : ∀ {T T' : Rat → Bool} {P Q : List Pt}, P ≠ [] → Q ≠ [] → (∀ q ∈ cands P Q, T q = T' q) → F T P Q = F T' P Q
  all : ∀ {P Q : List Pt}, P ≠ [] → Q ≠ [] → F (fun _ => true) P Q = true
  mono : ∀ {T T' : Rat → Bool} {P Q : List Pt}, P ≠ [] → Q ≠ [] → DC T → DC T' → (∀ q, T q = true → T' q = true) → F T P Q = true → F T' P Q = true
  some : ∀ {T : Rat → Bool} {P Q : List Pt}, P ≠ [] → Q ≠ [] → F T P Q = true → ∃ q ∈ cands P Q, T q = true
  self : ∀ {T : Rat → Bool} {P : List Pt}, P ≠ [] → DC T → T 0 = true → F T P P = true
theorem on_way : Way fun T P Q => onOk T (stl P) (stl Q) where
  congr := on_congr
  all h1 h2 := on_all (stl_two h1) (stl_two h2)
  mono h1 h2 a b c d := on_mono a b c (stl_two h1) (stl_two h2) d
  some := on_some
  self h a b := on_self a b (stl_two h)
theorem part_way : Way fun T P Q => partOk T (stl P) (stl Q) where
  congr := part_congr
  all h1 h2 := part_all (stl_two h1) (stl_two h2)
  mono h1 h2 a b c d := part_mono a b c (stl_two h1) (stl_two h2) d
  some := part_some
  self h a b := part_self a b (stl_two h)
theorem hop_way : Way hopOk where
  congr {T T' P Q} h1 h2 h := by
    have l1 : 0 < P.length := List.length_pos_iff.mpr h1
    have l2 : 0 < Q.length := List.length_pos_iff.mpr h2
    exact hr_congr (fun x y a b => h _ (Cd.c (.inl ⟨_, gp_mem a, _, gp_mem b, rfl⟩))) _ _ (by omega) (by omega)
  all {P Q} _ _ := hop_iff.mpr (hc_up _ _)
  mono _ _ _ _ c d := by
    obtain ⟨n, r⟩ := hop_iff.mp d
    exact hop_iff.mpr ⟨n, r.mono c⟩
  some {T P Q} h1 h2 h := by
    have l1 : 0 < P.length := List.length_pos_iff.mpr h1
    have l2 : 0 < Q.length := List.length_pos_iff.mpr h2
    obtain ⟨n, r⟩ := hop_iff.mp h
    exact ⟨_, Cd.c (.inl ⟨_, gp_mem (by omega), _, gp_mem (by omega), rfl⟩), r.ok⟩
  self _ _ h0 := hop_iff.mpr ⟨_, hc_diag h0 _⟩
/-- what the search is known to have found -/
def LRF (F : (Rat → Bool) → List Pt → List Pt → Bool) (P Q : List Pt) (r : Rat) : Prop := ∃ (zs : List Rat) (i : Nat), srt zs ∧ (∀ q, q ∈ zs ↔ q ∈ cands P Q) ∧ zs[i]? = some r ∧ (i = 0 ∨ ∃ q, zs[i - 1]? = some q ∧ F (tS q) P Q = false) ∧ (i + 1 = zs.length ∨ F (tS r) P Q = true)
theorem srt_lt {zs : List Rat} (h : srt zs) {i j : Nat} {a b : Rat} (ha : zs[i]? = some a) (hb : zs[j]? = some b) (hij : i < j) : a < b := by
  obtain ⟨h1, e1⟩ := List.getElem?_eq_some_iff.mp ha
  obtain ⟨h2, e2⟩ := List.getElem?_eq_some_iff.mp hb
  have := List.pairwise_iff_getElem.mp h i j h1 h2 hij
  rw [e1, e2] at this
  exact this
/-- the greatest of those that pass -/
theorem greatest {T : Rat → Bool} : ∀ {zs : List Rat}, (∃ q ∈ zs, T q = true) → ∃ s ∈ zs, T s = true ∧ ∀ q ∈ zs, T q = true → q ≤ s
  | [], h => by obtain ⟨q, hq, _⟩ := h; cases hq
  | a :: zs, h => by
    by_cases h2 : ∃ q ∈ zs, T q = true
    · obtain ⟨s, hs, ht, hm⟩ := greatest h2
      by_cases ha : T a = true ∧ s ≤ a
      · refine ⟨a, List.mem_cons_self, ha.1, fun q hq hT => ?_⟩
        rcases List.mem_cons.mp hq with z | z
        · rw [z]; exact Rat.le_refl
        · have := hm q z hT
          grind
      · refine ⟨s, List.mem_cons_of_mem _ hs, ht, fun q hq hT => ?_⟩
        rcases List.mem_cons.mp hq with z | z
        · subst z
          rcases Rat.le_total (a := q) (b := s) with y | y
          · exact y
          · exact absurd ⟨hT, y⟩ ha
        · exact hm q z hT
    · obtain ⟨q, hq, hT⟩ := h
      rcases List.mem_cons.mp hq with z | z
      · subst z
        refine ⟨q, List.mem_cons_self, hT, fun w hw hT' => ?_⟩
        rcases List.mem_cons.mp hw with z | z
        · rw [z]; exact Rat.le_refl
        · exact absurd ⟨w, z, hT'⟩ h2
      · exact absurd ⟨q, z, hT⟩ h2
section
variable {F : (Rat → Bool) → List Pt → List Pt → Bool} {P Q : List Pt} {r : Rat}
theorem lr_true (W : Way F) (h1 : P ≠ []) (h2 : Q ≠ []) (h : LRF F P Q r) : F (tS r) P Q = true := by
  obtain ⟨zs, i, s, m, hi, _, hr⟩ := h
  rcases hr with hr | hr
  · have e : F (tS r) P Q = F (fun _ => true) P Q := W.congr h1 h2 fun q hq => by
      obtain ⟨j, hj⟩ := List.getElem?_of_mem ((m q).mpr hq)
      have hjl := (List.getElem?_eq_some_iff.mp hj).1
      rw [tS_iff.mpr]
      by_cases e : j = i
      · rw [e, hi] at hj
        cases hj
        exact Rat.le_refl
      · have := srt_lt s hj hi (by omega)
        grind
    rw [e]
    exact W.all h1 h2
  · exact hr
theorem lr_le (W : Way F) (h1 : P ≠ []) (h2 : Q ≠ []) (h : LRF F P Q r) {T : Rat → Bool} (hT : DC T) (hF : F T P Q = true) : T r = true := by
  obtain ⟨zs, i, s, m, hi, hl, _⟩ := h
  obtain ⟨t, ht, tt, tm⟩ := greatest (W.some h1 h2 hF)
  have e : F (tS t) P Q = F T P Q := W.congr h1 h2 fun q hq => by
    rw [Bool.eq_iff_iff, tS_iff]
    exact ⟨fun h => hT _ _ h tt, fun h => tm q hq h⟩
  rw [hF] at e
  obtain ⟨j, hj⟩ := List.getElem?_of_mem ((m t).mpr ht)
  refine hT _ _ ?_ tt
  by_cases hij : i ≤ j
  · by_cases e2 : i = j
    · rw [e2, hj] at hi
      cases hi
      exact Rat.le_refl
    · have := srt_lt s hi hj (by omega)
      grind
  · rcases hl with hl | ⟨q, hq, hf⟩
    · omega
    · exfalso
      have htq : t ≤ q := by
        by_cases e2 : j = i - 1
        · rw [e2, hq] at hj
          cases hj
          exact Rat.le_refl
        · have := srt_lt s hj hq (by omega)
          grind
      have := W.mono h1 h2 (dc_tS t) (dc_tS q) (fun x hx => tS_iff.mpr (by have := tS_iff.mp hx; grind)) e
      rw [hf] at this
      cases this
theorem lr_self (W : Way F) (h1 : P ≠ []) (hpos : ∀ q ∈ cands P P, 0 ≤ q) (h : LRF F P P r) : r = 0 := by
  have a := tS_iff.mp (lr_le W h1 h1 h (dc_tS 0) (W.self h1 (dc_tS 0) (tS_iff.mpr Rat.le_refl)))
  obtain ⟨zs, i, s, m, hi, hl, _⟩ := h
  have b := hpos r ((m r).mp (List.mem_of_getElem? hi))
  grind
end
noncomputable def nlT (a b : Rat) : Rat → Bool := fun l => @decide (NL l a b) (Classical.propDecidable _)
theorem nlT_iff {a b l : Rat} : nlT a b l = true ↔ NL l a b := ⟨fun h => @of_decide_eq_true _ (Classical.propDecidable _) h, fun h => @decide_eq_true _ (Classical.propDecidable _) h⟩
theorem NL.dc {a b : Rat} (ha : 0 ≤ a) (hb : 0 ≤ b) : DC (nlT a b) := by
  intro l l' h1 h2
  have h2 := nlT_iff.mp h2
  refine nlT_iff.mpr ?_
  unfold NL at *
  by_cases h : l ≤ a + b
  · exact .inl h
  · right
    rcases h2 with h2 | h2
    · exfalso; grind
    · have := Rat.mul_nonneg (show 0 ≤ l' - l by grind) (show 0 ≤ (l' - a - b) + (l - a - b) by grind)
      grind
theorem NL.tri (a b : Rat) : Tri (tS a) (tS b) (nlT a b) := by
  intro u u' v v' h1 h2
  have h1 := tS_iff.mp h1
  have h2 := tS_iff.mp h2
  refine nlT_iff.mpr ?_
  unfold NL
  generalize hU : u * u + u' * u' = U at h1
  generalize hV : v * v + v' * v' = V at h2
  have u0 : 0 ≤ U := by
    have := rsq_nonneg u
    have := rsq_nonneg u'
    grind
  have v0 : 0 ≤ V := by
    have := rsq_nonneg v
    have := rsq_nonneg v'
    grind
  generalize hD : u * v + u' * v' = D
  have e : (u + v) * (u + v) + (u' + v') * (u' + v') = U + V + 2 * D := by grind
  rw [e]
  have cs : D * D ≤ U * V := by
    have := rsq_nonneg (u * v' - u' * v)
    have e2 : U * V - D * D = (u * v' - u' * v) * (u * v' - u' * v) := by
      rw [← hU, ← hV, ← hD]
      grind
    clear hU hV hD e
    generalize (u * v' - u' * v) * (u * v' - u' * v) = X at *
    grind
  have ab : U * V ≤ a * b := by
    have p := Rat.mul_nonneg (show 0 ≤ a - U by grind) (show 0 ≤ b by grind)
    have q := Rat.mul_nonneg u0 (show 0 ≤ b - V by grind)
    grind
  by_cases h : U + V + 2 * D ≤ a + b
  · exact .inl h
  · right
    have p := Rat.mul_nonneg (show 0 ≤ 2 * D - (U + V + 2 * D - a - b) by grind) (show 0 ≤ 2 * D + (U + V + 2 * D - a - b) by grind)
    grind
/-- three lines -/
theorem three {F1 F2 F3 : (Rat → Bool) → List Pt → List Pt → Bool} (W1 : Way F1) (W2 : Way F2) (W3 : Way F3) {P Q R : List Pt} (h1 : P ≠ []) (h2 : Q ≠ []) (h3 : R ≠ []) (hj : ∀ {A B C : Rat → Bool}, DC A → DC B → DC C → Tri A B C → F1 A P Q = true → F2 B Q R = true → F3 C P R = true) (p1 : ∀ q ∈ cands P Q, 0 ≤ q) (p2 : ∀ q ∈ cands Q R, 0 ≤ q) {l a b : Rat} (hl : LRF F3 P R l) (ha : LRF F1 P Q a) (hb : LRF F2 Q R b) : NL l a b := by
  have ta := lr_true W1 h1 h2 ha
  have tb := lr_true W2 h2 h3 hb
  have a0 : 0 ≤ a := by
    obtain ⟨zs, i, s, m, hi, _, _⟩ := ha
    exact p1 _ ((m a).mp (List.mem_of_getElem? hi))
  have b0 : 0 ≤ b := by
    obtain ⟨zs, i, s, m, hi, _, _⟩ := hb
    exact p2 _ ((m b).mp (List.mem_of_getElem? hi))
  have := hj (dc_tS a) (dc_tS b) (NL.dc a0 b0) (NL.tri a b) ta tb
  exact nlT_iff.mp (lr_le W3 h1 h3 hl (NL.dc a0 b0) this)
theorem three_on {P Q R : List Pt} (h1 : P ≠ []) (h2 : Q ≠ []) (h3 : R ≠ []) (p1 : ∀ q ∈ cands P Q, 0 ≤ q) (p2 : ∀ q ∈ cands Q R, 0 ≤ q) {l a b : Rat} (hl : LRF (fun T P Q => onOk T (stl P) (stl Q)) P R l) (ha : LRF (fun T P Q => onOk T (stl P) (stl Q)) P Q a) (hb : LRF (fun T P Q => onOk T (stl P) (stl Q)) Q R b) : NL l a b :=
  three on_way on_way on_way h1 h2 h3 (fun hA hB hC t x y => on_join hA hB hC t (stl_two h1) (stl_two h2) (stl_two h3) x y) p1 p2 hl ha hb
theorem three_part {P Q R : List Pt} (h1 : P ≠ []) (h2 : Q ≠ []) (h3 : R ≠ []) (p1 : ∀ q ∈ cands P Q, 0 ≤ q) (p2 : ∀ q ∈ cands Q R, 0 ≤ q) {l a b : Rat} (hl : LRF (fun T P Q => partOk T (stl P) (stl Q)) P R l) (ha : LRF (fun T P Q => partOk T (stl P) (stl Q)) P Q a) (hb : LRF (fun T P Q => onOk T (stl P) (stl Q)) Q R b) : NL l a b :=
  three part_way on_way part_way h1 h2 h3 (fun hA hB hC t x y => part_join hA hB hC t (stl_two h1) (stl_two h2) (stl_two h3) x y) p1 p2 hl ha hb
theorem three_hop {P Q R : List Pt} (h1 : P ≠ []) (h2 : Q ≠ []) (h3 : R ≠ []) (p1 : ∀ q ∈ cands P Q, 0 ≤ q) (p2 : ∀ q ∈ cands Q R, 0 ≤ q) {l a b : Rat} (hl : LRF hopOk P R l) (ha : LRF hopOk P Q a) (hb : LRF hopOk Q R b) : NL l a b := by
  refine three hop_way hop_way hop_way h1 h2 h3 (fun hA hB hC t x y => ?_) p1 p2 hl ha hb
  obtain ⟨n, r1⟩ := hop_iff.mp x
  obtain ⟨k, r2⟩ := hop_iff.mp y
  exact hop_iff.mpr (Hc.join t _ n k _ _ _ (Nat.le_refl _) r1 r2)
/-! ## no candidate is below nought -/
theorem ap_nonneg (p q : Pt) : 0 ≤ ap p q := by
  unfold ap
  have := sq_nonneg (p.1 - q.1)
  have := sq_nonneg (p.2 - q.2)
  exact_mod_cast (show 0 ≤ (p.1 - q.1) * (p.1 - q.1) + (p.2 - q.2) * (p.2 - q.2) by omega)
theorem cq_nonneg (P Q : List Pt) (i k : Nat) (t : Rat) : 0 ≤ wv (cq P Q i k) t := by
  unfold cq
  rw [crv_wv]
  generalize (((gp P i).1 : Rat) - (((gp Q k).1 : Rat) + t * (((gp Q (k + 1)).1 : Rat) - ((gp Q k).1 : Rat)))) = x
  generalize (((gp P i).2 : Rat) - (((gp Q k).2 : Rat) + t * (((gp Q (k + 1)).2 : Rat) - ((gp Q k).2 : Rat)))) = y
  have := rsq_nonneg x
  have := rsq_nonneg y
  grind
theorem strQ_nonneg {P Q : List Pt} {q : Rat} (h : q ∈ strQ P Q) : 0 ≤ q := by
  unfold strQ at h
  obtain ⟨k, hk, h⟩ := List.mem_flatMap.mp h
  obtain ⟨i, hi, h⟩ := List.mem_flatMap.mp h
  unfold strQ1 at h
  rcases List.mem_cons.mp h with h | h
  · rw [h]
    exact cq_nonneg _ _ _ _ _
  · obtain ⟨j, hj, h⟩ := List.mem_flatMap.mp h
    unfold meetQ at h
    split at h
    · split at h
      · rw [List.mem_singleton.mp h]
        exact cq_nonneg _ _ _ _ _
      · cases h
    · cases h
theorem cands_nonneg (P Q : List Pt) : ∀ q ∈ cands P Q, 0 ≤ q := by
  intro q h
  unfold cands at h
  rcases List.mem_append.mp h with h | h
  · rcases List.mem_append.mp h with h | h
    · obtain ⟨p, hp, h⟩ := List.mem_flatMap.mp h
      obtain ⟨q', hq, rfl⟩ := List.mem_map.mp h
      exact ap_nonneg _ _
    · exact strQ_nonneg h
  · exact strQ_nonneg h
/-- where each leash passes (a line with itself, going freely) -/
theorem lr_free {F : (Rat → Bool) → List Pt → List Pt → Bool} {P : List Pt} {r : Rat} (h1 : P ≠ []) (ht : ∀ q, F (tS q) P P = true) (h : LRF F P P r) : r = 0 := by
  obtain ⟨zs, i, s, m, hi, hl, _⟩ := h
  have b := cands_nonneg P P r ((m r).mp (List.mem_of_getElem? hi))
  obtain rfl : i = 0 := by
    rcases hl with z | ⟨q, _, z⟩
    · exact z
    · rw [ht q] at z
      cases z
  have l1 : 0 < P.length := List.length_pos_iff.mpr h1
  have hz : (0 : Rat) ∈ zs := (m 0).mpr (Cd.c (.inl ⟨_, gp_mem l1, _, gp_mem l1, (ap_self _).symm⟩))
  obtain ⟨j, hj⟩ := List.getElem?_of_mem hz
  by_cases e : j = 0
  · rw [e, hi] at hj
    cases hj
    rfl
  · have := srt_lt s hi hj (by omega)
    grind
end M
namespace G
open PySem PySem.Spec PyProof.Rows L2 DL M
section
variable {P : Program} {w : World} {K : PySem.W.Frag} {mg : Str → Option Value} {base : Heap}
def spTake : Sp := fun vs H Q _ => ∃ (p : Addr) (n m : Int), vs = [.ref p, .int m] ∧ H p = some (.lst [.int n]) ∧ 0 ≤ n ∧ Sz 1000 n ∧ 0 < m ∧ Sz 1000 m ∧ ∀ d n' : Int, 0 ≤ d → d < m → 0 ≤ n' → Sz 1000 n' → Q (.int d) (upd H p (.lst [.int n']))
theorem sc_take : FnScope ["pool", "many", "digit"] ["pool", "many"] (defScope s__law_take) := ⟨rfl, rfl, rfl, by decide +kernel, rfl, by decide +kernel, by decide +kernel⟩
theorem ok_take (T : Txt K mg) : ∃ fd, FunD K "_law_take" "_law_take" (defArgs s__law_take) (defBody s__law_take) (defScope s__law_take) [] [] (He.ga K "_law_take") fd ∧ FnOk P w K mg base CX0 1 (He.ga K "_law_take") fd ["pool", "many"] spTake := by
  obtain ⟨fd, F⟩ := T.says.def_ 94 (d := d__law_take) rfl
  refine ⟨fd, F, FunD.ok (x := "_law_take") (qual := "_law_take") (params := defArgs s__law_take) (body := defBody s__law_take) (scope := defScope s__law_take) F sc_take (fun vs H Q E h => ?_) (fun cdv A outer s0 H vs Q E hr h => ?_)⟩
  · obtain ⟨p, n, m, rfl, _⟩ := h
    rfl
  · obtain ⟨p, n, m, rfl, hH, hn, zn, hm, zm, hq⟩ := h
    refine ⟨_, PSs.nox (pss_cons (ps_set (i := 2) sc_take.nd rfl (Or.inl rfl) (pe_op op_mod (pe_ix ix_list (pv 0) pe_int (fun _ _ => rfl)) (pv 1)) (by rfl))
      (pss_cons (ps_asg (pe_op op_fdivWN (pe_ix ix_list (pv 0) pe_int (fun _ _ => rfl)) (pv 1)) (pg_sub (pv 0) pe_int set_list))
      (pss_one (ps_ret (pv 2))))), ?_⟩
    have hat : atI [V.int n] (0 : Int) = some (.int n) := rfl
    have h1 := Int.emod_nonneg n (Int.ne_of_gt hm)
    have h2 := Int.emod_lt_of_pos n hm
    refine ⟨_, rfl, p, _, _, _, rfl, rfl, SqL.of hH, hat, _, rfl, _, _, rfl, rfl, hm, ?_⟩
    refine ⟨_, rfl, p, _, _, _, rfl, rfl, SqL.of hH, hat, _, rfl, _, _, rfl, rfl, divok zm (by decide) (by decide) (Int.ne_of_gt hm), ?_⟩
    refine ⟨_, rfl, p, _, _, 0, rfl, rfl, hH, rfl, ?_⟩
    refine ⟨_, rfl, ?_⟩
    have e : n.fdiv m = n / m := Int.fdiv_eq_ediv_of_nonneg _ (Int.le_of_lt hm)
    have h3 : 0 ≤ n / m := Int.ediv_nonneg hn (Int.le_of_lt hm)
    have h4 : n / m ≤ n := Int.ediv_le_self _ hn
    show Q (.int (n % m)) (upd H p (.lst [.int (n.fdiv m)]))
    rw [e]
    exact hq _ _ h1 h2 h3 (zn.of_le (by omega))
end
end G
namespace G
open PySem PySem.Spec PyProof.Rows L2 DL M
section
variable {P : Program} {w : World} {K : PySem.W.Frag} {mg : Str → Option Value} {base : Heap}
def spCorner : Sp := fun vs H Q _ => ∃ (p : Addr) (n kind : Int), vs = [.ref p, .int kind] ∧ H p = some (.lst [.int n]) ∧ 0 ≤ n ∧ Sz 1000 n ∧ 0 ≤ kind ∧ kind ≤ 3 ∧ ∀ (n' x y : Int) (a : Addr), 0 ≤ n' → Sz 1000 n' → x.natAbs ≤ 10 ^ 12 → y.natAbs ≤ 10 ^ 12 → a ≠ p → H a = none → Q (.ref a) (upd (upd H p (.lst [.int n'])) a (.tup [.int x, .int y]))
theorem sc_corner : FnScope ["pool", "kind", "most"] ["pool", "kind"] (defScope s__law_corner) := ⟨rfl, rfl, rfl, by decide +kernel, rfl, by decide +kernel, by decide +kernel⟩
theorem ok_corner (T : Txt K mg) : ∃ fd, FunD K "_law_corner" "_law_corner" (defArgs s__law_corner) (defBody s__law_corner) (defScope s__law_corner) [] [] (He.ga K "_law_corner") fd ∧ FnOk P w K mg base CX0 2 (He.ga K "_law_corner") fd ["pool", "kind"] spCorner := by
  obtain ⟨fd, F⟩ := T.says.def_ 95 (d := d__law_corner) rfl
  obtain ⟨fdt, Ft, Gt⟩ := ok_take (P := P) (w := w) (base := base) T
  have bt : Binds K fdt ["pool", "many"] [] := FunD.bindsN (x := "_law_take") (qual := "_law_take") (params := defArgs s__law_take) (body := defBody s__law_take) (scope := defScope s__law_take) Ft (fun _ _ _ _ _ _ us hl => match us, hl with | [_, _], _ => rfl)
  refine ⟨fd, F, FunD.ok (x := "_law_corner") (qual := "_law_corner") (params := defArgs s__law_corner) (body := defBody s__law_corner) (scope := defScope s__law_corner) F sc_corner (fun vs H Q E h => ?_) (fun cdv A outer s0 H vs Q E hr h => ?_)⟩
  · obtain ⟨p, n, m, rfl, _⟩ := h
    rfl
  · obtain ⟨p, n, kind, rfl, hH, hn, zn, k0, k3, hq⟩ := h
    refine ⟨_, PSs.nox (pss_cons (ps_if (pt_cmpR op_eq (pv 1) pe_int (nomark _)) (pss_one (ps_ret (pe_tup (pa_cons (pe_op op_sub (pe_call Gt (hr.mono (by decide)) (by rfl) (g__law_take T) Ft.kp bt .nil pass0 (pa_cons (pv 0) (pa_cons pe_int pa_nil))) pe_int) (pa_cons (pe_op op_sub (pe_call Gt (hr.mono (by decide)) (by rfl) (g__law_take T) Ft.kp bt .nil pass0 (pa_cons (pv 0) (pa_cons pe_int pa_nil))) pe_int) pa_nil))))) pss_nil)
      (pss_cons (ps_if (pt_cmpR op_eq (pv 1) pe_int (nomark _)) (pss_one (ps_ret (pe_tup (pa_cons (pe_call Gt (hr.mono (by decide)) (by rfl) (g__law_take T) Ft.kp bt .nil pass0 (pa_cons (pv 0) (pa_cons pe_int pa_nil))) (pa_cons pe_int pa_nil))))) pss_nil)
      (pss_cons (ps_if (pt_cmpR op_eq (pv 1) pe_int (nomark _)) (pss_one (ps_ret (pe_tup (pa_cons (pe_op op_sub (pe_call Gt (hr.mono (by decide)) (by rfl) (g__law_take T) Ft.kp bt .nil pass0 (pa_cons (pv 0) (pa_cons pe_int pa_nil))) pe_int) (pa_cons (pe_op op_sub (pe_call Gt (hr.mono (by decide)) (by rfl) (g__law_take T) Ft.kp bt .nil pass0 (pa_cons (pv 0) (pa_cons pe_int pa_nil))) pe_int) pa_nil))))) pss_nil)
      (pss_cons (ps_set (i := 2) sc_corner.nd rfl (Or.inl rfl) (pe_op op_sub (pe_op op_pow pe_int pe_int) pe_int) (by rfl))
      (pss_one (ps_ret (pe_tup (pa_cons (pe_op op_sub (pe_call Gt (hr.mono (by decide)) (by rfl) (g__law_take T) Ft.kp bt .nil pass0 (pa_cons (pv 0) (pa_cons (pe_op op_add (pe_op op_mulW pe_int (pv 2)) pe_int) pa_nil))) (pv 2)) (pa_cons (pe_op op_sub (pe_call Gt (hr.mono (by decide)) (by rfl) (g__law_take T) Ft.kp bt .nil pass0 (pa_cons (pv 0) (pa_cons (pe_op op_add (pe_op op_mulW pe_int (pv 2)) pe_int) pa_nil))) (pv 2)) pa_nil))))))))), ?_⟩
    refine ⟨_, rfl, rfl, _, rfl, ?_⟩
    refine ite2 (fun h => ?_) (fun h => ?_)
    · refine ⟨_, rfl, p, n, 5, rfl, hH, hn, zn, by decide, szn (by decide) (by decide), fun d n1 d0 d1 hn1 zn1 => ?_⟩
      refine ⟨_, _, rfl, rfl, ?_⟩
      refine ⟨_, rfl, p, n1, 5, rfl, upd_same, hn1, zn1, by decide, szn (by decide) (by decide), fun e n2 e0 e1 hn2 zn2 => ?_⟩
      refine ⟨_, _, rfl, rfl, by simp; exact small_len (n := 2) (by decide), fun a ha => ?_⟩
      rw [upd_upd] at ha ⊢
      have hap : a ≠ p := fun z => by rw [z, upd_same] at ha; cases ha
      exact hq n2 _ _ a hn2 zn2 (by omega) (by omega) hap (by rw [upd_ne hap] at ha; exact ha)
    refine ⟨_, rfl, rfl, _, rfl, ?_⟩
    refine ite2 (fun h => ?_) (fun h => ?_)
    · refine ⟨_, rfl, p, n, 7, rfl, hH, hn, zn, by decide, szn (by decide) (by decide), fun d n1 d0 d1 hn1 zn1 => ?_⟩
      refine ⟨by simp; exact small_len (n := 2) (by decide), fun a ha => ?_⟩
      have hap : a ≠ p := fun z => by rw [z, upd_same] at ha; cases ha
      exact hq n1 _ _ a hn1 zn1 (by omega) (by decide) hap (by rw [upd_ne hap] at ha; exact ha)
    refine ⟨_, rfl, rfl, _, rfl, ?_⟩
    refine ite2 (fun h => ?_) (fun h => ?_)
    · refine ⟨_, rfl, p, n, 41, rfl, hH, hn, zn, by decide, szn (by decide) (by decide), fun d n1 d0 d1 hn1 zn1 => ?_⟩
      refine ⟨_, _, rfl, rfl, ?_⟩
      refine ⟨_, rfl, p, n1, 41, rfl, upd_same, hn1, zn1, by decide, szn (by decide) (by decide), fun e n2 e0 e1 hn2 zn2 => ?_⟩
      refine ⟨_, _, rfl, rfl, by simp; exact small_len (n := 2) (by decide), fun a ha => ?_⟩
      rw [upd_upd] at ha ⊢
      have hap : a ≠ p := fun z => by rw [z, upd_same] at ha; cases ha
      exact hq n2 _ _ a hn2 zn2 (by omega) (by omega) hap (by rw [upd_ne hap] at ha; exact ha)
    have zM : Sz 1000 1999999999999 := Nat.lt_of_lt_of_le (show (1999999999999 : Int).natAbs < 2 ^ 60 by decide) (Nat.pow_le_pow_right (by decide) (by decide))
    have e12 : (10 : Int) ^ ((12 : Int)).toNat - 1 = 999999999999 := by decide
    refine ⟨_, _, rfl, rfl, ⟨by decide, by decide, by decide⟩, _, _, rfl, rfl, ?_⟩
    dsimp only
    rw [e12]
    refine ⟨_, rfl, _, rfl, _, _, rfl, rfl, mulok9 (szn (by decide) (by decide)) (Nat.lt_of_lt_of_le (show (999999999999 : Int).natAbs < 2 ^ 60 by decide) (Nat.pow_le_pow_right (by decide) (by decide))), _, _, rfl, rfl, p, n, 1999999999999, rfl, hH, hn, zn, by decide, zM, fun d n1 d0 d1 hn1 zn1 => ?_⟩
    refine ⟨_, rfl, _, _, rfl, rfl, ?_⟩
    refine ⟨_, rfl, _, rfl, _, _, rfl, rfl, mulok9 (szn (by decide) (by decide)) (Nat.lt_of_lt_of_le (show (999999999999 : Int).natAbs < 2 ^ 60 by decide) (Nat.pow_le_pow_right (by decide) (by decide))), _, _, rfl, rfl, p, n1, 1999999999999, rfl, upd_same, hn1, zn1, by decide, zM, fun e n2 e0 e1 hn2 zn2 => ?_⟩
    refine ⟨_, rfl, _, _, rfl, rfl, by simp; exact small_len (n := 2) (by decide), fun a ha => ?_⟩
    rw [upd_upd] at ha ⊢
    have hap : a ≠ p := fun z => by rw [z, upd_same] at ha; cases ha
    exact hq n2 _ _ a hn2 zn2 (by omega) (by omega) hap (by rw [upd_ne hap] at ha; exact ha)
end
end G
namespace G
open PySem PySem.Spec PyProof.Rows L2 DL M
section
variable {P : Program} {w : World} {K : PySem.W.Frag} {mg : Str → Option Value} {base : Heap}
def hole (p : Addr) (H : Hp) : Hp := fun b => if b = p then none else H b
structure GrP (p : Addr) (F H F' H' : Hp) : Prop where
  gr : Gr F (hole p H) F' (hole p H')
  has : ∃ n : Int, H' p = some (.lst [.int n]) ∧ 0 ≤ n ∧ Sz 1000 n
theorem hole_ne {p b : Addr} {H : Hp} (h : b ≠ p) : hole p H b = H b := if_neg h
theorem hole_same {p : Addr} {H : Hp} : hole p H p = none := if_pos rfl
theorem hole_upd {p : Addr} {H : Hp} {o : HO} : hole p (upd H p o) = hole p H := by
  funext b
  by_cases h : b = p
  · subst h; rw [hole_same, hole_same]
  · rw [hole_ne h, hole_ne h, upd_ne h]
theorem hole_upd2 {p a : Addr} {H : Hp} {o : HO} (h : a ≠ p) : hole p (upd H a o) = upd (hole p H) a o := by
  funext b
  by_cases hb : b = p
  · subst hb; rw [hole_same, upd_ne (Ne.symm h), hole_same]
  · rw [hole_ne hb]
    by_cases hba : b = a
    · subst hba; rw [upd_same, upd_same]
    · rw [upd_ne hba, upd_ne hba, hole_ne hb]
theorem hole_ex {p : Addr} {F H : Hp} (e : Evl.Ex F (hole p H)) : Evl.Ex F H := fun b o h => by
  have := e b o h
  by_cases hb : b = p
  · subst hb; rw [hole_same] at this; cases this
  · rwa [hole_ne hb] at this
def spLine : Sp := fun vs H Q _ => ∃ (F : Hp) (p : Addr) (n most : Int), vs = [.ref p, .int most] ∧ Evl.Ex F (hole p H) ∧ H p = some (.lst [.int n]) ∧ 0 ≤ n ∧ Sz 1000 n ∧ 1 ≤ most ∧ most ≤ 4 ∧ ∀ (F' H' : Hp) (l : Addr) (ps : List Pt), GrP p F H F' H' → Rp F' (ln ps) (.ref l) → 1 ≤ ps.length → (ps.length : Int) ≤ most → (∀ q ∈ ps, Pz q) → Q (.ref l) H'
abbrev nm_line : List Str := ["pool", "most", "kind", "many", "k"]
theorem sc_line : FnScope nm_line ["pool", "most"] (defScope s__law_line) := ⟨rfl, rfl, rfl, by decide +kernel, rfl, by decide +kernel, by decide +kernel⟩
theorem at8 {a b c d e f g h : Int} {lo hi : Int} (ha : (lo ≤ a ∧ a ≤ hi) ∧ (lo ≤ b ∧ b ≤ hi) ∧ (lo ≤ c ∧ c ≤ hi) ∧ (lo ≤ d ∧ d ≤ hi) ∧ (lo ≤ e ∧ e ≤ hi) ∧ (lo ≤ f ∧ f ≤ hi) ∧ (lo ≤ g ∧ g ≤ hi) ∧ (lo ≤ h ∧ h ≤ hi)) {i : Int} (h0 : 0 ≤ i) (h8 : i < 8) : ∃ k : Int, atI [V.int a, .int b, .int c, .int d, .int e, .int f, .int g, .int h] i = some (.int k) ∧ lo ≤ k ∧ k ≤ hi := by
  obtain ⟨a0, b0, c0, d0, e0, f0, g0, h0'⟩ := ha
  have : i = 0 ∨ i = 1 ∨ i = 2 ∨ i = 3 ∨ i = 4 ∨ i = 5 ∨ i = 6 ∨ i = 7 := by omega
  rcases this with rfl | rfl | rfl | rfl | rfl | rfl | rfl | rfl
  · exact ⟨a, rfl, a0⟩
  · exact ⟨b, rfl, b0⟩
  · exact ⟨c, rfl, c0⟩
  · exact ⟨d, rfl, d0⟩
  · exact ⟨e, rfl, e0⟩
  · exact ⟨f, rfl, f0⟩
  · exact ⟨g, rfl, g0⟩
  · exact ⟨h, rfl, h0'⟩
theorem ok_line (T : Txt K mg) : ∃ fd, FunD K "_law_line" "_law_line" (defArgs s__law_line) (defBody s__law_line) (defScope s__law_line) [] [] (He.ga K "_law_line") fd ∧ FnOk P w K mg base CX0 3 (He.ga K "_law_line") fd ["pool", "most"] spLine := by
  obtain ⟨fd, F⟩ := T.says.def_ 96 (d := d__law_line) rfl
  obtain ⟨fdt, Ft, Gt⟩ := ok_take (P := P) (w := w) (base := base) T
  have bt : Binds K fdt ["pool", "many"] [] := FunD.bindsN (x := "_law_take") (qual := "_law_take") (params := defArgs s__law_take) (body := defBody s__law_take) (scope := defScope s__law_take) Ft (fun _ _ _ _ _ _ us hl => match us, hl with | [_, _], _ => rfl)
  obtain ⟨fdc, Fc, Gc⟩ := ok_corner (P := P) (w := w) (base := base) T
  have bc : Binds K fdc ["pool", "kind"] [] := FunD.bindsN (x := "_law_corner") (qual := "_law_corner") (params := defArgs s__law_corner) (body := defBody s__law_corner) (scope := defScope s__law_corner) Fc (fun _ _ _ _ _ _ us hl => match us, hl with | [_, _], _ => rfl)
  refine ⟨fd, F, FunD.ok (x := "_law_line") (qual := "_law_line") (params := defArgs s__law_line) (body := defBody s__law_line) (scope := defScope s__law_line) F sc_line (fun vs H Q E h => ?_) (fun cdv A outer s0 H vs Q E hr h => ?_)⟩
  · obtain ⟨F0, p, n, m, rfl, _⟩ := h
    rfl
  · obtain ⟨F0, p, n, most, rfl, eF, hH, hn, zn, m1, m4, hq⟩ := h
    refine ⟨_, PSs.nox (pss_cons (ps_set (i := 2) sc_line.nd rfl (by first | exact .inl rfl | exact .inr rfl) (pe_ix ix_list (pe_lst (pa_cons pe_int (pa_cons pe_int (pa_cons pe_int (pa_cons pe_int (pa_cons pe_int (pa_cons pe_int (pa_cons pe_int (pa_cons pe_int pa_nil))))))))) (pe_call Gt (hr.mono (by decide)) (by rfl) (g__law_take T) Ft.kp bt .nil pass0 (pa_cons (pv 0) (pa_cons pe_int pa_nil))) (fun _ _ => rfl)) (by rfl))
      (pss_cons (ps_set (i := 3) sc_line.nd rfl (by first | exact .inl rfl | exact .inr rfl) (pe_callB (call_min2 rfl) (by rfl) (f_min T) (by decide +kernel) (pa_cons (pv 1) (pa_cons (pe_ix ix_list (pe_lst (pa_cons pe_int (pa_cons pe_int (pa_cons pe_int (pa_cons pe_int (pa_cons pe_int (pa_cons pe_int (pa_cons pe_int (pa_cons pe_int pa_nil))))))))) (pe_call Gt (hr.mono (by decide)) (by rfl) (g__law_take T) Ft.kp bt .nil pass0 (pa_cons (pv 0) (pa_cons pe_int pa_nil))) (fun _ _ => rfl)) pa_nil))) (by rfl))
      (pss_one (ps_ret (pe_lc (own := [("k", 4)]) rfl sc_line.nd (pi_range1 (by rfl) (f_range T) (pa_cons (pv 3) pa_nil)) (blkOk_by (N := nm_line) (sc := defScope s__law_line) (by decide +kernel)) (fun _ _ _ _ _ => pg_name (i := 4) sc_line.nd rfl (by first | exact .inl rfl | exact .inr rfl)) (fun _ _ _ _ _ => pts_nil) (fun _ _ _ _ _ => pe_call Gc (hr.mono (by decide)) (by rfl) (g__law_corner T) Fc.kp bc .nil pass0 (pa_cons (pv 0) (pa_cons (pv 2) pa_nil)))))))), ?_⟩
    refine ⟨by simp; exact small_len (n := 8) (by decide), fun a ha => ?_⟩
    have hap : p ≠ a := fun z => by rw [← z, hH] at ha; cases ha
    refine ⟨_, rfl, p, n, 8, rfl, by rw [upd_ne hap]; exact hH, hn, zn, by decide, szn (by decide) (by decide), fun d n1 d0 d1 hn1 zn1 => ?_⟩
    obtain ⟨kd, hkd, kd0, kd3⟩ := at8 (a := 0) (b := 0) (c := 1) (d := 2) (e := 0) (f := 3) (g := 2) (h := 0) (lo := 0) (hi := 3) (by decide) d0 d1
    refine ⟨a, _, _, _, rfl, rfl, SqL.of (by rw [upd_ne (Ne.symm hap), upd_same]), hkd, ?_⟩
    refine ⟨_, rfl, by simp; exact small_len (n := 8) (by decide), fun a2 ha2 => ?_⟩
    have hap2 : p ≠ a2 := fun z => by rw [← z, upd_same] at ha2; cases ha2
    refine ⟨_, rfl, p, n1, 8, rfl, by rw [upd_ne hap2, upd_same], hn1, zn1, by decide, szn (by decide) (by decide), fun e n2 e0 e1 hn2 zn2 => ?_⟩
    obtain ⟨my, hmy, my0, my10⟩ := at8 (a := 1) (b := 2) (c := 2) (d := 3) (e := 3) (f := 4) (g := 5) (h := 10) (lo := 1) (hi := 10) (by decide) e0 e1
    refine ⟨a2, _, _, _, rfl, rfl, SqL.of (by rw [upd_ne (Ne.symm hap2), upd_same]), hmy, ?_⟩
    refine ⟨_, _, rfl, ?_⟩
    generalize hMM : (if my < most then my else most) = MM
    have hM1 : 1 ≤ MM ∧ MM ≤ most := by rw [← hMM]; split <;> omega
    generalize hH2 : upd (upd (upd (upd H a (.lst [.int 0, .int 0, .int 1, .int 2, .int 0, .int 3, .int 2, .int 0])) p (.lst [.int n1])) a2 (.lst [.int 1, .int 2, .int 2, .int 3, .int 3, .int 4, .int 5, .int 10])) p (.lst [.int n2]) = H2
    have p2 : H2 p = some (.lst [.int n2]) := by rw [← hH2, upd_same]
    have x2 : ∀ b o, b ≠ p → H b = some o → H2 b = some o := fun b o hb h => by
      have hba : b ≠ a := fun z => by rw [z, ha] at h; cases h
      have hba2 : b ≠ a2 := fun z => by
        subst z
        rw [upd_ne hb, upd_ne hba] at ha2
        rw [ha2] at h
        cases h
      rw [← hH2, upd_ne hb, upd_ne hba2, upd_ne hb, upd_ne hba]
      exact h
    refine ⟨_, rfl, MM, rfl, by omega, by omega, fun D hD => ?_⟩
    have hDp : D ≠ p := fun z => by rw [z, p2] at hD; cases hD
    have hDH : H D = none := by
      cases e : H D with
      | none => rfl
      | some o => rw [x2 D o hDp e] at hD; cases hD
    refine lc_range (lo := 0) (n := MM.toNat) (fun i H' => ∃ (F' : Hp) (ps : List Pt) (as : List V), GrP p F0 H F' H' ∧ H' D = some (.lst as) ∧ RpL F' (ps.map pt) as ∧ ps.length = i ∧ (∀ q ∈ ps, Pz q) ∧ F' D = none) ?start ?step ?fin
    case start =>
      have eH2 : Evl.Ex (hole p H) (hole p (upd H2 D (.lst []))) := fun b o h => by
        by_cases hb : b = p
        · rw [hb, hole_same] at h; cases h
        · rw [hole_ne hb] at h ⊢
          have h2 := x2 b o hb h
          rw [upd_ne (fun z => by rw [z, hD] at h2; cases h2)]
          exact h2
      refine ⟨F0, [], [], ⟨⟨Evl.Ex.refl F0, eH2, eF.trans eH2, fun b o h => .inl h⟩, n2, by rw [upd_ne (Ne.symm hDp)]; exact p2, hn2, zn2⟩, upd_same, rfl, rfl, fun q hq => (nomatch hq), ?_⟩
      exact Evl.fresh_back eF (by rw [hole_ne hDp]; exact hDH)
    case step =>
      rintro i H' hi ⟨F', ps, as, g, hD', r, hl, hz, hFD⟩
      refine ⟨rfl, ?_⟩
      dsimp only [tYes]
      refine iteT ?_
      obtain ⟨n3, p3, hn3, zn3⟩ := g.has
      refine ⟨_, rfl, _, rfl, p, n3, kd, rfl, p3, hn3, zn3, kd0, kd3, fun n4 x y a3 hn4 zn4 hx hy ha3p ha3 => ?_⟩
      have haD : D ≠ a3 := ne_of_none hD' ha3
      refine ⟨as, by rw [upd_ne haD, upd_ne hDp]; exact hD', by rw [← r.length, List.length_map, hl]; exact small_lt (by omega), ?_⟩
      have hFa : F' a3 = none := Evl.fresh_back g.gr.fh (by rw [hole_ne ha3p]; exact ha3)
      have hHa : H a3 = none := by
        have := Evl.fresh_back g.gr.eH (by rw [hole_ne ha3p]; exact ha3 : hole p H' a3 = none)
        rwa [hole_ne ha3p] at this
      have eN : Evl.Ex F' (upd F' a3 (.tup [.int x, .int y])) := Evl.Ex.new hFa
      have zxy : ∀ z : Int, z.natAbs ≤ 10 ^ 12 → Sz 60 z := fun z h => Nat.lt_of_le_of_lt h (by decide)
      refine ⟨upd F' a3 (.tup [.int x, .int y]), ps ++ [(x, y)], as ++ [.ref a3], ⟨⟨g.gr.eF.trans eN, fun b o h => ?_, fun b o h => ?_, fun b o h => ?_⟩, n4, by rw [upd_ne (Ne.symm hDp), upd_ne (Ne.symm ha3p), upd_same], hn4, zn4⟩, upd_same, ?_, by rw [List.length_append, hl]; rfl, fun q hq => ?_, by rw [upd_ne haD]; exact hFD⟩
      · by_cases hb : b = p
        · rw [hb, hole_same] at h; cases h
        · have h2 := g.gr.eH b o h
          rw [hole_ne hb] at h h2 ⊢
          rw [upd_ne (fun z => by rw [z, hDH] at h; cases h), upd_ne (fun z => by rw [z, ha3] at h2; cases h2), upd_ne hb]
          exact h2
      · by_cases hb : b = a3
        · subst hb
          rw [upd_same] at h
          rw [hole_ne ha3p, upd_ne (Ne.symm haD), upd_same]
          exact h
        · rw [upd_ne hb] at h
          have h2 := g.gr.fh b o h
          have hbp : b ≠ p := fun z => by rw [z, hole_same] at h2; cases h2
          rw [hole_ne hbp] at h2 ⊢
          rw [upd_ne (fun z => by rw [z, hFD] at h; cases h), upd_ne hb, upd_ne hbp]
          exact h2
      · by_cases hb : b = a3
        · subst hb
          exact .inr (.inl (by rw [hole_ne ha3p]; exact hHa))
        · rw [upd_ne hb] at h
          exact g.gr.new b o h
      · rw [List.map_append]
        exact RpL.append (RpL.mono eN _ r) (RpL.one (rp_tup upd_same (RpL.two (by unfold Rp; rfl) (by unfold Rp; rfl))))
      · rcases List.mem_append.mp hq with z | z
        · exact hz q z
        · rw [List.mem_singleton.mp z]
          exact ⟨zxy x hx, zxy y hy⟩
    case fin =>
      rintro H' ⟨F', ps, as, g, hD', r, hl, hz, hFD⟩
      have eN : Evl.Ex F' (upd F' D (.lst as)) := Evl.Ex.new hFD
      refine hq (upd F' D (.lst as)) H' D ps ⟨⟨g.gr.eF.trans eN, g.gr.eH, fun b o h => ?_, fun b o h => ?_⟩, g.has⟩ ⟨D, as, rfl, upd_same, RpL.mono eN _ r⟩ (by omega) (by omega) hz
      · by_cases hb : b = D
        · subst hb
          rw [upd_same] at h
          rw [hole_ne hDp, hD']
          exact h
        · rw [upd_ne hb] at h
          exact g.gr.fh b o h
      · by_cases hb : b = D
        · subst hb
          exact .inr (.inl (by rw [hole_ne hDp]; exact hDH))
        · rw [upd_ne hb] at h
          exact g.gr.new b o h
end
end G
namespace G
open PySem PySem.Spec PyProof.Rows L2 DL M
section
variable {P : Program} {w : World} {K : PySem.W.Frag} {mg : Str → Option Value} {base : Heap}
def spPool (K : PySem.W.Frag) : Sp := fun vs H Q _ => ∃ (a : Addr) (ns : List Int) (k : Int), vs = [.ref a, .int k] ∧ SqL K H a (ns.map V.int) ∧ 0 ≤ k ∧ k ≤ 100 ∧ ∀ (p : Addr) (n : Int), H p = none → 0 ≤ n → Sz 1000 n → Q (.ref p) (upd H p (.lst [.int n]))
abbrev nm_pool : List Str := ["script", "k", "cell", "number", "found", "turn"]
theorem sc_pool : FnScope nm_pool ["script", "k"] (defScope s__law_pool) := ⟨rfl, rfl, rfl, by decide +kernel, rfl, by decide +kernel, by decide +kernel⟩
theorem ok_pool (T : Txt K mg) : ∃ fd, FunD K "_law_pool" "_law_pool" (defArgs s__law_pool) (defBody s__law_pool) (defScope s__law_pool) [] [] (He.ga K "_law_pool") fd ∧ FnOk P w K mg base CX0 1 (He.ga K "_law_pool") fd ["script", "k"] (spPool K) := by
  obtain ⟨fd, F⟩ := T.says.def_ 93 (d := d__law_pool) rfl
  refine ⟨fd, F, FunD.ok (x := "_law_pool") (qual := "_law_pool") (params := defArgs s__law_pool) (body := defBody s__law_pool) (scope := defScope s__law_pool) F sc_pool (fun vs H Q E h => ?_) (fun cdv A outer s0 H vs Q E hr h => ?_)⟩
  · obtain ⟨a, ns, k, rfl, _⟩ := h
    rfl
  · obtain ⟨a, ns, k, rfl, hS, k0, k1, hq⟩ := h
    refine ⟨_, PSs.nox (pss_cons (PSd.run (psd_set (i := 2) sc_pool.nd rfl (by first | exact .inl rfl | exact .inr rfl) pd_int)) (Evl.pss_cut (PSd.run (psd_if (pdt_cmp op_lt r2_B (pdv 1) (pd_bi call_len_seq rc_len (by rfl) (f_len T) PySem.boot_len (pda_cons (pdv 0) pda_nil))) (pbd_one (psd_set (i := 2) sc_pool.nd rfl (by first | exact .inl rfl | exact .inr rfl) (pd_ixK (K := K) rfl (pdv 0) (pdv 1)))) pbd_nil)) (PBd.run (pbd_cons (psd_if (pdt_cmp op_ge r2_B (pdv 2) (pd_op op_pow r2_Ic pd_int pd_int)) (pbd_one (psd_ret (pd_sh (pl_lst (pda_cons (pd_op op_mod r2_Ic (pdv 2) (pd_op op_mulW r2_Ic (pd_op op_mulW r2_Ic (pd_op op_pow r2_Ic pd_int pd_int) (pd_op op_pow r2_Ic pd_int pd_int)) (pd_op op_pow r2_Ic pd_int pd_int))) pda_nil))))) pbd_nil)
      (pbd_cons (psd_set (i := 3) sc_pool.nd rfl (by first | exact .inl rfl | exact .inr rfl) (pd_op op_mod r2_Ic (pd_op op_add r2_I (pd_op op_add r2_I (pd_op op_add r2_I (pdv 2) (pd_op op_mulW r2_Ic (pd_op op_mulW r2_Ic pd_int (pdv 1)) (pdv 1))) (pd_op op_mulW r2_Ic pd_int (pdv 1))) pd_int) pd_int))
      (pbd_cons (psd_set (i := 4) sc_pool.nd rfl (by first | exact .inl rfl | exact .inr rfl) pd_int)
      (pbd_cons (psd_for PassesOwn.never rfl (pid_range1 (by rfl) (f_range T) (pda_cons pd_int pda_nil)) (pgd_name (i := 5) sc_pool.nd rfl (by first | exact .inl rfl | exact .inr rfl))
      (pbd_cons (psd_set (i := 3) sc_pool.nd rfl (by first | exact .inl rfl | exact .inr rfl) (pd_op op_mod r2_Ic (pd_op op_add r2_I (pd_op op_add r2_I (pd_op op_mulW r2_Ic (pdv 3) pd_int) (pd_op op_mulW r2_Ic pd_int (pdv 5))) pd_int) pd_int))
      (pbd_cons (psd_set (i := 3) sc_pool.nd rfl (by first | exact .inl rfl | exact .inr rfl) (pd_op op_mod r2_Ic (pd_op op_mulW r2_Ic (pdv 3) (pdv 3)) pd_int))
      (pbd_one (psd_set (i := 4) sc_pool.nd rfl (by first | exact .inl rfl | exact .inr rfl) (pd_op op_add r2_I (pd_op op_mulW r2_Ic (pdv 4) pd_int) (pd_op op_mod r2_Ic (pd_op op_add r2_I (pd_op op_mulW r2_Ic (pdv 3) pd_int) (pdv 1)) pd_int)))))))
      (pbd_one (psd_ret (pd_sh (pl_lst (pda_cons (pdv 4) pda_nil)))))))))))), ?_⟩
    refine ⟨fun σ H' => H' = H ∧ ∃ c : Int, σ = [some (.ref a), some (.int k), some (.int c), none, none, none], ?_, ?_⟩
    · refine ⟨_, rfl, _, rfl, a, _, rfl, .inl hS, _, _, rfl, rfl, _, rfl, ?_⟩
      rw [List.length_map]
      refine ite2 (fun h => ?_) (fun h => ?_)
      · have h' : k < (ns.length : Int) := by simpa using h
        obtain ⟨kn, rfl⟩ := Int.eq_ofNat_of_zero_le k0
        obtain ⟨c, hc⟩ : ∃ c, ns[kn]? = some c := ⟨_, List.getElem?_eq_getElem (by omega)⟩
        have hat : atI (ns.map V.int) ((kn : Nat) : Int) = some (V.int c) := by
          refine atI_nat ?_
          rw [List.getElem?_map, hc]
          rfl
        exact ⟨_, rfl, _, rfl, .inl ⟨a, _, _, _, rfl, rfl, hS, hat, rfl, c, rfl⟩⟩
      · exact ⟨rfl, 0, rfl⟩
    · rintro σ H' ⟨rfl, c, rfl⟩
      refine ⟨_, rfl, _, _, rfl, rfl, ⟨by decide, by decide, by decide⟩, _, _, rfl, rfl, _, rfl, ?_⟩
      refine ite2 (fun h => ?_) (fun h => ?_)
      · have z60 : Sz 250 ((10 : Int) ^ ((60 : Int)).toNat) := Nat.lt_of_lt_of_le (show ((10 : Int) ^ ((60 : Int)).toNat).natAbs < 2 ^ 200 by decide) (Nat.pow_le_pow_right (by decide) (by decide))
        have z120 := z60.mul z60
        have z180 := z120.mul z60
        have hpos : (0 : Int) < (10 : Int) ^ ((60 : Int)).toNat * (10 : Int) ^ ((60 : Int)).toNat * (10 : Int) ^ ((60 : Int)).toNat := by decide
        refine ⟨_, rfl, _, _, rfl, rfl, ⟨by decide, by decide, by decide⟩, _, _, rfl, rfl, ⟨by decide, by decide, by decide⟩, _, _, rfl, rfl, mulok9 (z60.mono (by decide)) (z60.mono (by decide)), _, _, rfl, rfl, ⟨by decide, by decide, by decide⟩, _, _, rfl, rfl, mulok9 (z120.mono (by decide)) (z60.mono (by decide)), _, _, rfl, rfl, hpos, ?_⟩
        refine ⟨by simp; exact small_len (n := 1) (by decide), fun p hp => ?_⟩
        have m0 := Int.emod_nonneg c (Int.ne_of_gt hpos)
        have m1 := Int.emod_lt_of_pos c hpos
        exact hq p _ hp m0 ((z180.of_le (by omega)).mono (by decide))
      · have zk : Sz 20 k := szn (by omega) (by decide)
        have zc : Sz 20 104729 := by unfold Sz; decide
        have z1 := zc.mul zk
        refine ⟨_, rfl, _, rfl, _, _, rfl, rfl, mulok9 (zc.mono (by decide)) (zk.mono (by decide)), _, rfl, _, _, rfl, rfl, mulok9 (z1.mono (by decide)) (zk.mono (by decide)), _, _, rfl, rfl, _, rfl, _, _, rfl, rfl, mulok9 (szn (by decide) (by decide)) (zk.mono (by decide)), _, _, rfl, rfl, _, _, rfl, rfl, _, _, rfl, rfl, (show (0 : Int) < 2147483647 by decide), ?_⟩
        refine ⟨12, rfl, by decide, by decide, ?_⟩
        refine for_range (n := 12) (fun i σ' H'' => H'' = H' ∧ ∃ (num f : Int) (t : _), σ' = [some (.ref a), some (.int k), some (.int c), some (.int num), some (.int f), t] ∧ 0 ≤ num ∧ num < 2147483647 ∧ 0 ≤ f ∧ Sz (1 + 33 * i) f) ⟨rfl, _, 0, _, rfl, Int.emod_nonneg _ (by decide), Int.emod_lt_of_pos _ (by decide), Int.le_refl _, by unfold Sz; decide⟩ ?_ ?_
        · rintro i σ' H'' hi ⟨rfl, num, f, t, rfl, n0, n1, f0, zf⟩
          rw [Int.zero_add]
          have zn : Sz 31 num := by unfold Sz; omega
          have c1 : Sz 31 48271 := by unfold Sz; decide
          have c2 : Sz 31 7919 := by unfold Sz; decide
          have c3 : Sz 31 2147483587 := by unfold Sz; decide
          have c4 : Sz 31 69621 := by unfold Sz; decide
          have zi : Sz 31 ((i : Nat) : Int) := by unfold Sz; omega
          refine ⟨_, rfl, _, _, rfl, rfl, mulok9 (zn.mono (by decide)) (c1.mono (by decide)), _, rfl, _, _, rfl, rfl, mulok9 (c2.mono (by decide)) (zi.mono (by decide)), _, _, rfl, rfl, _, _, rfl, rfl, _, _, rfl, rfl, (show (0 : Int) < 2147483629 by decide), ?_⟩
          have m0 := Int.emod_nonneg (num * 48271 + 7919 * ((i : Nat) : Int) + 3) (show (2147483629 : Int) ≠ 0 by decide)
          have m1 := Int.emod_lt_of_pos (num * 48271 + 7919 * ((i : Nat) : Int) + 3) (show (0 : Int) < 2147483629 by decide)
          have zn2 : Sz 31 ((num * 48271 + 7919 * ((i : Nat) : Int) + 3) % 2147483629) := by unfold Sz; omega
          have p0 := Int.emod_nonneg (((num * 48271 + 7919 * ((i : Nat) : Int) + 3) % 2147483629) * ((num * 48271 + 7919 * ((i : Nat) : Int) + 3) % 2147483629)) (show (2147483587 : Int) ≠ 0 by decide)
          have p1 := Int.emod_lt_of_pos (((num * 48271 + 7919 * ((i : Nat) : Int) + 3) % 2147483629) * ((num * 48271 + 7919 * ((i : Nat) : Int) + 3) % 2147483629)) (show (0 : Int) < 2147483587 by decide)
          refine ⟨_, rfl, _, rfl, _, _, rfl, rfl, mulok9 (zn2.mono (m := 400000) (by decide)) (zn2.mono (m := 400000) (by decide)), _, _, rfl, rfl, (show (0 : Int) < 2147483587 by decide), ?_⟩
          generalize hn3 : ((num * 48271 + 7919 * ((i : Nat) : Int) + 3) % 2147483629) * ((num * 48271 + 7919 * ((i : Nat) : Int) + 3) % 2147483629) % 2147483587 = n3 at p0 p1
          have zn3 : Sz 31 n3 := by unfold Sz; omega
          rw [← hn3] at zn3
          refine ⟨_, rfl, _, _, rfl, rfl, mulok9 (zf.mono (m := 400000) (by omega)) (c3.mono (m := 400000) (by decide)), _, rfl, _, _, rfl, rfl, mulok9 (zn3.mono (m := 400000) (by decide)) (c4.mono (m := 400000) (by decide)), _, rfl, _, _, rfl, rfl, _, _, rfl, rfl, (show (0 : Int) < 2147483587 by decide), _, _, rfl, rfl, ?_⟩
          have q0 := Int.emod_nonneg (n3 * 69621 + k) (show (2147483587 : Int) ≠ 0 by decide)
          have q1 := Int.emod_lt_of_pos (n3 * 69621 + k) (show (0 : Int) < 2147483587 by decide)
          generalize hg : (n3 * 69621 + k) % 2147483587 = g at q0 q1
          have zg : Sz (1 + 33 * i + 31) g := Sz.mono (show Sz 31 g by unfold Sz; omega) (by omega)
          refine ⟨rfl, n3, f * 2147483587 + g, _, by rw [← hg, ← hn3]; rfl, p0, by omega, ?_, ?_⟩
          · have := Int.mul_nonneg f0 (show (0 : Int) ≤ 2147483587 by decide)
            omega
          · exact ((zf.mul c3).mono (m := 1 + 33 * i + 31) (by omega)).add zg |>.mono (by omega)
        · rintro σ' H'' ⟨rfl, num, f, t, rfl, n0, n1, f0, zf⟩
          refine ⟨_, rfl, by simp; exact small_len (n := 1) (by decide), fun p hp => ?_⟩
          exact hq p _ hp f0 (zf.mono (by decide))
end
end G
namespace G
open PySem PySem.Spec PyProof.Rows L2 DL M
section
variable {P : Program} {w : World} {K : PySem.W.Frag} {mg : Str → Option Value} {base : Heap}
theorem GrP.start {p : Addr} {F H : Hp} {n : Int} (e : Evl.Ex F (hole p H)) (h : H p = some (.lst [.int n])) (n0 : 0 ≤ n) (zn : Sz 1000 n) : GrP p F H F H := ⟨Gr.refl e, n, h, n0, zn⟩
theorem GrP.pool {p : Addr} {F H F' H' : Hp} (g : GrP p F H F' H') {n : Int} (n0 : 0 ≤ n) (zn : Sz 1000 n) : GrP p F H F' (upd H' p (.lst [.int n])) := ⟨by rw [hole_upd]; exact g.gr, n, upd_same, n0, zn⟩
theorem GrP.made {p a : Addr} {F H F' H' : Hp} {o : HO} (g : GrP p F H F' H') (ha : a ≠ p) (h : H' a = none) : GrP p F H (upd F' a o) (upd H' a o) := by
  obtain ⟨n, h1, h2, h3⟩ := g.has
  exact ⟨by rw [hole_upd2 ha]; exact g.gr.trans (Gr.laid g.gr.fh (by rw [hole_ne ha]; exact h)), n, by rw [upd_ne (Ne.symm ha)]; exact h1, h2, h3⟩
theorem GrP.mut {p a : Addr} {F H F' H' : Hp} {o : HO} (g : GrP p F H F' H') (ha : a ≠ p) (h : H a = none) (hF : F' a = none) : GrP p F H F' (upd H' a o) := by
  obtain ⟨n, h1, h2, h3⟩ := g.has
  exact ⟨by rw [hole_upd2 ha]; exact g.gr.mut (by rw [hole_ne ha]; exact h) hF, n, by rw [upd_ne (Ne.symm ha)]; exact h1, h2, h3⟩
theorem GrP.keep {p a : Addr} {F H F' H' : Hp} {o : HO} (g : GrP p F H F' H') (ha : a ≠ p) (h : H a = none) (hF : F' a = none) (h' : H' a = some o) : GrP p F H (upd F' a o) H' :=
  ⟨g.gr.adopt (by rw [hole_ne ha]; exact h) hF (by rw [hole_ne ha]; exact h'), g.has⟩
theorem GrP.back {p a : Addr} {F H F' H' : Hp} (g : GrP p F H F' H') (ha : a ≠ p) (h : H' a = none) : H a = none ∧ F' a = none := by
  have h1 := Evl.fresh_back g.gr.eH (by rw [hole_ne ha]; exact h : hole p H' a = none)
  exact ⟨by rwa [hole_ne ha] at h1, Evl.fresh_back g.gr.fh (by rw [hole_ne ha]; exact h)⟩
theorem GrP.see {p a : Addr} {F H F' H' : Hp} {o : HO} (g : GrP p F H F' H') (h : F' a = some o) : a ≠ p ∧ H' a = some o := by
  have h1 := g.gr.fh _ _ h
  have hap : a ≠ p := fun z => by rw [z, hole_same] at h1; cases h1
  exact ⟨hap, by rwa [hole_ne hap] at h1⟩
/-- what the loop keeps: its own list, in no frozen heap -/
structure OwnP (p D : Addr) (F H F' H' : Hp) (qs : List Pt) (as : List V) : Prop where
  g : GrP p F H F' H'
  hD : H' D = some (.lst as)
  r : RpL F' (qs.map pt) as
  z : ∀ q ∈ qs, Pz q
  fD : F' D = none
  h0 : H D = none
  ne : D ≠ p
theorem OwnP.pool {p D : Addr} {F H F' H' : Hp} {qs : List Pt} {as : List V} (o : OwnP p D F H F' H' qs as) {n : Int} (n0 : 0 ≤ n) (zn : Sz 1000 n) : OwnP p D F H F' (upd H' p (.lst [.int n])) qs as :=
  ⟨o.g.pool n0 zn, by rw [upd_ne o.ne]; exact o.hD, o.r, o.z, o.fD, o.h0, o.ne⟩
theorem OwnP.push {p D a : Addr} {F H F' H' : Hp} {qs : List Pt} {as : List V} (o : OwnP p D F H F' H' qs as) {x y : Int} (zq : Pz (x, y)) (ha : H' a = none) : a ≠ p ∧ D ≠ a ∧ OwnP p D F H (upd F' a (.tup [.int x, .int y])) (upd (upd H' a (.tup [.int x, .int y])) D (.lst (as ++ [.ref a]))) (qs ++ [(x, y)]) (as ++ [.ref a]) := by
  obtain ⟨n, h1, h2, h3⟩ := o.g.has
  have hap : a ≠ p := fun z => by rw [z, h1] at ha; cases ha
  have hDa : D ≠ a := fun z => by rw [← z, o.hD] at ha; cases ha
  obtain ⟨b1, b2⟩ := o.g.back hap ha
  have eN : Evl.Ex F' (upd F' a (.tup [.int x, .int y])) := Evl.Ex.new b2
  refine ⟨hap, hDa, (o.g.made hap ha).mut o.ne o.h0 (by rw [upd_ne hDa]; exact o.fD), upd_same, ?_, fun q hq => ?_, by rw [upd_ne hDa]; exact o.fD, o.h0, o.ne⟩
  · rw [List.map_append]
    exact RpL.append (RpL.mono eN _ o.r) (RpL.one (rp_tup upd_same (RpL.two (by unfold Rp; rfl) (by unfold Rp; rfl))))
  · rcases List.mem_append.mp hq with z | z
    · exact o.z q z
    · rw [List.mem_singleton.mp z]
      exact zq
def spSecond : Sp := fun vs H Q _ => ∃ (F : Hp) (p : Addr) (lv : V) (ps : List Pt) (n most : Int), vs = [.ref p, lv, .int most] ∧ Evl.Ex F (hole p H) ∧ Rp F (ln ps) lv ∧ 1 ≤ ps.length ∧ ps.length ≤ 4 ∧ (ps.length : Int) ≤ most ∧ (∀ q ∈ ps, Pz q) ∧ H p = some (.lst [.int n]) ∧ 0 ≤ n ∧ Sz 1000 n ∧ 1 ≤ most ∧ most ≤ 4 ∧ ∀ (F' H' : Hp) (l : Addr) (qs : List Pt), GrP p F H F' H' → Rp F' (ln qs) (.ref l) → 1 ≤ qs.length → (qs.length : Int) ≤ most → (∀ q ∈ qs, Pz q) → Q (.ref l) H'
abbrev nm_second : List Str := ["pool", "line", "most", "way", "found", "x", "y"]
theorem sc_second : FnScope nm_second ["pool", "line", "most"] (defScope s__law_second) := ⟨rfl, rfl, rfl, by decide +kernel, rfl, by decide +kernel, by decide +kernel⟩
theorem ok_second (T : Txt K mg) : ∃ fd, FunD K "_law_second" "_law_second" (defArgs s__law_second) (defBody s__law_second) (defScope s__law_second) [] [] (He.ga K "_law_second") fd ∧ FnOk P w K mg base CX0 4 (He.ga K "_law_second") fd ["pool", "line", "most"] spSecond := by
  obtain ⟨fd, F⟩ := T.says.def_ 97 (d := d__law_second) rfl
  obtain ⟨fdt, Ft, Gt⟩ := ok_take (P := P) (w := w) (base := base) T
  have bt : Binds K fdt ["pool", "many"] [] := FunD.bindsN (x := "_law_take") (qual := "_law_take") (params := defArgs s__law_take) (body := defBody s__law_take) (scope := defScope s__law_take) Ft (fun _ _ _ _ _ _ us hl => match us, hl with | [_, _], _ => rfl)
  obtain ⟨fdl, Fl, Gl_⟩ := ok_line (P := P) (w := w) (base := base) T
  have bl : Binds K fdl ["pool", "most"] [] := FunD.bindsN (x := "_law_line") (qual := "_law_line") (params := defArgs s__law_line) (body := defBody s__law_line) (scope := defScope s__law_line) Fl (fun _ _ _ _ _ _ us hl => match us, hl with | [_, _], _ => rfl)
  refine ⟨fd, F, FunD.ok (x := "_law_second") (qual := "_law_second") (params := defArgs s__law_second) (body := defBody s__law_second) (scope := defScope s__law_second) F sc_second (fun vs H Q E h => ?_) (fun cdv A outer s0 H vs Q E hr h => ?_)⟩
  · obtain ⟨F0, p, lv, ps, n, m, rfl, _⟩ := h
    rfl
  · obtain ⟨F0, p, lv, ps, n, most, rfl, eF, rl, l1, l4, lm, zps, hH, hn, zn, m1, m4, hq⟩ := h
    obtain ⟨a0, vs0, rfl, ha0, rv0⟩ := rl
    refine ⟨_, PSs.nox (pss_cons (ps_set (i := 3) sc_second.nd rfl (by first | exact .inl rfl | exact .inr rfl) (pe_call Gt (hr.mono (by decide)) (by rfl) (g__law_take T) Ft.kp bt .nil pass0 (pa_cons (pv 0) (pa_cons pe_int pa_nil))) (by rfl))
      (pss_cons (ps_if (pt_cmpR op_lt (pv 3) pe_int (nomark _)) (pss_one (ps_ret (pe_call Gl_ (hr.mono (by decide)) (by rfl) (g__law_line T) Fl.kp bl .nil pass0 (pa_cons (pv 0) (pa_cons (pv 2) pa_nil))))) pss_nil)
      (pss_cons (ps_if (pt_cmpR op_eq (pv 3) pe_int (nomark _)) (pss_one (ps_ret (pe_revL (pv 1)))) pss_nil)
      (pss_cons (ps_set (i := 4) sc_second.nd rfl (by first | exact .inl rfl | exact .inr rfl) (pe_lst pa_nil) (by rfl))
      (pss_cons (ps_for PassesOwn.never rfl (pi_list (pv 1)) (pg_tup rfl (pgs_cons (pg_name (i := 5) sc_second.nd rfl (by first | exact .inl rfl | exact .inr rfl)) (pgs_cons (pg_name (i := 6) sc_second.nd rfl (by first | exact .inl rfl | exact .inr rfl)) pgs_nil)))
        (Evl.pss_cut (ps_if (PW.pt (pw_and (pt_cmpR op_lt (pe_callB call_abs (by rfl) (f_abs T) (by decide +kernel) (pa_cons (pv 5) pa_nil)) (pe_op op_sub (pe_op op_pow pe_int pe_int) pe_int) (by rfl)) (pw_and1 (pt_cmpR op_lt (pe_callB call_abs (by rfl) (f_abs T) (by decide +kernel) (pa_cons (pv 6) pa_nil)) (pe_op op_sub (pe_op op_pow pe_int pe_int) pe_int) (by rfl)))))
            (pss_cons (ps_set (i := 5) sc_second.nd rfl (by first | exact .inl rfl | exact .inr rfl) (pe_op op_sub (pe_op op_add (pv 5) (pe_call Gt (hr.mono (by decide)) (by rfl) (g__law_take T) Ft.kp bt .nil pass0 (pa_cons (pv 0) (pa_cons pe_int pa_nil)))) pe_int) (by rfl))
            (pss_one (ps_set (i := 6) sc_second.nd rfl (by first | exact .inl rfl | exact .inr rfl) (pe_op op_sub (pe_op op_add (pv 6) (pe_call Gt (hr.mono (by decide)) (by rfl) (g__law_take T) Ft.kp bt .nil pass0 (pa_cons (pv 0) (pa_cons pe_int pa_nil)))) pe_int) (by rfl)))) pss_nil)
        (pss_cons (ps_expr (pe_bm PySem.F.plainAttrs_list PySem.F.slot_list_append PySem.F.type_list_append mt_append (pv 4) (pa_cons (pe_tup (pa_cons (pv 5) (pa_cons (pv 6) pa_nil))) pa_nil)))
        (pss_one (ps_if (PW.pt (pw_and (pt_cmpR op_eq (pv 3) pe_int (nomark _)) (pw_and (pt_cmpR op_lt (pe_callB call_len_seq (by rfl) (f_len T) PySem.boot_len (pa_cons (pv 4) pa_nil)) (pv 2) (by rfl)) (pw_and1 (pt_cmpR op_eq (pe_call Gt (hr.mono (by decide)) (by rfl) (g__law_take T) Ft.kp bt .nil pass0 (pa_cons (pv 0) (pa_cons pe_int pa_nil))) pe_int (nomark _))))))
            (pss_one (ps_expr (pe_bm PySem.F.plainAttrs_list PySem.F.slot_list_append PySem.F.type_list_append mt_append (pv 4) (pa_cons (pe_tup (pa_cons (pv 5) (pa_cons (pv 6) pa_nil))) pa_nil)))) pss_nil)))))
      (pss_one (ps_ret (pe_slice sl_list (pv 4) po_none (po_some (pv 2)))))))))), ?_⟩
    have g0 : GrP p F0 H F0 H := GrP.start eF hH hn zn
    obtain ⟨a0p, a0H⟩ := g0.see ha0
    refine ⟨_, rfl, p, n, 8, rfl, hH, hn, zn, by decide, szn (by decide) (by decide), fun d n1 d0 d8 hn1 zn1 => ?_⟩
    refine ⟨_, rfl, _, _, rfl, rfl, _, rfl, ?_⟩
    refine ite2 (fun h => ?_) (fun h => ?_)
    · refine ⟨_, rfl, _, rfl, F0, p, n1, most, rfl, by rw [hole_upd]; exact eF, upd_same, hn1, zn1, m1, m4, fun F' H' l qs g rq q1 q2 zq => ?_⟩
      exact hq F' H' l qs ⟨by have := g.gr; rw [hole_upd] at this; exact this, g.has⟩ rq q1 q2 zq
    have g1 := g0.pool hn1 zn1
    refine ⟨_, rfl, rfl, _, rfl, ?_⟩
    refine ite2 (fun h4 => ?_) (fun h4 => ?_)
    · refine ⟨_, rfl, a0, vs0, rfl, SqL.of (g1.see ha0).2, fun c hc => ?_⟩
      have hcp : c ≠ p := fun z => by rw [z, upd_same] at hc; cases hc
      obtain ⟨c1, c2⟩ := g1.back hcp hc
      have g2 := (g1.mut (o := .lst vs0.reverse) hcp c1 c2).keep hcp c1 c2 upd_same
      refine hq _ _ c ps.reverse g2 ⟨c, _, rfl, upd_same, ?_⟩ (by simpa using l1) (by simpa using lm) (fun q hq => zps q (List.mem_reverse.mp hq))
      rw [List.map_reverse]
      exact RpL.mono (Evl.Ex.new c2) _ rv0.reverse
    refine ⟨small_len (n := 0) (by decide), fun D hD => ?_⟩
    have hDp : D ≠ p := fun z => by rw [z, upd_same] at hD; cases hD
    obtain ⟨D1, D2⟩ := g1.back hDp hD
    refine ⟨_, rfl, ?_⟩
    have o0 : OwnP p D F0 H F0 (upd (upd H p (.lst [.int n1])) D (.lst [])) [] [] := ⟨g1.mut hDp D1 D2, upd_same, rfl, fun q hq => (nomatch hq), D2, D1, hDp⟩
    have ln0 : vs0.length = ps.length := by
      have := rv0.length
      rw [List.length_map] at this
      exact this.symm
    refine ⟨a0, rfl, ⟨_, SqL.of (o0.g.see ha0).2⟩, ?_⟩
    refine for_list (xs := vs0) (a := a0) (fun i σ' H' => ∃ (F' : Hp) (qs : List Pt) (as : List V) (vx vy : Option V), σ' = [some (.ref p), some (.ref a0), some (.int most), some (.int d), some (.ref D), vx, vy] ∧ OwnP p D F0 H F' H' qs as ∧ i ≤ qs.length ∧ qs.length ≤ 2 * i) ⟨F0, [], [], _, _, rfl, o0, Nat.le_refl _, Nat.zero_le _⟩ ?_ ?_ ?_
    · rintro i σ' H' _ ⟨F', qs, as, vx, vy, rfl, o, _, _⟩
      exact SqL.of (o.g.see (o.g.gr.eF _ _ ha0)).2
    · rintro i v σ' H' hv ⟨F', qs, as, vx, vy, rfl, o, q1, q2⟩
      have hil : i < vs0.length := (List.getElem?_eq_some_iff.mp hv).1
      obtain ⟨dd, hd, rd⟩ := rv0.back hv
      obtain ⟨q, hqq, rfl⟩ : ∃ q, ps[i]? = some q ∧ dd = pt q := by
        rw [List.getElem?_map] at hd
        cases e : ps[i]? with
        | none => rw [e] at hd; cases hd
        | some q => rw [e] at hd; exact ⟨q, rfl, (Option.some.inj hd).symm⟩
      obtain ⟨b, rfl, hb⟩ := rp_pair rd
      obtain ⟨x0, y0⟩ := q
      have zq := zps _ (List.mem_of_getElem? hqq)
      refine ⟨b, _, rfl, SqT.of (o.g.see (o.g.gr.eF _ _ hb)).2, rfl, _, _, rfl, _, _, rfl, rfl, ?_⟩
      refine ⟨fun σ' H' => ∃ (F' : Hp) (x y : Int), σ' = [some (.ref p), some (.ref a0), some (.int most), some (.int d), some (.ref D), some (.int x), some (.int y)] ∧ OwnP p D F0 H F' H' qs as ∧ Pz (x, y), ?_, ?_⟩
      · unfold tIfS tAnd
        have e12 : (10 : Int) ^ ((12 : Int)).toNat - 2 = 999999999998 := by decide
        refine ⟨_, rfl, x0, rfl, _, _, rfl, rfl, ⟨by decide, by decide, by decide⟩, _, _, rfl, rfl, _, _, rfl, rfl, _, rfl, ?_⟩
        have hno : ∃ (F' : Hp) (x y : Int), ([some (.ref p), some (.ref a0), some (.int most), some (.int d), some (.ref D), some (.int x0), some (.int y0)] : L2.St) = [some (.ref p), some (.ref a0), some (.int most), some (.int d), some (.ref D), some (.int x), some (.int y)] ∧ OwnP p D F0 H F' H' qs as ∧ Pz (x, y) := ⟨F', x0, y0, rfl, o, zq⟩
        refine ite2 (fun hx => ?_) (fun hx => hno)
        refine ⟨_, rfl, y0, rfl, _, _, rfl, rfl, ⟨by decide, by decide, by decide⟩, _, _, rfl, rfl, _, _, rfl, rfl, _, rfl, ?_⟩
        refine ite2 (fun hy => ?_) (fun hy => hno)
        have hx : (if x0 < 0 then -x0 else x0) < 999999999998 := by rw [← e12]; exact of_decide_eq_true hx
        have hy : (if y0 < 0 then -y0 else y0) < 999999999998 := by rw [← e12]; exact of_decide_eq_true hy
        obtain ⟨n2, hp2, hn2, zn2⟩ := o.g.has
        refine ⟨_, rfl, _, rfl, p, n2, 3, rfl, hp2, hn2, zn2, by decide, szn (by decide) (by decide), fun dx n3 dx0 dx3 hn3 zn3 => ?_⟩
        refine ⟨_, _, rfl, rfl, _, _, rfl, rfl, ?_⟩
        refine ⟨_, rfl, _, rfl, p, n3, 3, rfl, upd_same, hn3, zn3, by decide, szn (by decide) (by decide), fun dy n4 dy0 dy3 hn4 zn4 => ?_⟩
        refine ⟨_, _, rfl, rfl, _, _, rfl, rfl, ?_⟩
        have zz : ∀ z e : Int, (if z < 0 then -z else z) < 999999999998 → 0 ≤ e → e < 3 → Sz 60 (z + e - 1) := fun z e h1 h2 h3 => by
          refine Nat.lt_of_lt_of_le (m := 10 ^ 12) ?_ (by decide)
          split at h1 <;> omega
        refine ⟨F', x0 + dx - 1, y0 + dy - 1, rfl, (o.pool hn3 zn3).pool hn4 zn4, zz _ _ hx dx0 dx3, zz _ _ hy dy0 dy3⟩
      · rintro σ' H2 ⟨F2, x, y, rfl, o2, zxy⟩
        have las : as.length = qs.length := by
          have := o2.r.length
          rw [List.length_map] at this
          exact this.symm
        refine ⟨_, rfl, .inl ⟨rfl, _, SqL.of o2.hD⟩, _, rfl, _, rfl, by simp; exact small_len (n := 2) (by decide), fun a3 ha3 => ?_⟩
        obtain ⟨ap, Da, o3⟩ := o2.push zxy ha3
        refine ⟨D, as, _, rfl, rfl, by rw [upd_ne Da]; exact o2.hD, small_lt (by omega), ?_⟩
        unfold tIfS tAnd
        have hfin : ∀ {F5 H5 : Hp} {qs5 : List Pt} {as5 : List V}, OwnP p D F0 H F5 H5 qs5 as5 → i + 1 ≤ qs5.length → qs5.length ≤ 2 * (i + 1) → ∃ (F' : Hp) (qs : List Pt) (as : List V) (vx vy : Option V), ([some (.ref p), some (.ref a0), some (.int most), some (.int d), some (.ref D), some (.int x), some (.int y)] : L2.St) = [some (.ref p), some (.ref a0), some (.int most), some (.int d), some (.ref D), vx, vy] ∧ OwnP p D F0 H F' H5 qs as ∧ i + 1 ≤ qs.length ∧ qs.length ≤ 2 * (i + 1) := fun o5 h1 h2 => ⟨_, _, _, _, _, rfl, o5, h1, h2⟩
        have l3 : (qs ++ [(x, y)]).length = qs.length + 1 := by simp
        have la3 : (as ++ [V.ref a3]).length = as.length + 1 := by simp
        refine ⟨_, rfl, rfl, _, rfl, ?_⟩
        refine ite2 (fun h5 => ?_) (fun h5 => hfin o3 (by omega) (by omega))
        refine ⟨_, rfl, D, _, rfl, .inl (SqL.of o3.hD), _, rfl, _, _, rfl, rfl, _, rfl, ?_⟩
        refine ite2 (fun h6 => ?_) (fun h6 => hfin o3 (by omega) (by omega))
        obtain ⟨n5, hp5, hn5, zn5⟩ := o3.g.has
        refine ⟨_, rfl, p, n5, 3, rfl, hp5, hn5, zn5, by decide, szn (by decide) (by decide), fun e n6 e0 e3 hn6 zn6 => ?_⟩
        have o4 := o3.pool hn6 zn6
        refine ⟨rfl, _, rfl, ?_⟩
        refine ite2 (fun h7 => ?_) (fun h7 => hfin o4 (by omega) (by omega))
        refine ⟨_, rfl, .inl ⟨rfl, _, SqL.of o4.hD⟩, _, rfl, _, rfl, by simp; exact small_len (n := 2) (by decide), fun a4 ha4 => ?_⟩
        obtain ⟨ap4, Da4, o5⟩ := o4.push zxy ha4
        refine ⟨D, _, _, rfl, rfl, by rw [upd_ne Da4]; exact o4.hD, small_lt (by omega), ?_⟩
        exact hfin o5 (by rw [List.length_append]; omega) (by rw [List.length_append, l3]; simp; omega)
    · rintro σ' H' ⟨F', qs, as, vx, vy, rfl, o, q1, q2⟩
      refine ⟨_, rfl, _, rfl, most, rfl, D, as, rfl, SqL.of o.hD, fun c hc => ?_⟩
      obtain ⟨n7, hp7, _, _⟩ := o.g.has
      have hcp : c ≠ p := fun z => by rw [z, hp7] at hc; cases hc
      obtain ⟨c1, c2⟩ := o.g.back hcp hc
      have g2 := (o.g.mut (o := .lst (cutV as none (some most))) hcp c1 c2).keep hcp c1 c2 upd_same
      obtain ⟨mn, rfl⟩ := Int.eq_ofNat_of_zero_le (show 0 ≤ most by omega)
      have hr7 := RpL.mono (Evl.Ex.new (o := .lst (cutV as none (some ((mn : Nat) : Int)))) c2) _ (rpl_cut o.r none (some ((mn : Nat) : Int)))
      rw [cut_to, ← List.map_take] at hr7
      have lt : (qs.take mn).length = min mn qs.length := List.length_take
      refine hq _ _ c (qs.take mn) g2 ⟨c, _, rfl, upd_same, hr7⟩ (by omega) (by omega) (fun q hq => o.z q (List.mem_of_mem_take hq))
end
end G
namespace G
open PySem PySem.Spec PyProof.Rows L2 DL M
section
variable {P : Program} {w : World} {K : PySem.W.Frag} {mg : Str → Option Value} {base : Heap}
theorem tb_on (P Q : List Pt) (s : Rat) : tb "on" P Q s = onOk (tS s) (stl P) (stl Q) := if_pos rfl
theorem tb_part (P Q : List Pt) (s : Rat) : tb "part" P Q s = partOk (tS s) (stl P) (stl Q) := by
  unfold tb
  rw [if_neg (by decide +kernel), if_pos rfl]
theorem tb_free (P Q : List Pt) (s : Rat) : tb "free" P Q s = true := by
  unfold tb
  rw [if_neg (by decide +kernel), if_neg (by decide +kernel), if_pos rfl]
theorem tb_hops (P Q : List Pt) (s : Rat) : tb "hops" P Q s = hopOk (tS s) P Q := by
  unfold tb
  rw [if_neg (by decide +kernel), if_neg (by decide +kernel), if_neg (by decide +kernel)]
theorem lr_f {w : Str} {F : (Rat → Bool) → List Pt → List Pt → Bool} (hw : ∀ P Q s, tb w P Q s = F (tS s) P Q) {P Q : List Pt} {r : Rat} (h : LR w P Q r) : LRF F P Q r := by
  obtain ⟨zs, i, a, b, c, d, e⟩ := h
  refine ⟨zs, i, a, b, c, d.imp id ?_, e.imp id ?_⟩
  · rintro ⟨q, h1, h2⟩
    exact ⟨q, h1, by rw [← hw]; exact h2⟩
  · intro h
    rw [← hw]
    exact h
/-- three lines: what the law asks -/
theorem nl_tri {P Q R : List Pt} (h1 : P ≠ []) (h2 : Q ≠ []) (h3 : R ≠ []) : ∀ w ∈ tri, ∀ l a b, LR w.1 P R l → LR w.2.1 P Q a → LR w.2.2 Q R b → NL l a b := by
  intro w hw l a b hl ha hb
  unfold tri at hw
  have p1 := cands_nonneg P Q
  have p2 := cands_nonneg Q R
  rcases List.mem_cons.mp hw with e | hw
  · subst e
    exact three_on h1 h2 h3 p1 p2 (lr_f tb_on hl) (lr_f tb_on ha) (lr_f tb_on hb)
  rcases List.mem_cons.mp hw with e | hw
  · subst e
    exact three_hop h1 h2 h3 p1 p2 (lr_f tb_hops hl) (lr_f tb_hops ha) (lr_f tb_hops hb)
  · have e := List.mem_singleton.mp hw
    subst e
    exact three_part h1 h2 h3 p1 p2 (lr_f tb_part hl) (lr_f tb_part ha) (lr_f tb_on hb)
/-- a line and itself -/
theorem lr_same {w : Str} (hw : w ∈ ways) {P : List Pt} (h1 : P ≠ []) {r : Rat} (h : LR w P P r) : r = 0 := by
  have p := cands_nonneg P P
  unfold ways at hw
  rcases List.mem_cons.mp hw with e | hw
  · subst e
    exact lr_self on_way h1 p (lr_f tb_on h)
  rcases List.mem_cons.mp hw with e | hw
  · subst e
    exact lr_self part_way h1 p (lr_f tb_part h)
  rcases List.mem_cons.mp hw with e | hw
  · subst e
    exact lr_free (F := fun _ _ _ => true) h1 (fun _ => rfl) (lr_f (F := fun _ _ _ => true) tb_free h)
  · have e := List.mem_singleton.mp hw
    subst e
    exact lr_self hop_way h1 p (lr_f tb_hops h)
theorem hole_in {p : Addr} {F H : Hp} {o : HO} (e : Evl.Ex F H) (hp : H p = none) : Evl.Ex F (hole p (upd H p o)) := fun b u h => by
  have h1 := e b u h
  have hb : b ≠ p := fun z => by rw [z, hp] at h1; cases h1
  rw [hole_ne hb, upd_ne hb]
  exact h1
theorem GrP.out {p : Addr} {F H F' H' : Hp} {o : HO} (hp : H p = none) (g : GrP p F (upd H p o) F' H') : Evl.Ex H H' ∧ Evl.Ex F F' ∧ Evl.Ex F' H' :=
  ⟨fun b u h => by
    have hb : b ≠ p := fun z => by rw [z, hp] at h; cases h
    have := g.gr.eH b u (by rw [hole_ne hb, upd_ne hb]; exact h)
    rwa [hole_ne hb] at this, g.gr.eF, hole_ex g.gr.fh⟩
theorem at4 {d : Int} (h0 : 0 ≤ d) (h4 : d < 4) : ∃ x : Str, atI [V.str "on", .str "part", .str "free", .str "hops"] d = some (.str x) ∧ x ∈ ways := by
  have : d = 0 ∨ d = 1 ∨ d = 2 ∨ d = 3 := by omega
  rcases this with rfl | rfl | rfl | rfl
  · exact ⟨"on", rfl, by decide +kernel⟩
  · exact ⟨"part", rfl, by decide +kernel⟩
  · exact ⟨"free", rfl, by decide +kernel⟩
  · exact ⟨"hops", rfl, by decide +kernel⟩
theorem rg48 {m : Int} (h1 : 1 ≤ m) (h8 : m ≤ 8) : ∃ n : Nat, n ≤ 2 ∧ RgC 0 m 4 n := by
  have : m = 1 ∨ m = 2 ∨ m = 3 ∨ m = 4 ∨ m = 5 ∨ m = 6 ∨ m = 7 ∨ m = 8 := by omega
  rcases this with rfl | rfl | rfl | rfl | rfl | rfl | rfl | rfl
  · exact ⟨1, by decide, by decide, by decide, by decide +kernel, by decide +kernel⟩
  · exact ⟨1, by decide, by decide, by decide, by decide +kernel, by decide +kernel⟩
  · exact ⟨1, by decide, by decide, by decide, by decide +kernel, by decide +kernel⟩
  · exact ⟨1, by decide, by decide, by decide, by decide +kernel, by decide +kernel⟩
  · exact ⟨2, by decide, by decide, by decide, by decide +kernel, by decide +kernel⟩
  · exact ⟨2, by decide, by decide, by decide, by decide +kernel, by decide +kernel⟩
  · exact ⟨2, by decide, by decide, by decide, by decide +kernel, by decide +kernel⟩
  · exact ⟨2, by decide, by decide, by decide, by decide +kernel, by decide +kernel⟩
/-- an if whose test is read as data -/
def tIfP (p : ETe) (t u : TS) : TS := fun D σ H => ∃ (F : Hp) (ρ : EnvD) (k : Bool → Prop), Ok F H F H ρ σ ∧ p ρ k ∧ ∀ b F' H', Gr F H F' H' → k b → if b = true then t D σ H' else u D σ H'
theorem ps_ifP {X : Cx} {c : Expr} {a b : List Stmt} {tc : TT} {p : ETe} {t u : TS} {pos : Pos} (h : PDT X c tc p) (ha : PSs X a t) (hb : PSs X b u) : PS X (.If c a b pos) (tIfP p t u) := by
  refine ⟨fun pins s σ H D I g => (ps_if h.run ha hb).run pins s σ H D I ?_⟩
  obtain ⟨F, ρ, k, ok, hp, hk⟩ := g
  exact h.ev F H F H ρ σ k _ ok hp hk
def spLaw (K : PySem.W.Frag) : Sp := fun vs H Q _ => ∃ (a : Addr) (ns : List Int), vs = [.ref a] ∧ SqL K H a (ns.map V.int) ∧ ns.length ≤ 63 ∧ ∀ H', Q (.bl true) H'
abbrev nm_law : List Str := ["script", "at", "one", "other", "third", "way"]
theorem sc_law : FnScope nm_law ["script"] (defScope s_law) := ⟨rfl, rfl, rfl, by decide +kernel, rfl, by decide +kernel, by decide +kernel⟩
theorem ok_law (T : Txt K mg) {fd : FuncData} (F : FunD K "law" "law" (defArgs s_law) (defBody s_law) (defScope s_law) [] [] (He.ga K "law") fd) : FnOk P w K mg base CX0 24 (He.ga K "law") fd ["script"] (spLaw K) := by
  obtain ⟨fdt, Ft, Gt⟩ := ok_take (P := P) (w := w) (base := base) T
  have bt : Binds K fdt ["pool", "many"] [] := FunD.bindsN (x := "_law_take") (qual := "_law_take") (params := defArgs s__law_take) (body := defBody s__law_take) (scope := defScope s__law_take) Ft (fun _ _ _ _ _ _ us hl => match us, hl with | [_, _], _ => rfl)
  obtain ⟨fdl, Fl, Gl_⟩ := ok_line (P := P) (w := w) (base := base) T
  have bl : Binds K fdl ["pool", "most"] [] := FunD.bindsN (x := "_law_line") (qual := "_law_line") (params := defArgs s__law_line) (body := defBody s__law_line) (scope := defScope s__law_line) Fl (fun _ _ _ _ _ _ us hl => match us, hl with | [_, _], _ => rfl)
  obtain ⟨fdp, Fp, Gp⟩ := ok_pool (P := P) (w := w) (base := base) T
  have bp : Binds K fdp ["script", "k"] [] := FunD.bindsN (x := "_law_pool") (qual := "_law_pool") (params := defArgs s__law_pool) (body := defBody s__law_pool) (scope := defScope s__law_pool) Fp (fun _ _ _ _ _ _ us hl => match us, hl with | [_, _], _ => rfl)
  obtain ⟨fds, Fs, Gs⟩ := ok_second (P := P) (w := w) (base := base) T
  have bs : Binds K fds ["pool", "line", "most"] [] := FunD.bindsN (x := "_law_second") (qual := "_law_second") (params := defArgs s__law_second) (body := defBody s__law_second) (scope := defScope s__law_second) Fs (fun _ _ _ _ _ _ us hl => match us, hl with | [_, _, _], _ => rfl)
  refine FunD.ok (x := "law") (qual := "law") (params := defArgs s_law) (body := defBody s_law) (scope := defScope s_law) F sc_law (fun vs H Q E h => ?_) (fun cdv A outer s0 H vs Q E hr h => ?_)
  · obtain ⟨a, ns, rfl, _⟩ := h
    rfl
  · obtain ⟨a, ns, rfl, hS, hlen, hq⟩ := h
    refine ⟨_, PSs.nox (pss_cons (ps_for PassesOwn.never rfl (pi_range3 (by rfl) (f_range T) (pa_cons pe_int (pa_cons (pe_callB (call_max2 rfl) (by rfl) (f_max T) (by decide +kernel) (pa_cons pe_int (pa_cons (pe_callB (call_min2 rfl) (by rfl) (f_min T) (by decide +kernel) (pa_cons (pe_callB call_len_seq (by rfl) (f_len T) PySem.boot_len (pa_cons (pv 0) pa_nil)) (pa_cons pe_int pa_nil))) pa_nil))) (pa_cons pe_int pa_nil)))) (pg_name (i := 1) sc_law.nd rfl (by first | exact .inl rfl | exact .inr rfl))
        (pss_cons (ps_set (i := 2) sc_law.nd rfl (by first | exact .inl rfl | exact .inr rfl) (pe_call Gl_ (hr.mono (by decide)) (by rfl) (g__law_line T) Fl.kp bl .nil pass0 (pa_cons (pe_call Gp (hr.mono (by decide)) (by rfl) (g__law_pool T) Fp.kp bp .nil pass0 (pa_cons (pv 0) (pa_cons (pv 1) pa_nil))) (pa_cons pe_int pa_nil))) (by rfl))
        (pss_cons (ps_set (i := 3) sc_law.nd rfl (by first | exact .inl rfl | exact .inr rfl) (pe_call Gs (hr.mono (by decide)) (by rfl) (g__law_second T) Fs.kp bs .nil pass0 (pa_cons (pe_call Gp (hr.mono (by decide)) (by rfl) (g__law_pool T) Fp.kp bp .nil pass0 (pa_cons (pv 0) (pa_cons (pe_op op_add (pv 1) pe_int) pa_nil))) (pa_cons (pv 2) (pa_cons pe_int pa_nil)))) (by rfl))
        (pss_cons (ps_set (i := 4) sc_law.nd rfl (by first | exact .inl rfl | exact .inr rfl) (pe_call Gs (hr.mono (by decide)) (by rfl) (g__law_second T) Fs.kp bs .nil pass0 (pa_cons (pe_call Gp (hr.mono (by decide)) (by rfl) (g__law_pool T) Fp.kp bp .nil pass0 (pa_cons (pv 0) (pa_cons (pe_op op_add (pv 1) pe_int) pa_nil))) (pa_cons (pv 3) (pa_cons pe_int pa_nil)))) (by rfl))
        (pss_cons (ps_set (i := 5) sc_law.nd rfl (by first | exact .inl rfl | exact .inr rfl) (pe_ix ix_list (pe_lst (pa_cons pe_str (pa_cons pe_str (pa_cons pe_str (pa_cons pe_str pa_nil))))) (pe_call Gt (hr.mono (by decide)) (by rfl) (g__law_take T) Ft.kp bt .nil pass0 (pa_cons (pe_call Gp (hr.mono (by decide)) (by rfl) (g__law_pool T) Fp.kp bp .nil pass0 (pa_cons (pv 0) (pa_cons (pe_op op_add (pv 1) pe_int) pa_nil))) (pa_cons pe_int pa_nil))) (fun _ _ => rfl)) (by rfl))
        (pss_one (ps_ifP (pdw_or (pdt_cmp (op_neA hr.units) r2_ne (pd_ixK (K := K) rfl (pd_call (k_leash3 T) (hr.mono (by decide)) (by rfl) (pda_cons (pdv 4) (pda_cons (pd_sh (pl_list (by rfl) (f_list T) (pdv 4))) (pda_cons (pdv 5) pda_nil)))) pd_int) (pd_tup (pda_cons pd_int (pda_cons pd_int pda_nil)))) (pdw_or1 (pdt_not (pdt_val (pd_call (k__law_three T) (hr.mono (by decide)) (by rfl) (pda_cons (pdv 2) (pda_cons (pdv 3) (pda_cons (pdv 4) pda_nil)))))))).t (pss_one (ps_ret pe_bl)) pss_nil)))))))
      (pss_one (ps_ret pe_bl))), ?_⟩
    refine ⟨_, rfl, a, _, rfl, .inl hS, _, _, rfl, _, _, rfl, ?_⟩
    rw [List.length_map]
    generalize hM : (if (if (8 : Int) < (ns.length : Int) then (8 : Int) else (ns.length : Int)) > 1 then (if (8 : Int) < (ns.length : Int) then (8 : Int) else (ns.length : Int)) else 1) = M
    have hM1 : 1 ≤ M ∧ M ≤ 8 := by
      rw [← hM]
      split <;> split <;> omega
    obtain ⟨n, hn2, hrg⟩ := rg48 hM1.1 hM1.2
    refine ⟨0, M, 4, n, rfl, hrg, ?_⟩
    refine for_rangeC (fun i σ' H' => ∃ v1 v2 v3 v4 v5 : Option V, σ' = [some (.ref a), v1, v2, v3, v4, v5] ∧ SqL K H' a (ns.map V.int)) ⟨_, _, _, _, _, rfl, hS⟩ ?_ ?_
    · rintro i σ' H1 hi ⟨v1, v2, v3, v4, v5, rfl, hS1⟩
      have e0 : Evl.Ex (fun _ => none) H1 := fun b o h => by cases h
      refine ⟨_, rfl, _, rfl, a, ns, _, rfl, hS1, by omega, by omega, fun p1 m1 hp1 m10 zm1 => ?_⟩
      refine ⟨fun _ => none, p1, m1, 3, rfl, hole_in e0 hp1, upd_same, m10, zm1, by decide, by decide, fun F1 H2 l1 ps1 g1 r1 a1 b1 z1 => ?_⟩
      obtain ⟨x1, _, f1⟩ := g1.out hp1
      have hS2 := Evl.ex_l x1 hS1
      refine ⟨_, rfl, _, rfl, _, _, rfl, rfl, a, ns, _, rfl, hS2, by omega, by omega, fun p2 m2 hp2 m20 zm2 => ?_⟩
      refine ⟨_, rfl, F1, p2, _, ps1, m2, 4, rfl, hole_in f1 hp2, r1, a1, by omega, by omega, z1, upd_same, m20, zm2, by decide, by decide, fun F2 H3 l2 ps2 g2 r2 a2 b2 z2 => ?_⟩
      obtain ⟨x2, k2, f2⟩ := g2.out hp2
      have hS3 := Evl.ex_l x2 hS2
      refine ⟨_, rfl, _, rfl, _, _, rfl, rfl, a, ns, _, rfl, hS3, by omega, by omega, fun p3 m3 hp3 m30 zm3 => ?_⟩
      refine ⟨_, rfl, F2, p3, _, ps2, m3, 4, rfl, hole_in f2 hp3, r2, a2, by omega, by omega, z2, upd_same, m30, zm3, by decide, by decide, fun F3 H4 l3 ps3 g3 r3 a3 b3 z3 => ?_⟩
      obtain ⟨x3, k3, f3⟩ := g3.out hp3
      have hS4 := Evl.ex_l x3 hS3
      refine ⟨by simp; exact small_len (n := 4) (by decide), fun c hc => ?_⟩
      have f4 : Evl.Ex F3 (upd H4 c (.lst [.str "on", .str "part", .str "free", .str "hops"])) := f3.trans (Evl.Ex.new hc)
      have hS5 := Evl.ex_l (Evl.Ex.new (o := .lst [.str "on", .str "part", .str "free", .str "hops"]) hc) hS4
      refine ⟨_, rfl, _, rfl, _, _, rfl, rfl, a, ns, _, rfl, hS5, by omega, by omega, fun p4 m4 hp4 m40 zm4 => ?_⟩
      refine ⟨p4, m4, 4, rfl, upd_same, m40, zm4, by decide, szn (by decide) (by decide), fun d m5 d0 d4 m50 zm5 => ?_⟩
      rw [upd_upd]
      have e5 := Evl.Ex.new (o := .lst [.int m5]) hp4
      have f5 := f4.trans e5
      have hS6 := Evl.ex_l e5 hS5
      obtain ⟨wy, hwy, wyw⟩ := at4 d0 d4
      refine ⟨c, _, _, _, rfl, rfl, SqL.of (e5 _ _ upd_same), hwy, ?_⟩
      generalize upd (upd H4 c (.lst [.str "on", .str "part", .str "free", .str "hops"])) p4 (.lst [.int m5]) = H5 at f5 hS6
      have q1 := Rp.mono (k2.trans k3) _ r1
      have q2 := Rp.mono k3 _ r2
      have y1 : Lz ps1 := ⟨fun z => by rw [z] at a1; simp at a1, by omega, z1⟩
      have y2 : Lz ps2 := ⟨fun z => by rw [z] at a2; simp at a2, by omega, z2⟩
      have y3 : Lz ps3 := ⟨fun z => by rw [z] at a3; simp at a3, by omega, z3⟩
      refine ⟨F3, [none, none, some (.sh (ln ps1)), some (.sh (ln ps2)), some (.sh (ln ps3)), some (.sh (.str wy))], fun b => b = false, ⟨rfl, Evl.Ex.refl _, Evl.Ex.refl _, f5, fun _ _ h => .inl h, fun i s h => ?_, fun i j s t h1 h2 h3 => ?_⟩, ?_, fun b F' H' g hb => ?_⟩
      · match i, h with
        | 0, h => cases h
        | 1, h => cases h
        | 2, h => cases h; exact ⟨_, rfl, q1⟩
        | 3, h => cases h; exact ⟨_, rfl, q2⟩
        | 4, h => cases h; exact ⟨_, rfl, r3⟩
        | 5, h => cases h; exact ⟨_, rfl, by unfold Rp; rfl⟩
        | n + 6, h => cases h
      · exfalso
        match i, h1 with
        | 0, h => cases h
        | 1, h => cases h
        | 2, h => cases h; cases h3
        | 3, h => cases h; cases h3
        | 4, h => cases h; cases h3
        | 5, h => cases h; cases h3
        | n + 6, h => cases h
      · refine ⟨_, rfl, _, rfl, _, rfl, _, rfl, wy, ps3, ps3, rfl, wyw, fun _ => rfl, y3, y3, cands_nonneg ps3 ps3, fun zs j r d1 d2 sz mz hz lz uz => ?_⟩
        obtain rfl := lr_same wyw y3.1 ⟨zs, j, sz, mz, hz, lz, uz⟩
        refine ⟨_, _, _, rfl, rfl, rfl, tl2, _, rfl, _, rfl, ?_⟩
        have ez : (true ^^ decide (Rat.num 0 = 0 ∧ ((Rat.den 0 : Nat) : Int) = 1)) = false := by decide
        rw [ez]
        refine iteF ?_
        exact ⟨_, rfl, _, rfl, _, rfl, ps1, ps2, ps3, rfl, y1, y2, y3, cands_nonneg, nl_tri y1.1 y2.1 y3.1, _, rfl, rfl⟩
      · rw [hb]
        exact ⟨_, _, _, _, _, rfl, Evl.ex_l g.eH hS6⟩
    · rintro σ' H' ⟨v1, v2, v3, v4, v5, rfl, hS'⟩
      exact hq _
end
end G
namespace G
open PySem PySem.Spec PyProof.Rows L2 DL M
theorem facts {P : Program} {w : World} {K : PySem.W.Frag} {h : Heap} {mg : Str → Option Value} {f : Addr} (X : K.In h) (N : h.Ns mainGlobals mg) (hfa : mg ("law" : Str) = some (.ref f)) (c : He.SaysD fa fn K) :
    ∃ fd : FuncData, (∀ (s : Shared) (v : Value), BindsTo s fd ⟨[v], []⟩ [("script", v)]) ∧ ∀ base : Heap, K.In base → base.Ns mainGlobals mg → FnOk P w K mg base CX0 24 f fd ["script"] (spLaw K) := by
  have T : Txt K mg := ⟨c, fun x h => He.glo_ok X N h, fun x h => He.free_ok X N h⟩
  have e := hfa.symm.trans (g_law T)
  cases e
  obtain ⟨fd, F⟩ := c.def_ 103 (d := d_law) rfl
  have b := FunD.bindsA (x := "law") (qual := "law") (params := defArgs s_law) (body := defBody s_law) (scope := defScope s_law) (ps := ["script"]) F fun _ _ _ _ _ _ us hl => match us, hl with | [_], _ => rfl
  exact ⟨fd, fun s v => b s [v] rfl, fun base _ _ => ok_law T F⟩
end G
open PySem PySem.W PySem.Calls PyProof.Rows
theorem PySem.Challenge.cw_oneleash_k68_whole_three_lines_holds : PySem.Challenge.rw_oneleash_k68_whole_three_lines.Holds := by
  w_on; o_law
  refine HandSHeadRun.head_any (r := OpenLaw.row PySem.Challenge.rw_oneleash_k68_whole_three_lines) (q := view (OpenLaw.row PySem.Challenge.rw_oneleash_k68_whole_three_lines).prog [117]) (H := G.hk) (ob := G.ob) (M := 6000) (loose := G.loose) (d := HandSHeadRun.topDef (OpenLaw.row PySem.Challenge.rw_oneleash_k68_whole_three_lines).prog 117) (kwd := []) G.ob_eq
    (by kernel_rfl) (fun s => by kernel_rfl) G.run (by kernel_rfl) (by kernel_rfl) (by kernel_rfl) (by rfl) (by first | assumption | decide +kernel) (by decide +kernel) ⟨rfl, rfl, rfl, rfl, rfl, by decide +kernel⟩ ?hw ?hc
  case hw => w_witness2
  case hc =>
    refine L2.walk_ofE (l := PySem.Challenge.rw_oneleash_k68_whole_three_lines) (n := 63) (k := 24) (x := "script") (CX := L2.CX0) rfl (by decide) (by kernel_rfl) ⟨rfl, by decide, by decide⟩ ?F (fun _ _ _ _ z => z)
    intro w mg fa h Y N hmg0
    obtain ⟨K, KX, c⟩ := Y
    have hmg : mg ("law" : PySem.Str) = some (.ref fa) := by
      have e : (HandSHeadRun.topDef (OpenLaw.row PySem.Challenge.rw_oneleash_k68_whole_three_lines).prog 117).name = ("law" : PySem.Str) := by kernel_rfl
      rw [← e]
      exact hmg0
    obtain ⟨fd, hb, hF⟩ := G.facts (P := (PySem.Challenge.rw_oneleash_k68_whole_three_lines).prog) (w := w) KX N hmg c
    exact ⟨K, fd, G.spLaw K, KX, hb, fun H a ns hl _ hS => ⟨a, ns, rfl, hS, hl, fun _ => rfl⟩, hF⟩
