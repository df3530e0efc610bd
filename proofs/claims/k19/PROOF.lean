import PyProof.Rows.All
import Wide.All
import OpenK.AllK
import Wide.FinOn
import KE.KStateDown
import Lean
import HandS.ForMost
import HandS.Exc
import HandS.ExcOwn
import HandS.Defaults
import HandS.Head0
import HandS.Head1
import HandS.Head2
import HandS.Head3
import HandS.HeadEnd
import HandS.HeadHook1
import HandS.HeadHook2
import PySem.Challenge.RW_stillarms_k19_whole_distances_for_all_po
import KE.KExcSuper
import KE.KSuper
import KE.KSuperObj
import HandS.IsInst
import HandS.Wide
import HandS.Gcd
import HandS.Style
import HandS.WordsExc
import HandS.Zip
import KE.GoesEnum
import HandS.SetBool
import HandS.Strs
import HandS.TupAny
import HandS.More
import HandS.Sort
import HandS.CallLocal
import HandS.TupLe
import HandS.TryMany
import HandS.TryOnly
import HandS.GenOver
import PyProof.GenQ
import PyProof.RulesTry
import HandS.GenYield
import PyProof.GenObj
import HandS.Ends
import HandS.EndBits
import HandS.EndTab
import HandS.HeadWalk
set_option Elab.async false
set_option linter.all false
set_option maxRecDepth 100000
set_option maxHeartbeats 0
namespace K19
open PySem PySem.Spec PyProof.Rows L2
/-! ### the text -/
def topS (i : Nat) : Stmt := PySem.Challenge.pw_stillarms_k19_whole_distances_for_all_po.main.body.getD i (.Pass ⟨0, 0, 0, 0⟩)
abbrev s_is_whole : Stmt := topS 11
abbrev s_is_ratio : Stmt := topS 12
abbrev s_is_from_zero : Stmt := topS 13
abbrev s_lowest_terms : Stmt := topS 14
abbrev s_plus : Stmt := topS 15
abbrev s_minus : Stmt := topS 16
abbrev s_times : Stmt := topS 17
abbrev s_size_of : Stmt := topS 18
abbrev s_compare : Stmt := topS 19
abbrev s_sum_of : Stmt := topS 20
abbrev s_greatest_of : Stmt := topS 21
abbrev s_is_spot : Stmt := topS 25
abbrev s_square_sum : Stmt := topS 26
abbrev s_is_direction : Stmt := topS 27
abbrev s_is_row : Stmt := topS 32
abbrev s_take_row : Stmt := topS 33
abbrev s_is_place_form : Stmt := topS 34
abbrev s_check_place : Stmt := topS 35
abbrev s_bad_bar : Stmt := topS 36
abbrev s_check_bars : Stmt := topS 37
abbrev s_Arms_init : Stmt := inClass (topS 38) 0
abbrev s_Arms_len : Stmt := inClass (topS 38) 1
abbrev s_Arms_line_row : Stmt := inClass (topS 38) 3
abbrev s_Arms_row_of : Stmt := inClass (topS 38) 4
abbrev s_Arms_difference_row : Stmt := inClass (topS 38) 6
abbrev s_first_wrong : Stmt := topS 40
abbrev s_check_pose : Stmt := topS 41
abbrev s_all_directions : Stmt := topS 42
abbrev s_poses_from : Stmt := topS 43
abbrev s_flat_poses : Stmt := topS 44
abbrev s_spot_of : Stmt := topS 45
abbrev s_square_between : Stmt := topS 46
abbrev s_far_ends : Stmt := topS 48
abbrev s_greatest_distance : Stmt := topS 49
abbrev s_least_distance : Stmt := topS 50
abbrev s_can_meet : Stmt := topS 51
abbrev s_flat_at : Stmt := topS 52
abbrev s_farthest_pose : Stmt := topS 53
abbrev s_nearest_pose : Stmt := topS 54
abbrev s_beyond_pose : Stmt := topS 55
abbrev s_law_hand : Stmt := topS 57
abbrev s_law_take : Stmt := topS 58
abbrev s_law_gcd : Stmt := topS 59
abbrev s_law_ratio : Stmt := topS 60
abbrev s_law_plus : Stmt := topS 61
abbrev s_law_less : Stmt := topS 62
abbrev s_law_times : Stmt := topS 63
abbrev s_law_over : Stmt := topS 64
abbrev s_law_below : Stmt := topS 65
abbrev s_law_size : Stmt := topS 66
abbrev s_law_sum : Stmt := topS 67
abbrev s_law_is_ratio : Stmt := topS 68
abbrev s_law_mark : Stmt := topS 69
abbrev s_law_strength : Stmt := topS 70
abbrev s_law_most : Stmt := topS 71
abbrev s_law_row : Stmt := topS 72
abbrev s_law_apart : Stmt := topS 73
abbrev s_law_direction : Stmt := topS 74
abbrev s_law_half : Stmt := topS 75
abbrev s_law_sine : Stmt := topS 76
abbrev s_law_wide : Stmt := topS 77
abbrev s_law_above : Stmt := topS 78
abbrev s_law_world : Stmt := topS 79
abbrev s_law_any_place : Stmt := topS 80
abbrev s_law_any_half : Stmt := topS 81
abbrev s_law_any_pose : Stmt := topS 82
abbrev s_law_stand : Stmt := topS 83
abbrev s_law_gap : Stmt := topS 84
abbrev s_law_square : Stmt := topS 85
abbrev s_law_same : Stmt := topS 86
abbrev s_law_truth : Stmt := topS 87
abbrev s_law_form : Stmt := topS 88
abbrev s_law_is_pose : Stmt := topS 89
abbrev s_law_is_flat : Stmt := topS 90
abbrev s_law_flats : Stmt := topS 91
abbrev s_law_pushed : Stmt := topS 92
abbrev s_law_reached : Stmt := topS 93
abbrev s_law_chain : Stmt := topS 94
abbrev s_law_drawn_row : Stmt := topS 95
abbrev s_law_closed : Stmt := topS 96
abbrev s_law_called : Stmt := topS 97
abbrev s_law_stray : Stmt := topS 98
abbrev s_law_limits : Stmt := topS 99
abbrev s_law_asked : Stmt := topS 100
abbrev s_law : Stmt := topS 101
/-! ### the defs by their places -/
def d_is_whole : He.DefD := ⟨("is_whole", none), "is_whole", "is_whole", defArgs s_is_whole, defBody s_is_whole, defScope s_is_whole, [.non, .non], []⟩
def d_is_ratio : He.DefD := ⟨("is_ratio", none), "is_ratio", "is_ratio", defArgs s_is_ratio, defBody s_is_ratio, defScope s_is_ratio, [], []⟩
def d_is_from_zero : He.DefD := ⟨("is_from_zero", none), "is_from_zero", "is_from_zero", defArgs s_is_from_zero, defBody s_is_from_zero, defScope s_is_from_zero, [], []⟩
def d_lowest_terms : He.DefD := ⟨("lowest_terms", none), "lowest_terms", "lowest_terms", defArgs s_lowest_terms, defBody s_lowest_terms, defScope s_lowest_terms, [], []⟩
def d_plus : He.DefD := ⟨("plus", none), "plus", "plus", defArgs s_plus, defBody s_plus, defScope s_plus, [], []⟩
def d_minus : He.DefD := ⟨("minus", none), "minus", "minus", defArgs s_minus, defBody s_minus, defScope s_minus, [], []⟩
def d_times : He.DefD := ⟨("times", none), "times", "times", defArgs s_times, defBody s_times, defScope s_times, [], []⟩
def d_size_of : He.DefD := ⟨("size_of", none), "size_of", "size_of", defArgs s_size_of, defBody s_size_of, defScope s_size_of, [], []⟩
def d_compare : He.DefD := ⟨("compare", none), "compare", "compare", defArgs s_compare, defBody s_compare, defScope s_compare, [], []⟩
def d_sum_of : He.DefD := ⟨("sum_of", none), "sum_of", "sum_of", defArgs s_sum_of, defBody s_sum_of, defScope s_sum_of, [], []⟩
def d_greatest_of : He.DefD := ⟨("greatest_of", none), "greatest_of", "greatest_of", defArgs s_greatest_of, defBody s_greatest_of, defScope s_greatest_of, [], []⟩
def d_is_spot : He.DefD := ⟨("is_spot", none), "is_spot", "is_spot", defArgs s_is_spot, defBody s_is_spot, defScope s_is_spot, [], []⟩
def d_square_sum : He.DefD := ⟨("square_sum", none), "square_sum", "square_sum", defArgs s_square_sum, defBody s_square_sum, defScope s_square_sum, [], []⟩
def d_is_direction : He.DefD := ⟨("is_direction", none), "is_direction", "is_direction", defArgs s_is_direction, defBody s_is_direction, defScope s_is_direction, [], []⟩
def d_is_row : He.DefD := ⟨("is_row", none), "is_row", "is_row", defArgs s_is_row, defBody s_is_row, defScope s_is_row, [], []⟩
def d_take_row : He.DefD := ⟨("take_row", none), "take_row", "take_row", defArgs s_take_row, defBody s_take_row, defScope s_take_row, [], []⟩
def d_is_place_form : He.DefD := ⟨("is_place_form", none), "is_place_form", "is_place_form", defArgs s_is_place_form, defBody s_is_place_form, defScope s_is_place_form, [], []⟩
def d_check_place : He.DefD := ⟨("check_place", none), "check_place", "check_place", defArgs s_check_place, defBody s_check_place, defScope s_check_place, [], []⟩
def d_bad_bar : He.DefD := ⟨("bad_bar", none), "bad_bar", "bad_bar", defArgs s_bad_bar, defBody s_bad_bar, defScope s_bad_bar, [], []⟩
def d_check_bars : He.DefD := ⟨("check_bars", none), "check_bars", "check_bars", defArgs s_check_bars, defBody s_check_bars, defScope s_check_bars, [], []⟩
def d_Arms_init : He.DefD := ⟨("Arms", some "__init__"), "__init__", "Arms.__init__", defArgs s_Arms_init, defBody s_Arms_init, defScope s_Arms_init, [], []⟩
def d_Arms_len : He.DefD := ⟨("Arms", some "__len__"), "__len__", "Arms.__len__", defArgs s_Arms_len, defBody s_Arms_len, defScope s_Arms_len, [], []⟩
def d_Arms_line_row : He.DefD := ⟨("Arms", some "line_row"), "line_row", "Arms.line_row", defArgs s_Arms_line_row, defBody s_Arms_line_row, defScope s_Arms_line_row, [], []⟩
def d_Arms_row_of : He.DefD := ⟨("Arms", some "row_of"), "row_of", "Arms.row_of", defArgs s_Arms_row_of, defBody s_Arms_row_of, defScope s_Arms_row_of, [], []⟩
def d_Arms_difference_row : He.DefD := ⟨("Arms", some "difference_row"), "difference_row", "Arms.difference_row", defArgs s_Arms_difference_row, defBody s_Arms_difference_row, defScope s_Arms_difference_row, [], []⟩
def d_first_wrong : He.DefD := ⟨("first_wrong", none), "first_wrong", "first_wrong", defArgs s_first_wrong, defBody s_first_wrong, defScope s_first_wrong, [], []⟩
def d_check_pose : He.DefD := ⟨("check_pose", none), "check_pose", "check_pose", defArgs s_check_pose, defBody s_check_pose, defScope s_check_pose, [], []⟩
def d_all_directions : He.DefD := ⟨("all_directions", none), "all_directions", "all_directions", defArgs s_all_directions, defBody s_all_directions, defScope s_all_directions, [], []⟩
def d_poses_from : He.DefD := ⟨("poses_from", none), "poses_from", "poses_from", defArgs s_poses_from, defBody s_poses_from, defScope s_poses_from, [], []⟩
def d_flat_poses : He.DefD := ⟨("flat_poses", none), "flat_poses", "flat_poses", defArgs s_flat_poses, defBody s_flat_poses, defScope s_flat_poses, [], []⟩
def d_spot_of : He.DefD := ⟨("spot_of", none), "spot_of", "spot_of", defArgs s_spot_of, defBody s_spot_of, defScope s_spot_of, [], []⟩
def d_square_between : He.DefD := ⟨("square_between", none), "square_between", "square_between", defArgs s_square_between, defBody s_square_between, defScope s_square_between, [], []⟩
def d_far_ends : He.DefD := ⟨("far_ends", none), "far_ends", "far_ends", defArgs s_far_ends, defBody s_far_ends, defScope s_far_ends, [], []⟩
def d_greatest_distance : He.DefD := ⟨("greatest_distance", none), "greatest_distance", "greatest_distance", defArgs s_greatest_distance, defBody s_greatest_distance, defScope s_greatest_distance, [], []⟩
def d_least_distance : He.DefD := ⟨("least_distance", none), "least_distance", "least_distance", defArgs s_least_distance, defBody s_least_distance, defScope s_least_distance, [], []⟩
def d_can_meet : He.DefD := ⟨("can_meet", none), "can_meet", "can_meet", defArgs s_can_meet, defBody s_can_meet, defScope s_can_meet, [], []⟩
def d_flat_at : He.DefD := ⟨("flat_at", none), "flat_at", "flat_at", defArgs s_flat_at, defBody s_flat_at, defScope s_flat_at, [], []⟩
def d_farthest_pose : He.DefD := ⟨("farthest_pose", none), "farthest_pose", "farthest_pose", defArgs s_farthest_pose, defBody s_farthest_pose, defScope s_farthest_pose, [], []⟩
def d_nearest_pose : He.DefD := ⟨("nearest_pose", none), "nearest_pose", "nearest_pose", defArgs s_nearest_pose, defBody s_nearest_pose, defScope s_nearest_pose, [], []⟩
def d_beyond_pose : He.DefD := ⟨("beyond_pose", none), "beyond_pose", "beyond_pose", defArgs s_beyond_pose, defBody s_beyond_pose, defScope s_beyond_pose, [], []⟩
def d_law_hand : He.DefD := ⟨("_law_hand", none), "_law_hand", "_law_hand", defArgs s_law_hand, defBody s_law_hand, defScope s_law_hand, [], []⟩
def d_law_take : He.DefD := ⟨("_law_take", none), "_law_take", "_law_take", defArgs s_law_take, defBody s_law_take, defScope s_law_take, [], []⟩
def d_law_gcd : He.DefD := ⟨("_law_gcd", none), "_law_gcd", "_law_gcd", defArgs s_law_gcd, defBody s_law_gcd, defScope s_law_gcd, [], []⟩
def d_law_ratio : He.DefD := ⟨("_law_ratio", none), "_law_ratio", "_law_ratio", defArgs s_law_ratio, defBody s_law_ratio, defScope s_law_ratio, [], []⟩
def d_law_plus : He.DefD := ⟨("_law_plus", none), "_law_plus", "_law_plus", defArgs s_law_plus, defBody s_law_plus, defScope s_law_plus, [], []⟩
def d_law_less : He.DefD := ⟨("_law_less", none), "_law_less", "_law_less", defArgs s_law_less, defBody s_law_less, defScope s_law_less, [], []⟩
def d_law_times : He.DefD := ⟨("_law_times", none), "_law_times", "_law_times", defArgs s_law_times, defBody s_law_times, defScope s_law_times, [], []⟩
def d_law_over : He.DefD := ⟨("_law_over", none), "_law_over", "_law_over", defArgs s_law_over, defBody s_law_over, defScope s_law_over, [], []⟩
def d_law_below : He.DefD := ⟨("_law_below", none), "_law_below", "_law_below", defArgs s_law_below, defBody s_law_below, defScope s_law_below, [], []⟩
def d_law_size : He.DefD := ⟨("_law_size", none), "_law_size", "_law_size", defArgs s_law_size, defBody s_law_size, defScope s_law_size, [], []⟩
def d_law_sum : He.DefD := ⟨("_law_sum", none), "_law_sum", "_law_sum", defArgs s_law_sum, defBody s_law_sum, defScope s_law_sum, [], []⟩
def d_law_is_ratio : He.DefD := ⟨("_law_is_ratio", none), "_law_is_ratio", "_law_is_ratio", defArgs s_law_is_ratio, defBody s_law_is_ratio, defScope s_law_is_ratio, [], []⟩
def d_law_mark : He.DefD := ⟨("_law_mark", none), "_law_mark", "_law_mark", defArgs s_law_mark, defBody s_law_mark, defScope s_law_mark, [], []⟩
def d_law_strength : He.DefD := ⟨("_law_strength", none), "_law_strength", "_law_strength", defArgs s_law_strength, defBody s_law_strength, defScope s_law_strength, [], []⟩
def d_law_most : He.DefD := ⟨("_law_most", none), "_law_most", "_law_most", defArgs s_law_most, defBody s_law_most, defScope s_law_most, [], []⟩
def d_law_row : He.DefD := ⟨("_law_row", none), "_law_row", "_law_row", defArgs s_law_row, defBody s_law_row, defScope s_law_row, [], []⟩
def d_law_apart : He.DefD := ⟨("_law_apart", none), "_law_apart", "_law_apart", defArgs s_law_apart, defBody s_law_apart, defScope s_law_apart, [], []⟩
def d_law_direction : He.DefD := ⟨("_law_direction", none), "_law_direction", "_law_direction", defArgs s_law_direction, defBody s_law_direction, defScope s_law_direction, [], []⟩
def d_law_half : He.DefD := ⟨("_law_half", none), "_law_half", "_law_half", defArgs s_law_half, defBody s_law_half, defScope s_law_half, [], []⟩
def d_law_sine : He.DefD := ⟨("_law_sine", none), "_law_sine", "_law_sine", defArgs s_law_sine, defBody s_law_sine, defScope s_law_sine, [], []⟩
def d_law_wide : He.DefD := ⟨("_law_wide", none), "_law_wide", "_law_wide", defArgs s_law_wide, defBody s_law_wide, defScope s_law_wide, [], []⟩
def d_law_above : He.DefD := ⟨("_law_above", none), "_law_above", "_law_above", defArgs s_law_above, defBody s_law_above, defScope s_law_above, [], []⟩
def d_law_world : He.DefD := ⟨("_law_world", none), "_law_world", "_law_world", defArgs s_law_world, defBody s_law_world, defScope s_law_world, [], []⟩
def d_law_any_place : He.DefD := ⟨("_law_any_place", none), "_law_any_place", "_law_any_place", defArgs s_law_any_place, defBody s_law_any_place, defScope s_law_any_place, [], []⟩
def d_law_any_half : He.DefD := ⟨("_law_any_half", none), "_law_any_half", "_law_any_half", defArgs s_law_any_half, defBody s_law_any_half, defScope s_law_any_half, [], []⟩
def d_law_any_pose : He.DefD := ⟨("_law_any_pose", none), "_law_any_pose", "_law_any_pose", defArgs s_law_any_pose, defBody s_law_any_pose, defScope s_law_any_pose, [], []⟩
def d_law_stand : He.DefD := ⟨("_law_stand", none), "_law_stand", "_law_stand", defArgs s_law_stand, defBody s_law_stand, defScope s_law_stand, [], []⟩
def d_law_gap : He.DefD := ⟨("_law_gap", none), "_law_gap", "_law_gap", defArgs s_law_gap, defBody s_law_gap, defScope s_law_gap, [], []⟩
def d_law_square : He.DefD := ⟨("_law_square", none), "_law_square", "_law_square", defArgs s_law_square, defBody s_law_square, defScope s_law_square, [], []⟩
def d_law_same : He.DefD := ⟨("_law_same", none), "_law_same", "_law_same", defArgs s_law_same, defBody s_law_same, defScope s_law_same, [], []⟩
def d_law_truth : He.DefD := ⟨("_law_truth", none), "_law_truth", "_law_truth", defArgs s_law_truth, defBody s_law_truth, defScope s_law_truth, [], []⟩
def d_law_form : He.DefD := ⟨("_law_form", none), "_law_form", "_law_form", defArgs s_law_form, defBody s_law_form, defScope s_law_form, [], []⟩
def d_law_is_pose : He.DefD := ⟨("_law_is_pose", none), "_law_is_pose", "_law_is_pose", defArgs s_law_is_pose, defBody s_law_is_pose, defScope s_law_is_pose, [], []⟩
def d_law_is_flat : He.DefD := ⟨("_law_is_flat", none), "_law_is_flat", "_law_is_flat", defArgs s_law_is_flat, defBody s_law_is_flat, defScope s_law_is_flat, [], []⟩
def d_law_flats : He.DefD := ⟨("_law_flats", none), "_law_flats", "_law_flats", defArgs s_law_flats, defBody s_law_flats, defScope s_law_flats, [], []⟩
def d_law_pushed : He.DefD := ⟨("_law_pushed", none), "_law_pushed", "_law_pushed", defArgs s_law_pushed, defBody s_law_pushed, defScope s_law_pushed, [], []⟩
def d_law_reached : He.DefD := ⟨("_law_reached", none), "_law_reached", "_law_reached", defArgs s_law_reached, defBody s_law_reached, defScope s_law_reached, [], []⟩
def d_law_chain : He.DefD := ⟨("_law_chain", none), "_law_chain", "_law_chain", defArgs s_law_chain, defBody s_law_chain, defScope s_law_chain, [], []⟩
def d_law_drawn_row : He.DefD := ⟨("_law_drawn_row", none), "_law_drawn_row", "_law_drawn_row", defArgs s_law_drawn_row, defBody s_law_drawn_row, defScope s_law_drawn_row, [], []⟩
def d_law_closed : He.DefD := ⟨("_law_closed", none), "_law_closed", "_law_closed", defArgs s_law_closed, defBody s_law_closed, defScope s_law_closed, [], []⟩
def d_law_called : He.DefD := ⟨("_law_called", none), "_law_called", "_law_called", defArgs s_law_called, defBody s_law_called, defScope s_law_called, [], []⟩
def d_law_stray : He.DefD := ⟨("_law_stray", none), "_law_stray", "_law_stray", defArgs s_law_stray, defBody s_law_stray, defScope s_law_stray, [], []⟩
def d_law_limits : He.DefD := ⟨("_law_limits", none), "_law_limits", "_law_limits", defArgs s_law_limits, defBody s_law_limits, defScope s_law_limits, [], []⟩
def d_law_asked : He.DefD := ⟨("_law_asked", none), "_law_asked", "_law_asked", defArgs s_law_asked, defBody s_law_asked, defScope s_law_asked, [], []⟩
def d_law : He.DefD := ⟨("law", none), "law", "law", defArgs s_law, defBody s_law, defScope s_law, [], []⟩
def fn0 : List He.DefD := [d_is_whole, d_is_ratio, d_is_from_zero, d_lowest_terms, d_plus, d_minus, d_times, d_size_of, d_compare, d_sum_of, d_greatest_of, d_is_spot, d_square_sum, d_is_direction, d_is_row, d_take_row, d_is_place_form, d_check_place, d_bad_bar, d_check_bars, d_Arms_init, d_Arms_len, d_Arms_line_row, d_Arms_row_of, d_Arms_difference_row, d_first_wrong, d_check_pose, d_all_directions, d_poses_from, d_flat_poses]
def fn1 : List He.DefD := [d_spot_of, d_square_between, d_far_ends, d_greatest_distance, d_least_distance, d_can_meet, d_flat_at, d_farthest_pose, d_nearest_pose, d_beyond_pose, d_law_hand, d_law_take, d_law_gcd, d_law_ratio, d_law_plus, d_law_less, d_law_times, d_law_over, d_law_below, d_law_size, d_law_sum, d_law_is_ratio, d_law_mark, d_law_strength, d_law_most, d_law_row, d_law_apart, d_law_direction, d_law_half, d_law_sine]
def fn2 : List He.DefD := [d_law_wide, d_law_above, d_law_world, d_law_any_place, d_law_any_half, d_law_any_pose, d_law_stand, d_law_gap, d_law_square, d_law_same, d_law_truth, d_law_form, d_law_is_pose, d_law_is_flat, d_law_flats, d_law_pushed, d_law_reached, d_law_chain, d_law_drawn_row, d_law_closed, d_law_called, d_law_stray, d_law_limits, d_law_asked, d_law]
def fn : List He.DefD := fn0 ++ fn1 ++ fn2
def fa0 : List He.Fa := [.glo "ArmError", .glo "BadPlace", .glo "BadArms", .glo "BadPose", .glo "BadLength", .glo "ZERO", .glo "ONE", .glo "is_whole", .glo "is_ratio", .glo "is_from_zero", .glo "lowest_terms", .glo "plus", .glo "minus", .glo "times", .glo "size_of", .glo "compare", .glo "sum_of", .glo "greatest_of", .glo "UP", .glo "DOWN", .glo "is_spot", .glo "square_sum", .glo "is_direction", .glo "is_row", .glo "take_row", .glo "is_place_form", .glo "check_place", .glo "bad_bar", .glo "check_bars", .glo "Arms", .glo "first_wrong", .glo "check_pose", .glo "all_directions", .glo "poses_from", .glo "flat_poses"]
def fa1 : List He.Fa := [.glo "spot_of", .glo "square_between", .glo "far_ends", .glo "greatest_distance", .glo "least_distance", .glo "can_meet", .glo "flat_at", .glo "farthest_pose", .glo "nearest_pose", .glo "beyond_pose", .glo "_law_hand", .glo "_law_take", .glo "_law_gcd", .glo "_law_ratio", .glo "_law_plus", .glo "_law_less", .glo "_law_times", .glo "_law_over", .glo "_law_below", .glo "_law_size", .glo "_law_sum", .glo "_law_is_ratio", .glo "_law_mark", .glo "_law_strength", .glo "_law_most", .glo "_law_row", .glo "_law_apart", .glo "_law_direction", .glo "_law_half", .glo "_law_sine", .glo "_law_wide", .glo "_law_above", .glo "_law_world", .glo "_law_any_place", .glo "_law_any_half"]
def fa2 : List He.Fa := [.glo "_law_any_pose", .glo "_law_stand", .glo "_law_gap", .glo "_law_square", .glo "_law_same", .glo "_law_truth", .glo "_law_form", .glo "_law_is_pose", .glo "_law_is_flat", .glo "_law_flats", .glo "_law_pushed", .glo "_law_reached", .glo "_law_chain", .glo "_law_drawn_row", .glo "_law_closed", .glo "_law_called", .glo "_law_stray", .glo "_law_limits", .glo "_law_asked", .glo "law", .free "len", .free "isinstance", .free "tuple", .free "list", .free "int", .free "bool", .free "abs", .free "max", .free "min", .free "range", .free "zip", .free "enumerate", .free "sorted", .free "super", .int "MAST" (-1)]
def fa3 : List He.Fa := [.int "MOST_BARS" 6, .int "MOST_LETTERS" 4, .cls "Arms", .mkr "Arms", .noat "Arms" "bars", .noat "Arms" "letters", .meth "Arms" "line_row", .meth "Arms" "row_of", .meth "Arms" "difference_row", .meth "Arms" "__len__"]
def fa : List He.Fa := fa0 ++ fa1 ++ fa2 ++ fa3
/-! ### the part of the heap that is told -/
def rf (o : Obj) : List Addr := match o.data with
  | .seq its _ => its.toList.flatMap He.refV
  | .dict es _ => es.toList.flatMap fun e => He.refV e.val
  | .func fd => He.refV fd.code ++ (He.refV fd.defaults ++ fd.closure.map (·.2))
  | .cls cd => cd.ns :: cd.mro.flatMap He.refV
  | .cell (some v) => He.refV v
  | _ => []
def lv (g : Addr → Option Obj) (as : List Addr) : List Addr := as.flatMap fun a => match g a with
  | some o => rf o
  | none => []
section
open HandSHeadRun
def frL {α : Type} : List Addr → (List Addr → α) → α
  | [], k => k []
  | a :: r, k => frNat a fun a => frL r fun r => k (a :: r)
theorem frL_eq {α : Type} : ∀ (l : List Addr) (k : List Addr → α), frL l k = k l
  | [], _ => rfl
  | a :: r, k => by
    show frNat a (fun a => frL r fun r => k (a :: r)) = _
    rw [frNat_eq, frL_eq r]
def frK {α : Type} : PySem.W.Frag → (PySem.W.Frag → α) → α
  | [], k => k []
  | p :: r, k => match p with
    | (a, o) => frNat a fun a => frK r fun r => k ((a, o) :: r)
theorem frK_eq {α : Type} : ∀ (l : PySem.W.Frag) (k : PySem.W.Frag → α), frK l k = k l
  | [], _ => rfl
  | (a, o) :: r, k => by
    show frNat a (fun a => frK r fun r => k ((a, o) :: r)) = _
    rw [frNat_eq, frK_eq r]
end
/-- all that is looked at -/
def inX {α : Type} (g : Addr → Option Obj) (k : PySem.W.Frag → α) : α := frL (lv g [mainGlobals]) fun l1 => frL (lv g l1) fun l2 => frL (lv g l2) fun l3 => frL (lv g l3) fun l4 =>
  frK (He.frG g (mainGlobals :: (l1 ++ (l2 ++ (l3 ++ l4))))) k
def asX (g : Addr → Option Obj) : List Addr := mainGlobals :: (lv g [mainGlobals] ++ (lv g (lv g [mainGlobals]) ++ (lv g (lv g (lv g [mainGlobals])) ++ lv g (lv g (lv g (lv g [mainGlobals]))))))
theorem inX_eq {α : Type} (g : Addr → Option Obj) (k : PySem.W.Frag → α) : inX g k = k (He.frG g (asX g)) := by
  unfold inX asX
  simp only [frL_eq, frK_eq]
/-! ### constants -/
def tupA (K : PySem.W.Frag) (a : Addr) (vs : List V) : Bool := match K.lookup a with
  | some ⟨.type c, _, .seq its _, _⟩ => decide (c = "tuple") && (decide (its.size ≤ sizeLine) && He.relAll vs its.toList)
  | _ => false
theorem tupA_ok {K : PySem.W.Frag} {a : Addr} {vs : List V} (h : tupA K a vs = true) (H : Hp) : SqT K H a vs := by
  unfold tupA at h
  split at h
  · rename_i c dd its n sl q
    simp only [Bool.and_eq_true, decide_eq_true_eq] at h
    obtain ⟨h1, h2, h3⟩ := h
    subst h1
    exact .inr ⟨_, its, n, q, rfl, rfl, h2, He.relAll_ok h3⟩
  · cases h
def itm (K : PySem.W.Frag) (a : Addr) (i : Nat) : Addr := match K.lookup a with
  | some ⟨_, _, .seq its _, _⟩ => (match its.toList[i]? with
    | some (.ref b) => b
    | _ => 0)
  | _ => 0
def gx (K : PySem.W.Frag) : Bool := tupA K (He.ga K "ZERO") [.int 0, .int 1] && (tupA K (He.ga K "ONE") [.int 1, .int 1] && (
  (tupA K (He.ga K "UP") [.ref (itm K (He.ga K "UP") 0), .ref (itm K (He.ga K "UP") 1)] && (tupA K (itm K (He.ga K "UP") 0) [.int 0, .int 1] && tupA K (itm K (He.ga K "UP") 1) [.int 1, .int 1])) && (
  (tupA K (He.ga K "DOWN") [.ref (itm K (He.ga K "DOWN") 0), .ref (itm K (He.ga K "DOWN") 1)] && (tupA K (itm K (He.ga K "DOWN") 0) [.int 0, .int 1] && tupA K (itm K (He.ga K "DOWN") 1) [.int (-1), .int 1])) &&
  decide (PySem.W.nsIn K mainGlobals "gcd" = some (some (.builtin "math.gcd"))))))
/-! ### what is seen -/
abbrev AlX : Type := Bool × List He.FnW
def seeX (K : PySem.W.Frag) : AlX := ((fa.all fun f => f.ok K) && ((fn.all fun d => d.ok K) && gx K), fn.map fun d => He.fnW K d.at_)
def valX : AlX := (true, fn.map He.DefD.val)
def hkX : PySem.W.Hook where
  α := AlX
  obs := fun s => inX s.heap.get? seeX
  val := fun _ => valX
  says := fun _ h => ∃ K : PySem.W.Frag, K.In h ∧ seeX K = valX
  of := fun s _ e => ⟨_, He.frG_in, by rw [inX_eq] at e; exact e⟩
  keeps := fun _ _ _ ⟨K, hK, c⟩ k => ⟨K, PySem.W.Frag.In.keeps hK k, c⟩
def obT (s : PySem.W.SharedT) : AlX := inX (HandSHeadRun.getT s) seeX
theorem obT_eq (s : PySem.W.SharedT) : obT s = hkX.obs s.abs := by
  have e : HandSHeadRun.getT s = s.abs.heap.get? := funext (HandSHeadRun.getT_eq s)
  show inX (HandSHeadRun.getT s) seeX = inX s.abs.heap.get? seeX
  rw [e]
/-- what the defs' proofs lean on -/
structure TX (K : PySem.W.Frag) (mg : Str → Option Value) : Prop where
  ns : ∃ h : Heap, K.In h ∧ h.Ns mainGlobals mg
  see : seeX K = valX
section
variable {K : PySem.W.Frag} {mg : Str → Option Value}
theorem TX.fact (T : TX K mg) (i : Nat) {f : He.Fa} (h : fa[i]? = some f := by rfl) : f.ok K = true :=
  List.all_eq_true.mp (Bool.and_eq_true_iff.mp (show ((fa.all fun f => f.ok K) && ((fn.all fun d => d.ok K) && gx K)) = true from congrArg (fun z : AlX => z.1) T.see)).1 f (List.mem_of_getElem? h)
theorem TX.gx (T : TX K mg) : gx K = true :=
  (Bool.and_eq_true_iff.mp (Bool.and_eq_true_iff.mp (show ((fa.all fun f => f.ok K) && ((fn.all fun d => d.ok K) && K19.gx K)) = true from congrArg (fun z : AlX => z.1) T.see)).2).2
theorem TX.def_ (T : TX K mg) (i : Nat) {d : He.DefD} (h : fn[i]? = some d := by rfl) : ∃ fd, FunD K d.name d.qual d.params d.body d.scope (d.dvs K) (d.kws K) (He.fAd K d.at_) fd := by
  have c2 := (Bool.and_eq_true_iff.mp (Bool.and_eq_true_iff.mp (show ((fa.all fun f => f.ok K) && ((fn.all fun d => d.ok K) && K19.gx K)) = true from congrArg (fun z : AlX => z.1) T.see)).2).1
  have e : fn.map (fun d => He.fnW K d.at_) = fn.map He.DefD.val := congrArg (fun z : AlX => z.2) T.see
  have e2 : (fn.map fun d => He.fnW K d.at_)[i]? = (fn.map He.DefD.val)[i]? := by rw [e]
  rw [List.getElem?_map, List.getElem?_map, h] at e2
  exact He.DefD.funD (Option.some.inj e2) (List.all_eq_true.mp c2 d (List.mem_of_getElem? h))
theorem TX.glo (T : TX K mg) (i : Nat) {x : Str} (h : fa[i]? = some (.glo x) := by rfl) : mg x = some (.ref (He.ga K x)) := by
  obtain ⟨hp, X, G⟩ := T.ns
  exact He.glo_ok X G (T.fact i h)
theorem TX.free (T : TX K mg) (i : Nat) {x : Str} (h : fa[i]? = some (.free x) := by rfl) : mg x = none := by
  obtain ⟨hp, X, G⟩ := T.ns
  exact He.free_ok X G (T.fact i h)
theorem TX.int (T : TX K mg) (i : Nat) {x : Str} {z : Int} (h : fa[i]? = some (.int x z) := by rfl) : ∃ t, mg x = some (.int z t) := by
  obtain ⟨hp, X, G⟩ := T.ns
  exact He.int_ok X G (T.fact i h)
theorem TX.gcd (T : TX K mg) : mg "gcd" = some (.builtin "math.gcd") := by
  obtain ⟨hp, X, G⟩ := T.ns
  have h := T.gx
  unfold K19.gx at h
  simp only [Bool.and_eq_true, decide_eq_true_eq] at h
  exact PySem.W.mg_of X G h.2.2.2.2
end
section
variable {K : PySem.W.Frag} {mg : Str → Option Value}
theorem g_ArmError (T : TX K mg) : mg "ArmError" = some (.ref (He.ga K "ArmError")) := T.glo 0
theorem g_BadPlace (T : TX K mg) : mg "BadPlace" = some (.ref (He.ga K "BadPlace")) := T.glo 1
theorem g_BadArms (T : TX K mg) : mg "BadArms" = some (.ref (He.ga K "BadArms")) := T.glo 2
theorem g_BadPose (T : TX K mg) : mg "BadPose" = some (.ref (He.ga K "BadPose")) := T.glo 3
theorem g_BadLength (T : TX K mg) : mg "BadLength" = some (.ref (He.ga K "BadLength")) := T.glo 4
theorem g_ZERO (T : TX K mg) : mg "ZERO" = some (.ref (He.ga K "ZERO")) := T.glo 5
theorem g_ONE (T : TX K mg) : mg "ONE" = some (.ref (He.ga K "ONE")) := T.glo 6
theorem g_is_whole (T : TX K mg) : mg "is_whole" = some (.ref (He.ga K "is_whole")) := T.glo 7
theorem g_is_ratio (T : TX K mg) : mg "is_ratio" = some (.ref (He.ga K "is_ratio")) := T.glo 8
theorem g_is_from_zero (T : TX K mg) : mg "is_from_zero" = some (.ref (He.ga K "is_from_zero")) := T.glo 9
theorem g_lowest_terms (T : TX K mg) : mg "lowest_terms" = some (.ref (He.ga K "lowest_terms")) := T.glo 10
theorem g_plus (T : TX K mg) : mg "plus" = some (.ref (He.ga K "plus")) := T.glo 11
theorem g_minus (T : TX K mg) : mg "minus" = some (.ref (He.ga K "minus")) := T.glo 12
theorem g_times (T : TX K mg) : mg "times" = some (.ref (He.ga K "times")) := T.glo 13
theorem g_size_of (T : TX K mg) : mg "size_of" = some (.ref (He.ga K "size_of")) := T.glo 14
theorem g_compare (T : TX K mg) : mg "compare" = some (.ref (He.ga K "compare")) := T.glo 15
theorem g_sum_of (T : TX K mg) : mg "sum_of" = some (.ref (He.ga K "sum_of")) := T.glo 16
theorem g_greatest_of (T : TX K mg) : mg "greatest_of" = some (.ref (He.ga K "greatest_of")) := T.glo 17
theorem g_UP (T : TX K mg) : mg "UP" = some (.ref (He.ga K "UP")) := T.glo 18
theorem g_DOWN (T : TX K mg) : mg "DOWN" = some (.ref (He.ga K "DOWN")) := T.glo 19
theorem g_is_spot (T : TX K mg) : mg "is_spot" = some (.ref (He.ga K "is_spot")) := T.glo 20
theorem g_square_sum (T : TX K mg) : mg "square_sum" = some (.ref (He.ga K "square_sum")) := T.glo 21
theorem g_is_direction (T : TX K mg) : mg "is_direction" = some (.ref (He.ga K "is_direction")) := T.glo 22
theorem g_is_row (T : TX K mg) : mg "is_row" = some (.ref (He.ga K "is_row")) := T.glo 23
theorem g_take_row (T : TX K mg) : mg "take_row" = some (.ref (He.ga K "take_row")) := T.glo 24
theorem g_is_place_form (T : TX K mg) : mg "is_place_form" = some (.ref (He.ga K "is_place_form")) := T.glo 25
theorem g_check_place (T : TX K mg) : mg "check_place" = some (.ref (He.ga K "check_place")) := T.glo 26
theorem g_bad_bar (T : TX K mg) : mg "bad_bar" = some (.ref (He.ga K "bad_bar")) := T.glo 27
theorem g_check_bars (T : TX K mg) : mg "check_bars" = some (.ref (He.ga K "check_bars")) := T.glo 28
theorem g_Arms (T : TX K mg) : mg "Arms" = some (.ref (He.ga K "Arms")) := T.glo 29
theorem g_first_wrong (T : TX K mg) : mg "first_wrong" = some (.ref (He.ga K "first_wrong")) := T.glo 30
theorem g_check_pose (T : TX K mg) : mg "check_pose" = some (.ref (He.ga K "check_pose")) := T.glo 31
theorem g_all_directions (T : TX K mg) : mg "all_directions" = some (.ref (He.ga K "all_directions")) := T.glo 32
theorem g_poses_from (T : TX K mg) : mg "poses_from" = some (.ref (He.ga K "poses_from")) := T.glo 33
theorem g_flat_poses (T : TX K mg) : mg "flat_poses" = some (.ref (He.ga K "flat_poses")) := T.glo 34
theorem g_spot_of (T : TX K mg) : mg "spot_of" = some (.ref (He.ga K "spot_of")) := T.glo 35
theorem g_square_between (T : TX K mg) : mg "square_between" = some (.ref (He.ga K "square_between")) := T.glo 36
theorem g_far_ends (T : TX K mg) : mg "far_ends" = some (.ref (He.ga K "far_ends")) := T.glo 37
theorem g_greatest_distance (T : TX K mg) : mg "greatest_distance" = some (.ref (He.ga K "greatest_distance")) := T.glo 38
theorem g_least_distance (T : TX K mg) : mg "least_distance" = some (.ref (He.ga K "least_distance")) := T.glo 39
theorem g_can_meet (T : TX K mg) : mg "can_meet" = some (.ref (He.ga K "can_meet")) := T.glo 40
theorem g_flat_at (T : TX K mg) : mg "flat_at" = some (.ref (He.ga K "flat_at")) := T.glo 41
theorem g_farthest_pose (T : TX K mg) : mg "farthest_pose" = some (.ref (He.ga K "farthest_pose")) := T.glo 42
theorem g_nearest_pose (T : TX K mg) : mg "nearest_pose" = some (.ref (He.ga K "nearest_pose")) := T.glo 43
theorem g_beyond_pose (T : TX K mg) : mg "beyond_pose" = some (.ref (He.ga K "beyond_pose")) := T.glo 44
theorem g_law_hand (T : TX K mg) : mg "_law_hand" = some (.ref (He.ga K "_law_hand")) := T.glo 45
theorem g_law_take (T : TX K mg) : mg "_law_take" = some (.ref (He.ga K "_law_take")) := T.glo 46
theorem g_law_gcd (T : TX K mg) : mg "_law_gcd" = some (.ref (He.ga K "_law_gcd")) := T.glo 47
theorem g_law_ratio (T : TX K mg) : mg "_law_ratio" = some (.ref (He.ga K "_law_ratio")) := T.glo 48
theorem g_law_plus (T : TX K mg) : mg "_law_plus" = some (.ref (He.ga K "_law_plus")) := T.glo 49
theorem g_law_less (T : TX K mg) : mg "_law_less" = some (.ref (He.ga K "_law_less")) := T.glo 50
theorem g_law_times (T : TX K mg) : mg "_law_times" = some (.ref (He.ga K "_law_times")) := T.glo 51
theorem g_law_over (T : TX K mg) : mg "_law_over" = some (.ref (He.ga K "_law_over")) := T.glo 52
theorem g_law_below (T : TX K mg) : mg "_law_below" = some (.ref (He.ga K "_law_below")) := T.glo 53
theorem g_law_size (T : TX K mg) : mg "_law_size" = some (.ref (He.ga K "_law_size")) := T.glo 54
theorem g_law_sum (T : TX K mg) : mg "_law_sum" = some (.ref (He.ga K "_law_sum")) := T.glo 55
theorem g_law_is_ratio (T : TX K mg) : mg "_law_is_ratio" = some (.ref (He.ga K "_law_is_ratio")) := T.glo 56
theorem g_law_mark (T : TX K mg) : mg "_law_mark" = some (.ref (He.ga K "_law_mark")) := T.glo 57
theorem g_law_strength (T : TX K mg) : mg "_law_strength" = some (.ref (He.ga K "_law_strength")) := T.glo 58
theorem g_law_most (T : TX K mg) : mg "_law_most" = some (.ref (He.ga K "_law_most")) := T.glo 59
theorem g_law_row (T : TX K mg) : mg "_law_row" = some (.ref (He.ga K "_law_row")) := T.glo 60
theorem g_law_apart (T : TX K mg) : mg "_law_apart" = some (.ref (He.ga K "_law_apart")) := T.glo 61
theorem g_law_direction (T : TX K mg) : mg "_law_direction" = some (.ref (He.ga K "_law_direction")) := T.glo 62
theorem g_law_half (T : TX K mg) : mg "_law_half" = some (.ref (He.ga K "_law_half")) := T.glo 63
theorem g_law_sine (T : TX K mg) : mg "_law_sine" = some (.ref (He.ga K "_law_sine")) := T.glo 64
theorem g_law_wide (T : TX K mg) : mg "_law_wide" = some (.ref (He.ga K "_law_wide")) := T.glo 65
theorem g_law_above (T : TX K mg) : mg "_law_above" = some (.ref (He.ga K "_law_above")) := T.glo 66
theorem g_law_world (T : TX K mg) : mg "_law_world" = some (.ref (He.ga K "_law_world")) := T.glo 67
theorem g_law_any_place (T : TX K mg) : mg "_law_any_place" = some (.ref (He.ga K "_law_any_place")) := T.glo 68
theorem g_law_any_half (T : TX K mg) : mg "_law_any_half" = some (.ref (He.ga K "_law_any_half")) := T.glo 69
theorem g_law_any_pose (T : TX K mg) : mg "_law_any_pose" = some (.ref (He.ga K "_law_any_pose")) := T.glo 70
theorem g_law_stand (T : TX K mg) : mg "_law_stand" = some (.ref (He.ga K "_law_stand")) := T.glo 71
theorem g_law_gap (T : TX K mg) : mg "_law_gap" = some (.ref (He.ga K "_law_gap")) := T.glo 72
theorem g_law_square (T : TX K mg) : mg "_law_square" = some (.ref (He.ga K "_law_square")) := T.glo 73
theorem g_law_same (T : TX K mg) : mg "_law_same" = some (.ref (He.ga K "_law_same")) := T.glo 74
theorem g_law_truth (T : TX K mg) : mg "_law_truth" = some (.ref (He.ga K "_law_truth")) := T.glo 75
theorem g_law_form (T : TX K mg) : mg "_law_form" = some (.ref (He.ga K "_law_form")) := T.glo 76
theorem g_law_is_pose (T : TX K mg) : mg "_law_is_pose" = some (.ref (He.ga K "_law_is_pose")) := T.glo 77
theorem g_law_is_flat (T : TX K mg) : mg "_law_is_flat" = some (.ref (He.ga K "_law_is_flat")) := T.glo 78
theorem g_law_flats (T : TX K mg) : mg "_law_flats" = some (.ref (He.ga K "_law_flats")) := T.glo 79
theorem g_law_pushed (T : TX K mg) : mg "_law_pushed" = some (.ref (He.ga K "_law_pushed")) := T.glo 80
theorem g_law_reached (T : TX K mg) : mg "_law_reached" = some (.ref (He.ga K "_law_reached")) := T.glo 81
theorem g_law_chain (T : TX K mg) : mg "_law_chain" = some (.ref (He.ga K "_law_chain")) := T.glo 82
theorem g_law_drawn_row (T : TX K mg) : mg "_law_drawn_row" = some (.ref (He.ga K "_law_drawn_row")) := T.glo 83
theorem g_law_closed (T : TX K mg) : mg "_law_closed" = some (.ref (He.ga K "_law_closed")) := T.glo 84
theorem g_law_called (T : TX K mg) : mg "_law_called" = some (.ref (He.ga K "_law_called")) := T.glo 85
theorem g_law_stray (T : TX K mg) : mg "_law_stray" = some (.ref (He.ga K "_law_stray")) := T.glo 86
theorem g_law_limits (T : TX K mg) : mg "_law_limits" = some (.ref (He.ga K "_law_limits")) := T.glo 87
theorem g_law_asked (T : TX K mg) : mg "_law_asked" = some (.ref (He.ga K "_law_asked")) := T.glo 88
theorem g_law (T : TX K mg) : mg "law" = some (.ref (He.ga K "law")) := T.glo 89
theorem n_len (T : TX K mg) : mg "len" = none := T.free 90
theorem n_isinstance (T : TX K mg) : mg "isinstance" = none := T.free 91
theorem n_tuple (T : TX K mg) : mg "tuple" = none := T.free 92
theorem n_list (T : TX K mg) : mg "list" = none := T.free 93
theorem n_int (T : TX K mg) : mg "int" = none := T.free 94
theorem n_bool (T : TX K mg) : mg "bool" = none := T.free 95
theorem n_abs (T : TX K mg) : mg "abs" = none := T.free 96
theorem n_max (T : TX K mg) : mg "max" = none := T.free 97
theorem n_min (T : TX K mg) : mg "min" = none := T.free 98
theorem n_range (T : TX K mg) : mg "range" = none := T.free 99
theorem n_zip (T : TX K mg) : mg "zip" = none := T.free 100
theorem n_enumerate (T : TX K mg) : mg "enumerate" = none := T.free 101
theorem n_sorted (T : TX K mg) : mg "sorted" = none := T.free 102
theorem n_super (T : TX K mg) : mg "super" = none := T.free 103
theorem i_MAST (T : TX K mg) : ∃ t, mg "MAST" = some (.int (-1) t) := T.int 104
theorem i_MOST_BARS (T : TX K mg) : ∃ t, mg "MOST_BARS" = some (.int 6 t) := T.int 105
theorem i_MOST_LETTERS (T : TX K mg) : ∃ t, mg "MOST_LETTERS" = some (.int 4 t) := T.int 106
theorem c_Arms (T : TX K mg) : Cls K (He.ga K "Arms") := He.cls_ok (T.fact 107)
theorem k_Arms (T : TX K mg) : Mk K (He.ga K "Arms") (He.ma K (He.ga K "Arms") "__init__") := He.mkr_ok (T.fact 108)
theorem a_bars (T : TX K mg) : NoAttr K (He.ga K "Arms") "bars" := He.noat_ok (T.fact 109)
theorem a_letters (T : TX K mg) : NoAttr K (He.ga K "Arms") "letters" := He.noat_ok (T.fact 110)
theorem m_line_row (T : TX K mg) : Meth K (He.ga K "Arms") "line_row" (He.ma K (He.ga K "Arms") "line_row") := He.meth_ok (T.fact 111)
theorem m_row_of (T : TX K mg) : Meth K (He.ga K "Arms") "row_of" (He.ma K (He.ga K "Arms") "row_of") := He.meth_ok (T.fact 112)
theorem m_difference_row (T : TX K mg) : Meth K (He.ga K "Arms") "difference_row" (He.ma K (He.ga K "Arms") "difference_row") := He.meth_ok (T.fact 113)
theorem m_len (T : TX K mg) : Meth K (He.ga K "Arms") "__len__" (He.ma K (He.ga K "Arms") "__len__") := He.meth_ok (T.fact 114)
theorem f_is_whole (T : TX K mg) : ∃ fd, FunD K "is_whole" "is_whole" (defArgs s_is_whole) (defBody s_is_whole) (defScope s_is_whole) [.non, .non] [] (He.ga K "is_whole") fd := T.def_ 0 (d := d_is_whole)
theorem f_is_ratio (T : TX K mg) : ∃ fd, FunD K "is_ratio" "is_ratio" (defArgs s_is_ratio) (defBody s_is_ratio) (defScope s_is_ratio) [] [] (He.ga K "is_ratio") fd := T.def_ 1 (d := d_is_ratio)
theorem f_is_from_zero (T : TX K mg) : ∃ fd, FunD K "is_from_zero" "is_from_zero" (defArgs s_is_from_zero) (defBody s_is_from_zero) (defScope s_is_from_zero) [] [] (He.ga K "is_from_zero") fd := T.def_ 2 (d := d_is_from_zero)
theorem f_lowest_terms (T : TX K mg) : ∃ fd, FunD K "lowest_terms" "lowest_terms" (defArgs s_lowest_terms) (defBody s_lowest_terms) (defScope s_lowest_terms) [] [] (He.ga K "lowest_terms") fd := T.def_ 3 (d := d_lowest_terms)
theorem f_plus (T : TX K mg) : ∃ fd, FunD K "plus" "plus" (defArgs s_plus) (defBody s_plus) (defScope s_plus) [] [] (He.ga K "plus") fd := T.def_ 4 (d := d_plus)
theorem f_minus (T : TX K mg) : ∃ fd, FunD K "minus" "minus" (defArgs s_minus) (defBody s_minus) (defScope s_minus) [] [] (He.ga K "minus") fd := T.def_ 5 (d := d_minus)
theorem f_times (T : TX K mg) : ∃ fd, FunD K "times" "times" (defArgs s_times) (defBody s_times) (defScope s_times) [] [] (He.ga K "times") fd := T.def_ 6 (d := d_times)
theorem f_size_of (T : TX K mg) : ∃ fd, FunD K "size_of" "size_of" (defArgs s_size_of) (defBody s_size_of) (defScope s_size_of) [] [] (He.ga K "size_of") fd := T.def_ 7 (d := d_size_of)
theorem f_compare (T : TX K mg) : ∃ fd, FunD K "compare" "compare" (defArgs s_compare) (defBody s_compare) (defScope s_compare) [] [] (He.ga K "compare") fd := T.def_ 8 (d := d_compare)
theorem f_sum_of (T : TX K mg) : ∃ fd, FunD K "sum_of" "sum_of" (defArgs s_sum_of) (defBody s_sum_of) (defScope s_sum_of) [] [] (He.ga K "sum_of") fd := T.def_ 9 (d := d_sum_of)
theorem f_greatest_of (T : TX K mg) : ∃ fd, FunD K "greatest_of" "greatest_of" (defArgs s_greatest_of) (defBody s_greatest_of) (defScope s_greatest_of) [] [] (He.ga K "greatest_of") fd := T.def_ 10 (d := d_greatest_of)
theorem f_is_spot (T : TX K mg) : ∃ fd, FunD K "is_spot" "is_spot" (defArgs s_is_spot) (defBody s_is_spot) (defScope s_is_spot) [] [] (He.ga K "is_spot") fd := T.def_ 11 (d := d_is_spot)
theorem f_square_sum (T : TX K mg) : ∃ fd, FunD K "square_sum" "square_sum" (defArgs s_square_sum) (defBody s_square_sum) (defScope s_square_sum) [] [] (He.ga K "square_sum") fd := T.def_ 12 (d := d_square_sum)
theorem f_is_direction (T : TX K mg) : ∃ fd, FunD K "is_direction" "is_direction" (defArgs s_is_direction) (defBody s_is_direction) (defScope s_is_direction) [] [] (He.ga K "is_direction") fd := T.def_ 13 (d := d_is_direction)
theorem f_is_row (T : TX K mg) : ∃ fd, FunD K "is_row" "is_row" (defArgs s_is_row) (defBody s_is_row) (defScope s_is_row) [] [] (He.ga K "is_row") fd := T.def_ 14 (d := d_is_row)
theorem f_take_row (T : TX K mg) : ∃ fd, FunD K "take_row" "take_row" (defArgs s_take_row) (defBody s_take_row) (defScope s_take_row) [] [] (He.ga K "take_row") fd := T.def_ 15 (d := d_take_row)
theorem f_is_place_form (T : TX K mg) : ∃ fd, FunD K "is_place_form" "is_place_form" (defArgs s_is_place_form) (defBody s_is_place_form) (defScope s_is_place_form) [] [] (He.ga K "is_place_form") fd := T.def_ 16 (d := d_is_place_form)
theorem f_check_place (T : TX K mg) : ∃ fd, FunD K "check_place" "check_place" (defArgs s_check_place) (defBody s_check_place) (defScope s_check_place) [] [] (He.ga K "check_place") fd := T.def_ 17 (d := d_check_place)
theorem f_bad_bar (T : TX K mg) : ∃ fd, FunD K "bad_bar" "bad_bar" (defArgs s_bad_bar) (defBody s_bad_bar) (defScope s_bad_bar) [] [] (He.ga K "bad_bar") fd := T.def_ 18 (d := d_bad_bar)
theorem f_check_bars (T : TX K mg) : ∃ fd, FunD K "check_bars" "check_bars" (defArgs s_check_bars) (defBody s_check_bars) (defScope s_check_bars) [] [] (He.ga K "check_bars") fd := T.def_ 19 (d := d_check_bars)
theorem f_Arms_init (T : TX K mg) : ∃ fd, FunD K "__init__" "Arms.__init__" (defArgs s_Arms_init) (defBody s_Arms_init) (defScope s_Arms_init) [] [] (He.ma K (He.ga K "Arms") "__init__") fd := T.def_ 20 (d := d_Arms_init)
theorem f_Arms_len (T : TX K mg) : ∃ fd, FunD K "__len__" "Arms.__len__" (defArgs s_Arms_len) (defBody s_Arms_len) (defScope s_Arms_len) [] [] (He.ma K (He.ga K "Arms") "__len__") fd := T.def_ 21 (d := d_Arms_len)
theorem f_Arms_line_row (T : TX K mg) : ∃ fd, FunD K "line_row" "Arms.line_row" (defArgs s_Arms_line_row) (defBody s_Arms_line_row) (defScope s_Arms_line_row) [] [] (He.ma K (He.ga K "Arms") "line_row") fd := T.def_ 22 (d := d_Arms_line_row)
theorem f_Arms_row_of (T : TX K mg) : ∃ fd, FunD K "row_of" "Arms.row_of" (defArgs s_Arms_row_of) (defBody s_Arms_row_of) (defScope s_Arms_row_of) [] [] (He.ma K (He.ga K "Arms") "row_of") fd := T.def_ 23 (d := d_Arms_row_of)
theorem f_Arms_difference_row (T : TX K mg) : ∃ fd, FunD K "difference_row" "Arms.difference_row" (defArgs s_Arms_difference_row) (defBody s_Arms_difference_row) (defScope s_Arms_difference_row) [] [] (He.ma K (He.ga K "Arms") "difference_row") fd := T.def_ 24 (d := d_Arms_difference_row)
theorem f_first_wrong (T : TX K mg) : ∃ fd, FunD K "first_wrong" "first_wrong" (defArgs s_first_wrong) (defBody s_first_wrong) (defScope s_first_wrong) [] [] (He.ga K "first_wrong") fd := T.def_ 25 (d := d_first_wrong)
theorem f_check_pose (T : TX K mg) : ∃ fd, FunD K "check_pose" "check_pose" (defArgs s_check_pose) (defBody s_check_pose) (defScope s_check_pose) [] [] (He.ga K "check_pose") fd := T.def_ 26 (d := d_check_pose)
theorem f_all_directions (T : TX K mg) : ∃ fd, FunD K "all_directions" "all_directions" (defArgs s_all_directions) (defBody s_all_directions) (defScope s_all_directions) [] [] (He.ga K "all_directions") fd := T.def_ 27 (d := d_all_directions)
theorem f_poses_from (T : TX K mg) : ∃ fd, FunD K "poses_from" "poses_from" (defArgs s_poses_from) (defBody s_poses_from) (defScope s_poses_from) [] [] (He.ga K "poses_from") fd := T.def_ 28 (d := d_poses_from)
theorem f_flat_poses (T : TX K mg) : ∃ fd, FunD K "flat_poses" "flat_poses" (defArgs s_flat_poses) (defBody s_flat_poses) (defScope s_flat_poses) [] [] (He.ga K "flat_poses") fd := T.def_ 29 (d := d_flat_poses)
theorem f_spot_of (T : TX K mg) : ∃ fd, FunD K "spot_of" "spot_of" (defArgs s_spot_of) (defBody s_spot_of) (defScope s_spot_of) [] [] (He.ga K "spot_of") fd := T.def_ 30 (d := d_spot_of)
theorem f_square_between (T : TX K mg) : ∃ fd, FunD K "square_between" "square_between" (defArgs s_square_between) (defBody s_square_between) (defScope s_square_between) [] [] (He.ga K "square_between") fd := T.def_ 31 (d := d_square_between)
theorem f_far_ends (T : TX K mg) : ∃ fd, FunD K "far_ends" "far_ends" (defArgs s_far_ends) (defBody s_far_ends) (defScope s_far_ends) [] [] (He.ga K "far_ends") fd := T.def_ 32 (d := d_far_ends)
theorem f_greatest_distance (T : TX K mg) : ∃ fd, FunD K "greatest_distance" "greatest_distance" (defArgs s_greatest_distance) (defBody s_greatest_distance) (defScope s_greatest_distance) [] [] (He.ga K "greatest_distance") fd := T.def_ 33 (d := d_greatest_distance)
theorem f_least_distance (T : TX K mg) : ∃ fd, FunD K "least_distance" "least_distance" (defArgs s_least_distance) (defBody s_least_distance) (defScope s_least_distance) [] [] (He.ga K "least_distance") fd := T.def_ 34 (d := d_least_distance)
theorem f_can_meet (T : TX K mg) : ∃ fd, FunD K "can_meet" "can_meet" (defArgs s_can_meet) (defBody s_can_meet) (defScope s_can_meet) [] [] (He.ga K "can_meet") fd := T.def_ 35 (d := d_can_meet)
theorem f_flat_at (T : TX K mg) : ∃ fd, FunD K "flat_at" "flat_at" (defArgs s_flat_at) (defBody s_flat_at) (defScope s_flat_at) [] [] (He.ga K "flat_at") fd := T.def_ 36 (d := d_flat_at)
theorem f_farthest_pose (T : TX K mg) : ∃ fd, FunD K "farthest_pose" "farthest_pose" (defArgs s_farthest_pose) (defBody s_farthest_pose) (defScope s_farthest_pose) [] [] (He.ga K "farthest_pose") fd := T.def_ 37 (d := d_farthest_pose)
theorem f_nearest_pose (T : TX K mg) : ∃ fd, FunD K "nearest_pose" "nearest_pose" (defArgs s_nearest_pose) (defBody s_nearest_pose) (defScope s_nearest_pose) [] [] (He.ga K "nearest_pose") fd := T.def_ 38 (d := d_nearest_pose)
theorem f_beyond_pose (T : TX K mg) : ∃ fd, FunD K "beyond_pose" "beyond_pose" (defArgs s_beyond_pose) (defBody s_beyond_pose) (defScope s_beyond_pose) [] [] (He.ga K "beyond_pose") fd := T.def_ 39 (d := d_beyond_pose)
theorem f_law_hand (T : TX K mg) : ∃ fd, FunD K "_law_hand" "_law_hand" (defArgs s_law_hand) (defBody s_law_hand) (defScope s_law_hand) [] [] (He.ga K "_law_hand") fd := T.def_ 40 (d := d_law_hand)
theorem f_law_take (T : TX K mg) : ∃ fd, FunD K "_law_take" "_law_take" (defArgs s_law_take) (defBody s_law_take) (defScope s_law_take) [] [] (He.ga K "_law_take") fd := T.def_ 41 (d := d_law_take)
theorem f_law_gcd (T : TX K mg) : ∃ fd, FunD K "_law_gcd" "_law_gcd" (defArgs s_law_gcd) (defBody s_law_gcd) (defScope s_law_gcd) [] [] (He.ga K "_law_gcd") fd := T.def_ 42 (d := d_law_gcd)
theorem f_law_ratio (T : TX K mg) : ∃ fd, FunD K "_law_ratio" "_law_ratio" (defArgs s_law_ratio) (defBody s_law_ratio) (defScope s_law_ratio) [] [] (He.ga K "_law_ratio") fd := T.def_ 43 (d := d_law_ratio)
theorem f_law_plus (T : TX K mg) : ∃ fd, FunD K "_law_plus" "_law_plus" (defArgs s_law_plus) (defBody s_law_plus) (defScope s_law_plus) [] [] (He.ga K "_law_plus") fd := T.def_ 44 (d := d_law_plus)
theorem f_law_less (T : TX K mg) : ∃ fd, FunD K "_law_less" "_law_less" (defArgs s_law_less) (defBody s_law_less) (defScope s_law_less) [] [] (He.ga K "_law_less") fd := T.def_ 45 (d := d_law_less)
theorem f_law_times (T : TX K mg) : ∃ fd, FunD K "_law_times" "_law_times" (defArgs s_law_times) (defBody s_law_times) (defScope s_law_times) [] [] (He.ga K "_law_times") fd := T.def_ 46 (d := d_law_times)
theorem f_law_over (T : TX K mg) : ∃ fd, FunD K "_law_over" "_law_over" (defArgs s_law_over) (defBody s_law_over) (defScope s_law_over) [] [] (He.ga K "_law_over") fd := T.def_ 47 (d := d_law_over)
theorem f_law_below (T : TX K mg) : ∃ fd, FunD K "_law_below" "_law_below" (defArgs s_law_below) (defBody s_law_below) (defScope s_law_below) [] [] (He.ga K "_law_below") fd := T.def_ 48 (d := d_law_below)
theorem f_law_size (T : TX K mg) : ∃ fd, FunD K "_law_size" "_law_size" (defArgs s_law_size) (defBody s_law_size) (defScope s_law_size) [] [] (He.ga K "_law_size") fd := T.def_ 49 (d := d_law_size)
theorem f_law_sum (T : TX K mg) : ∃ fd, FunD K "_law_sum" "_law_sum" (defArgs s_law_sum) (defBody s_law_sum) (defScope s_law_sum) [] [] (He.ga K "_law_sum") fd := T.def_ 50 (d := d_law_sum)
theorem f_law_is_ratio (T : TX K mg) : ∃ fd, FunD K "_law_is_ratio" "_law_is_ratio" (defArgs s_law_is_ratio) (defBody s_law_is_ratio) (defScope s_law_is_ratio) [] [] (He.ga K "_law_is_ratio") fd := T.def_ 51 (d := d_law_is_ratio)
theorem f_law_mark (T : TX K mg) : ∃ fd, FunD K "_law_mark" "_law_mark" (defArgs s_law_mark) (defBody s_law_mark) (defScope s_law_mark) [] [] (He.ga K "_law_mark") fd := T.def_ 52 (d := d_law_mark)
theorem f_law_strength (T : TX K mg) : ∃ fd, FunD K "_law_strength" "_law_strength" (defArgs s_law_strength) (defBody s_law_strength) (defScope s_law_strength) [] [] (He.ga K "_law_strength") fd := T.def_ 53 (d := d_law_strength)
theorem f_law_most (T : TX K mg) : ∃ fd, FunD K "_law_most" "_law_most" (defArgs s_law_most) (defBody s_law_most) (defScope s_law_most) [] [] (He.ga K "_law_most") fd := T.def_ 54 (d := d_law_most)
theorem f_law_row (T : TX K mg) : ∃ fd, FunD K "_law_row" "_law_row" (defArgs s_law_row) (defBody s_law_row) (defScope s_law_row) [] [] (He.ga K "_law_row") fd := T.def_ 55 (d := d_law_row)
theorem f_law_apart (T : TX K mg) : ∃ fd, FunD K "_law_apart" "_law_apart" (defArgs s_law_apart) (defBody s_law_apart) (defScope s_law_apart) [] [] (He.ga K "_law_apart") fd := T.def_ 56 (d := d_law_apart)
theorem f_law_direction (T : TX K mg) : ∃ fd, FunD K "_law_direction" "_law_direction" (defArgs s_law_direction) (defBody s_law_direction) (defScope s_law_direction) [] [] (He.ga K "_law_direction") fd := T.def_ 57 (d := d_law_direction)
theorem f_law_half (T : TX K mg) : ∃ fd, FunD K "_law_half" "_law_half" (defArgs s_law_half) (defBody s_law_half) (defScope s_law_half) [] [] (He.ga K "_law_half") fd := T.def_ 58 (d := d_law_half)
theorem f_law_sine (T : TX K mg) : ∃ fd, FunD K "_law_sine" "_law_sine" (defArgs s_law_sine) (defBody s_law_sine) (defScope s_law_sine) [] [] (He.ga K "_law_sine") fd := T.def_ 59 (d := d_law_sine)
theorem f_law_wide (T : TX K mg) : ∃ fd, FunD K "_law_wide" "_law_wide" (defArgs s_law_wide) (defBody s_law_wide) (defScope s_law_wide) [] [] (He.ga K "_law_wide") fd := T.def_ 60 (d := d_law_wide)
theorem f_law_above (T : TX K mg) : ∃ fd, FunD K "_law_above" "_law_above" (defArgs s_law_above) (defBody s_law_above) (defScope s_law_above) [] [] (He.ga K "_law_above") fd := T.def_ 61 (d := d_law_above)
theorem f_law_world (T : TX K mg) : ∃ fd, FunD K "_law_world" "_law_world" (defArgs s_law_world) (defBody s_law_world) (defScope s_law_world) [] [] (He.ga K "_law_world") fd := T.def_ 62 (d := d_law_world)
theorem f_law_any_place (T : TX K mg) : ∃ fd, FunD K "_law_any_place" "_law_any_place" (defArgs s_law_any_place) (defBody s_law_any_place) (defScope s_law_any_place) [] [] (He.ga K "_law_any_place") fd := T.def_ 63 (d := d_law_any_place)
theorem f_law_any_half (T : TX K mg) : ∃ fd, FunD K "_law_any_half" "_law_any_half" (defArgs s_law_any_half) (defBody s_law_any_half) (defScope s_law_any_half) [] [] (He.ga K "_law_any_half") fd := T.def_ 64 (d := d_law_any_half)
theorem f_law_any_pose (T : TX K mg) : ∃ fd, FunD K "_law_any_pose" "_law_any_pose" (defArgs s_law_any_pose) (defBody s_law_any_pose) (defScope s_law_any_pose) [] [] (He.ga K "_law_any_pose") fd := T.def_ 65 (d := d_law_any_pose)
theorem f_law_stand (T : TX K mg) : ∃ fd, FunD K "_law_stand" "_law_stand" (defArgs s_law_stand) (defBody s_law_stand) (defScope s_law_stand) [] [] (He.ga K "_law_stand") fd := T.def_ 66 (d := d_law_stand)
theorem f_law_gap (T : TX K mg) : ∃ fd, FunD K "_law_gap" "_law_gap" (defArgs s_law_gap) (defBody s_law_gap) (defScope s_law_gap) [] [] (He.ga K "_law_gap") fd := T.def_ 67 (d := d_law_gap)
theorem f_law_square (T : TX K mg) : ∃ fd, FunD K "_law_square" "_law_square" (defArgs s_law_square) (defBody s_law_square) (defScope s_law_square) [] [] (He.ga K "_law_square") fd := T.def_ 68 (d := d_law_square)
theorem f_law_same (T : TX K mg) : ∃ fd, FunD K "_law_same" "_law_same" (defArgs s_law_same) (defBody s_law_same) (defScope s_law_same) [] [] (He.ga K "_law_same") fd := T.def_ 69 (d := d_law_same)
theorem f_law_truth (T : TX K mg) : ∃ fd, FunD K "_law_truth" "_law_truth" (defArgs s_law_truth) (defBody s_law_truth) (defScope s_law_truth) [] [] (He.ga K "_law_truth") fd := T.def_ 70 (d := d_law_truth)
theorem f_law_form (T : TX K mg) : ∃ fd, FunD K "_law_form" "_law_form" (defArgs s_law_form) (defBody s_law_form) (defScope s_law_form) [] [] (He.ga K "_law_form") fd := T.def_ 71 (d := d_law_form)
theorem f_law_is_pose (T : TX K mg) : ∃ fd, FunD K "_law_is_pose" "_law_is_pose" (defArgs s_law_is_pose) (defBody s_law_is_pose) (defScope s_law_is_pose) [] [] (He.ga K "_law_is_pose") fd := T.def_ 72 (d := d_law_is_pose)
theorem f_law_is_flat (T : TX K mg) : ∃ fd, FunD K "_law_is_flat" "_law_is_flat" (defArgs s_law_is_flat) (defBody s_law_is_flat) (defScope s_law_is_flat) [] [] (He.ga K "_law_is_flat") fd := T.def_ 73 (d := d_law_is_flat)
theorem f_law_flats (T : TX K mg) : ∃ fd, FunD K "_law_flats" "_law_flats" (defArgs s_law_flats) (defBody s_law_flats) (defScope s_law_flats) [] [] (He.ga K "_law_flats") fd := T.def_ 74 (d := d_law_flats)
theorem f_law_pushed (T : TX K mg) : ∃ fd, FunD K "_law_pushed" "_law_pushed" (defArgs s_law_pushed) (defBody s_law_pushed) (defScope s_law_pushed) [] [] (He.ga K "_law_pushed") fd := T.def_ 75 (d := d_law_pushed)
theorem f_law_reached (T : TX K mg) : ∃ fd, FunD K "_law_reached" "_law_reached" (defArgs s_law_reached) (defBody s_law_reached) (defScope s_law_reached) [] [] (He.ga K "_law_reached") fd := T.def_ 76 (d := d_law_reached)
theorem f_law_chain (T : TX K mg) : ∃ fd, FunD K "_law_chain" "_law_chain" (defArgs s_law_chain) (defBody s_law_chain) (defScope s_law_chain) [] [] (He.ga K "_law_chain") fd := T.def_ 77 (d := d_law_chain)
theorem f_law_drawn_row (T : TX K mg) : ∃ fd, FunD K "_law_drawn_row" "_law_drawn_row" (defArgs s_law_drawn_row) (defBody s_law_drawn_row) (defScope s_law_drawn_row) [] [] (He.ga K "_law_drawn_row") fd := T.def_ 78 (d := d_law_drawn_row)
theorem f_law_closed (T : TX K mg) : ∃ fd, FunD K "_law_closed" "_law_closed" (defArgs s_law_closed) (defBody s_law_closed) (defScope s_law_closed) [] [] (He.ga K "_law_closed") fd := T.def_ 79 (d := d_law_closed)
theorem f_law_called (T : TX K mg) : ∃ fd, FunD K "_law_called" "_law_called" (defArgs s_law_called) (defBody s_law_called) (defScope s_law_called) [] [] (He.ga K "_law_called") fd := T.def_ 80 (d := d_law_called)
theorem f_law_stray (T : TX K mg) : ∃ fd, FunD K "_law_stray" "_law_stray" (defArgs s_law_stray) (defBody s_law_stray) (defScope s_law_stray) [] [] (He.ga K "_law_stray") fd := T.def_ 81 (d := d_law_stray)
theorem f_law_limits (T : TX K mg) : ∃ fd, FunD K "_law_limits" "_law_limits" (defArgs s_law_limits) (defBody s_law_limits) (defScope s_law_limits) [] [] (He.ga K "_law_limits") fd := T.def_ 82 (d := d_law_limits)
theorem f_law_asked (T : TX K mg) : ∃ fd, FunD K "_law_asked" "_law_asked" (defArgs s_law_asked) (defBody s_law_asked) (defScope s_law_asked) [] [] (He.ga K "_law_asked") fd := T.def_ 83 (d := d_law_asked)
theorem f_law (T : TX K mg) : ∃ fd, FunD K "law" "law" (defArgs s_law) (defBody s_law) (defScope s_law) [] [] (He.ga K "law") fd := T.def_ 84 (d := d_law)
end
end K19
set_option maxHeartbeats 0
namespace K19
open PySem PySem.Spec PyProof.Rows L2
def lo0 : List PySem.Str := ["_wall", "ArmError", "BadPlace", "BadArms", "BadPose", "BadLength", "ZERO", "ONE", "is_whole", "is_ratio", "is_from_zero", "lowest_terms", "plus", "minus", "times", "size_of", "compare", "sum_of", "greatest_of", "UP"]
def lo1 : List PySem.Str := ["DOWN", "is_spot", "square_sum", "is_direction", "MAST", "MOST_BARS", "MOST_LETTERS", "is_row", "take_row", "is_place_form", "check_place", "bad_bar", "check_bars", "Arms", "first_wrong", "check_pose", "all_directions", "poses_from", "flat_poses", "spot_of"]
def lo2 : List PySem.Str := ["square_between", "far_ends", "greatest_distance", "least_distance", "can_meet", "flat_at", "farthest_pose", "nearest_pose", "beyond_pose", "_law_hand", "_law_take", "_law_gcd", "_law_ratio", "_law_plus", "_law_less", "_law_times", "_law_over", "_law_below", "_law_size", "_law_sum"]
def lo3 : List PySem.Str := ["_law_is_ratio", "_law_mark", "_law_strength", "_law_most", "_law_row", "_law_apart", "_law_direction", "_law_half", "_law_sine", "_law_wide", "_law_above", "_law_world", "_law_any_place", "_law_any_half", "_law_any_pose", "_law_stand", "_law_gap", "_law_square", "_law_same", "_law_truth"]
def lo4 : List PySem.Str := ["_law_form", "_law_is_pose", "_law_is_flat", "_law_flats", "_law_pushed", "_law_reached", "_law_chain", "_law_drawn_row", "_law_closed", "_law_called", "_law_stray", "_law_limits", "_law_asked"]
def lo : List PySem.Str := lo0 ++ lo1 ++ lo2 ++ lo3 ++ lo4
abbrev RR : PySem.W.OpenRow := PySem.W.OpenLaw.row PySem.Challenge.rw_stillarms_k19_whole_distances_for_all_po
noncomputable abbrev W0 (w : World) := HandSHeadRun.wholeF (fun p => HandSHeadRun.stepQ (HandSHeadRun.denQ HandSHeadRun.tabQ) p w) HandSHeadRun.fenceQ 40000 RR.prog
end K19
namespace K19
open PySem PySem.Spec PyProof.Rows L2
abbrev veM : List Value := [.type "ValueError", .type "Exception", .type "BaseException", .type "object"]
abbrev veI : String := "ValueError.__init__"
/-! ### what is seen of them -/
abbrev PW0 : Program := PySem.Challenge.pw_stillarms_k19_whole_distances_for_all_po
abbrev s_BadPlace_init : Stmt := inClass (topS 4) 0
abbrev s_BadLength_init : Stmt := inClass (topS 7) 0
def ccOf (K : PySem.W.Frag) (f : Addr) : Addr := match K.lookup f with
  | some ⟨_, _, .func fd, _⟩ => (match fd.closure with
    | [(_, c)] => c
    | _ => 0)
  | _ => 0
def cdOf (K : PySem.W.Frag) (f : Addr) : Addr := match K.lookup f with
  | some ⟨_, _, .func fd, _⟩ => (match fd.code with
    | .ref c => c
    | _ => 0)
  | _ => 0
def fnB (K : PySem.W.Frag) (f : Addr) : Bool := match K.lookup f with
  | some ⟨_, _, .func fd, _⟩ => (match fd.code, fd.closure, fd.defaults with
    | .ref _, [_], .none => true
    | _, _, _ => false)
  | _ => false
def fileB (K : PySem.W.Frag) (c : Addr) : Bool := match K.lookup c with
  | some ⟨_, _, .fields vs, _⟩ => (match vs[2]? with
    | some (Value.str file _) => ((PW0.main.file : Str) == file)
    | _ => false)
  | _ => false
def cellB (K : PySem.W.Frag) (c C : Addr) : Bool := match K.lookup c with
  | some ⟨_, _, .cell (some v), _⟩ => decide (v = .ref C)
  | _ => false
def exB (K : PySem.W.Frag) (x qual : Str) : Bool :=
  PySem.W.excInitIn K (He.ga K x) veM "ValueError.__new__" && (decide (PySem.W.findIn K (.ref (He.ga K x)) "__init__" = some (some (.ref (He.ma K (He.ga K x) "__init__")))) && (decide (PySem.W.typeIn K (.ref (He.ma K (He.ga K x) "__init__")) = some (.type "function")) && (
  PySem.W.keepIn K (.ref (He.ga K x)) && (decide (PySem.W.subIn K (.ref (He.ga K x)) (.type "BaseException") = some true) && (decide (PySem.W.typeIn K (.ref (He.ga K x)) = some (.type "type")) && (
  decide (PySem.W.subIn K (.ref (He.ga K x)) (.type "ValueError") = some true) && (decide (PySem.W.mroIn K (He.ga K x) (.ref (He.ga K x)) = some true) && (decide (PySem.W.ks_superIn K (He.ga K x) (He.ga K x) "__init__" = some (some (.builtin veI))) && (
  decide (PySem.W.nsIn K cStatics "thirdparty.any" = some none) && (PySem.W.codeIn K (.ref (cdOf K (He.ma K (He.ga K x) "__init__"))) qual && (fnB K (He.ma K (He.ga K x) "__init__") && (fileB K (cdOf K (He.ma K (He.ga K x) "__init__")) && (
  cellB K (ccOf K (He.ma K (He.ga K x) "__init__")) (He.ga K x))))))))))))))
abbrev FnE : Type := Option (Str × Str × Arguments × FuncBody × Scope × Addr × List Str × Addr)
def fnE (K : PySem.W.Frag) (x : Str) : FnE := (He.fnW K (x, some "__init__")).map fun z => (z.1, z.2.1, z.2.2.1, z.2.2.2.1, z.2.2.2.2.1, z.2.2.2.2.2.1, z.2.2.2.2.2.2.1.map (·.1), z.2.2.2.2.2.2.2)
def valFn (qual : Str) (st : Stmt) : FnE := some ("__init__", qual, defArgs st, .stmts (defBody st), defScope st, mainGlobals, ["__class__"], builtinsNs)
def eX (K : PySem.W.Frag) : Bool := exB K "BadPlace" "BadPlace.__init__" && (exB K "BadLength" "BadLength.__init__" && (decide (PySem.W.exmOne K (.ref (He.ga K "BadPlace")) (.ref (He.ga K "BadPlace")) = some true) && (
  decide (PySem.W.exmOne K (.ref (He.ga K "BadLength")) (.ref (He.ga K "BadLength")) = some true) && decide (PySem.W.exmOne K (.ref (He.ga K "BadPlace")) (.ref (He.ga K "BadLength")) = some false))))
abbrev AlE : Type := AlX × Bool × FnE × FnE
def seeE (K : PySem.W.Frag) : AlE := (seeX K, eX K, fnE K "BadPlace", fnE K "BadLength")
def valE : AlE := (valX, true, valFn "BadPlace.__init__" s_BadPlace_init, valFn "BadLength.__init__" s_BadLength_init)
def inE {α : Type} (g : Addr → Option Obj) (k : PySem.W.Frag → α) : α := frL (lv g [mainGlobals]) fun l1 => frL (lv g l1) fun l2 => frL (lv g l2) fun l3 => frL (lv g l3) fun l4 =>
  frK (He.frG g (cStatics :: mainGlobals :: (l1 ++ (l2 ++ (l3 ++ l4))))) k
theorem inE_eq {α : Type} (g : Addr → Option Obj) (k : PySem.W.Frag → α) : inE g k = k (He.frG g (cStatics :: asX g)) := by
  unfold inE asX
  simp only [frL_eq, frK_eq]
def hkE : PySem.W.Hook where
  α := AlE
  obs := fun s => inE s.heap.get? seeE
  val := fun _ => valE
  says := fun _ h => ∃ K : PySem.W.Frag, K.In h ∧ seeE K = valE
  of := fun s _ e => ⟨_, He.frG_in, by rw [inE_eq] at e; exact e⟩
  keeps := fun _ _ _ ⟨K, hK, c⟩ k => ⟨K, PySem.W.Frag.In.keeps hK k, c⟩
def obE (s : PySem.W.SharedT) : AlE := inE (HandSHeadRun.getT s) seeE
theorem obE_eq (s : PySem.W.SharedT) : obE s = hkE.obs s.abs := by
  have e : HandSHeadRun.getT s = s.abs.heap.get? := funext (HandSHeadRun.getT_eq s)
  show inE (HandSHeadRun.getT s) seeE = inE s.abs.heap.get? seeE
  rw [e]
theorem top_super : (PW0.main.scope.names.lookup ("super" : Str)).isSome = false := by decide +kernel
end K19
set_option maxHeartbeats 0
namespace K19
open PySem PySem.Spec PyProof.Rows L2
theorem run1 (w : World) : (W0 w).map (fun x => HandSHeadRun.looksF RR.prog x.1.heap x.2.abs) = some true := by kernel_rfl
end K19
set_option maxHeartbeats 0
namespace K19
open PySem PySem.Spec PyProof.Rows L2
theorem run2 (w : World) : (W0 w).map (fun x => HandSHeadRun.seenQ (PySem.W.view RR.prog [0, 101]) lo (importedModules RR.prog.main.body) (fun s => PySem.W.xlAt (PySem.W.view RR.prog [0, 101]) [] s && PySem.W.recOk RR.toRowW.records s) x.2.abs) = some (PySem.W.openGood (PySem.W.view RR.prog [0, 101]) lo) := by kernel_rfl
end K19
set_option maxHeartbeats 0
namespace K19
open PySem PySem.Spec PyProof.Rows L2
theorem run3 (w : World) : (W0 w).map (fun x => obE x.2) = some valE := by kernel_rfl
end K19
set_option maxHeartbeats 4000000
/-! Data level: what a reading gives for plain data, whatever the addresses are. -/
namespace K19
open PySem PySem.Spec PyProof.Rows L2

/-- plain data: a tuple by its items, an Arms by its bars and its number of letters; ref a: the very object at a -/
inductive D where
  | non | bl (b : Bool) | int (i : Int) | str (x : Str) | ty (n : String) | ref (a : Addr) | tup (l : List D) | arms (bars : D) (n : Int)

abbrev fldsA (vb : V) (n : Int) : List (Str × V) := [("bars", vb), ("letters", .int n)]

mutual
inductive Rp (K : PySem.W.Frag) (H : Hp) : V → D → Prop
  | non : Rp K H .non .non
  | bl {b} : Rp K H (.bl b) (.bl b)
  | int {i} : Rp K H (.int i) (.int i)
  | str {x} : Rp K H (.str x) (.str x)
  | ty {n} : Rp K H (.ty n) (.ty n)
  | ref {a} : Rp K H (.ref a) (.ref a)
  | tup {a vs ds} (h : SqT K H a vs) (l : RpL K H vs ds) : Rp K H (.ref a) (.tup ds)
  | arms {a dx vb b n} (h : H a = some (.ins (He.ga K "Arms") dx (fldsA vb n))) (l : Rp K H vb b) : Rp K H (.ref a) (.arms b n)
inductive RpL (K : PySem.W.Frag) (H : Hp) : List V → List D → Prop
  | nil : RpL K H [] []
  | cons {v d vs ds} (h : Rp K H v d) (t : RpL K H vs ds) : RpL K H (v :: vs) (d :: ds)
end

/-- objects that never change -/
def Sol : HO → Bool
  | .tup _ => true
  | .frz _ _ => true
  | .ins _ _ _ => true
  | _ => false

/-- how a heap may go on -/
class Rl (R : Hp → Hp → Prop) : Prop where
  self : ∀ {a b}, R a b → R b b
  trans : ∀ {a b c}, R a b → R b c → R a c
  same : ∀ {a b}, R a a → Same a b → R a b
  keep : ∀ {a b x o}, R a b → a x = some o → Sol o = true → b x = some o
instance : Rl Same where
  self := fun {a b} _ => Same.refl b
  trans := fun x y => x.trans y
  same := fun _ x => x
  keep := fun x e _ => x _ _ e
theorem Same.new {H : Hp} {p : Addr} {o : HO} (h : H p = none) : Same H (upd H p o) := fun a u e => by
  rw [upd_ne (ne_of_none e h)]
  exact e

section
variable {R : Hp → Hp → Prop} [Rl R] {K : PySem.W.Frag} {H H' : Hp}
theorem sqt_mono {a : Addr} {vs : List V} (e : R H H') (h : SqT K H a vs) : SqT K H' a vs := by
  rcases h with (h | ⟨o, h⟩) | h
  · exact .inl (.inl (Rl.keep e h rfl))
  · exact .inl (.inr ⟨o, Rl.keep e h rfl⟩)
  · exact .inr h
mutual
theorem Rp.mono {v : V} {d : D} (e : R H H') : Rp K H v d → Rp K H' v d
  | .non => .non
  | .bl => .bl
  | .int => .int
  | .str => .str
  | .ty => .ty
  | .ref => .ref
  | .tup h l => .tup (sqt_mono e h) (RpL.mono e l)
  | .arms h l => .arms (Rl.keep e h rfl) (Rp.mono e l)
theorem RpL.mono {vs : List V} {ds : List D} (e : R H H') : RpL K H vs ds → RpL K H' vs ds
  | .nil => .nil
  | .cons h t => .cons (Rp.mono e h) (RpL.mono e t)
end
theorem RpL.length : ∀ {vs : List V} {ds : List D}, RpL K H vs ds → vs.length = ds.length
  | _, _, .nil => rfl
  | _, _, .cons _ t => congrArg Nat.succ (RpL.length t)
theorem RpL.get : ∀ {vs : List V} {ds : List D} {i : Nat} {d : D}, RpL K H vs ds → ds[i]? = some d → ∃ v, vs[i]? = some v ∧ Rp K H v d
  | _, _, _, _, .nil, e => by simp at e
  | _, _, 0, _, .cons h _, e => by simp at e; subst e; exact ⟨_, rfl, h⟩
  | _, _, i + 1, d, .cons _ t, e => by
    obtain ⟨v, h1, h2⟩ := RpL.get (i := i) (d := d) t (by simpa using e)
    exact ⟨v, by simpa using h1, h2⟩
theorem RpL.getV : ∀ {vs : List V} {ds : List D} {i : Nat} {v : V}, RpL K H vs ds → vs[i]? = some v → ∃ d, ds[i]? = some d ∧ Rp K H v d
  | _, _, _, _, .nil, e => by simp at e
  | _, _, 0, _, .cons h _, e => by simp at e; subst e; exact ⟨_, rfl, h⟩
  | _, _, i + 1, d, .cons _ t, e => by
    obtain ⟨v, h1, h2⟩ := RpL.getV (i := i) (v := d) t (by simpa using e)
    exact ⟨v, by simpa using h1, h2⟩
theorem RpL.append : ∀ {vs ws : List V} {ds es : List D}, RpL K H vs ds → RpL K H ws es → RpL K H (vs ++ ws) (ds ++ es)
  | _, _, _, _, .nil, s => s
  | _, _, _, _, .cons h t, s => .cons h (RpL.append t s)
theorem RpL.set : ∀ {vs : List V} {ds : List D} {v : V} {d : D} (i : Nat), RpL K H vs ds → Rp K H v d → RpL K H (vs.set i v) (ds.set i d)
  | _, _, _, _, _, .nil, _ => .nil
  | _, _, _, _, 0, .cons _ t, r => .cons r t
  | _, _, _, _, i + 1, .cons h t, r => .cons h (RpL.set i t r)
theorem RpL.ints : ∀ {vs : List V} {ns : List Int}, RpL K H vs (ns.map D.int) → vs = ns.map V.int
  | _, [], .nil => rfl
  | _, n :: ns, .cons h t => by
    cases h
    rw [RpL.ints t]
    rfl
theorem RpL.of_ints : ∀ (ns : List Int), RpL K H (ns.map V.int) (ns.map D.int)
  | [] => .nil
  | _ :: ns => .cons .int (RpL.of_ints ns)
end

/-! ### a def's names, by data -/
abbrev Gm := List (Option D)
def Ty (K : PySem.W.Frag) (g : Gm) (s : L2.St) (H : Hp) : Prop := g.length = s.length ∧ ∀ (i : Nat) (d : D), g[i]? = some (some d) → ∃ v, s[i]? = some (some v) ∧ Rp K H v d
section
variable {R : Hp → Hp → Prop} [Rl R] {K : PySem.W.Frag} {g : Gm} {s : L2.St} {H H' : Hp}
theorem Ty.mono (e : R H H') (t : Ty K g s H) : Ty K g s H' := ⟨t.1, fun i d q => by
  obtain ⟨v, h1, h2⟩ := t.2 i d q
  exact ⟨v, h1, h2.mono e⟩⟩
theorem Ty.set {v : V} {d : D} (i : Nat) (t : Ty K g s H) (r : Rp K H v d) : Ty K (g.set i (some d)) (s.set i (some v)) H := ⟨by rw [List.length_set, List.length_set, t.1], fun j e q => by
  by_cases h : j = i
  · subst h
    have hl : j < g.length := by
      have := (List.getElem?_eq_some_iff.mp q).1
      simpa using this
    rw [List.getElem?_set_self hl] at q
    cases q
    exact ⟨v, by rw [List.getElem?_set_self (by rw [← t.1]; exact hl)], r⟩
  · rw [List.getElem?_set_ne (Ne.symm h)] at q
    rw [List.getElem?_set_ne (Ne.symm h)]
    exact t.2 j e q⟩
/-- a name whose value is not said -/
theorem Ty.put {v : V} (i : Nat) (t : Ty K g s H) : Ty K (g.set i none) (s.set i (some v)) H := ⟨by rw [List.length_set, List.length_set, t.1], fun j e q => by
  by_cases h : j = i
  · subst h
    have hl : j < g.length := by
      have := (List.getElem?_eq_some_iff.mp q).1
      simpa using this
    rw [List.getElem?_set_self hl] at q
    cases q
  · rw [List.getElem?_set_ne (Ne.symm h)] at q
    rw [List.getElem?_set_ne (Ne.symm h)]
    exact t.2 j e q⟩
theorem Ty.start {N : List Str} {vs : List V} {ds : List D} (r : RpL K H vs ds) : Ty K (ds.map some ++ List.replicate (N.length - ds.length) none) (start N vs) H := by
  have hl := r.length
  refine ⟨by unfold L2.start; simp [hl], fun i d q => ?_⟩
  unfold L2.start
  by_cases h : i < ds.length
  · rw [List.getElem?_append_left (by simpa using h), List.getElem?_map] at q
    obtain ⟨d', hd, e⟩ := Option.map_eq_some_iff.mp q
    cases e
    obtain ⟨v, hv, rv⟩ := r.get hd
    exact ⟨v, by rw [List.getElem?_append_left (by simpa [hl] using h), List.getElem?_map, hv]; rfl, rv⟩
  · rw [List.getElem?_append_right (by simp; omega), List.getElem?_replicate] at q
    split at q <;> cases q
end

/-! ### what a reading gives -/
def Yd (R : Hp → Hp → Prop) (K : PySem.W.Frag) (te : TE) (g : Gm) (H : Hp) (d : D) : Prop := ∀ s H1, R H H1 → Ty K g s H1 → ∀ Q : VK, (∀ v H2, R H1 H2 → Rp K H2 v d → Q v H2) → te s H1 Q
def Yt (R : Hp → Hp → Prop) (K : PySem.W.Frag) (tt : TT) (g : Gm) (H : Hp) (b : Bool) : Prop := ∀ s H1, R H H1 → Ty K g s H1 → ∀ Q : Bool → Hp → Prop, (∀ H2, R H1 H2 → Q b H2) → tt s H1 Q
def Ya (R : Hp → Hp → Prop) (K : PySem.W.Frag) (ta : TA) (g : Gm) (H : Hp) (ds : List D) : Prop := ∀ s H1, R H H1 → Ty K g s H1 → ∀ Q : List V → Hp → Prop, (∀ vs H2, R H1 H2 → RpL K H2 vs ds → Q vs H2) → ta s H1 Q
/-- .. it raises -/
def Yx (R : Hp → Hp → Prop) (K : PySem.W.Frag) (te : TE) (g : Gm) (H : Hp) : Prop := ∀ s H1, R H H1 → Ty K g s H1 → ∀ Q : VK, te s H1 Q
def Yax (R : Hp → Hp → Prop) (K : PySem.W.Frag) (ta : TA) (g : Gm) (H : Hp) : Prop := ∀ s H1, R H H1 → Ty K g s H1 → ∀ Q : List V → Hp → Prop, ta s H1 Q
/-- a new list of these -/
def Yl (R : Hp → Hp → Prop) (K : PySem.W.Frag) (te : TE) (g : Gm) (H : Hp) (ds : List D) : Prop := ∀ s H1, R H H1 → Ty K g s H1 → ∀ Q : VK, (∀ p vs H2, H1 p = none → R H1 H2 → H2 p = some (.lst vs) → RpL K H2 vs ds → Q (.ref p) H2) → te s H1 Q

section
variable {R : Hp → Hp → Prop} [Rl R] {K : PySem.W.Frag} {g : Gm} {H H' : Hp} {d e x y z : D} {ta tb te tc : TE} {t u : TT} {ds : List D}
theorem Yd.at (h : Yd R K te g H d) (e : R H H') : Yd R K te g H' d := fun s H1 q => h s H1 (Rl.trans e q)
theorem Yd.is (h : Yd R K te g H d) (q : d = e) : Yd R K te g H e := q ▸ h
theorem Yt.is {b c : Bool} (h : Yt R K t g H b) (q : b = c) : Yt R K t g H c := q ▸ h
theorem yd_var {i : Nat} (h : g[i]? = some (some d)) : Yd R K (tVar i) g H d := fun s H1 e t Q q => by
  obtain ⟨v, h1, h2⟩ := t.2 i d h
  exact ⟨v, h1, q v H1 (Rl.self e) h2⟩
theorem yd_c {v : V} (h : ∀ H1, Rp K H1 v d) : Yd R K (tC v) g H d := fun s H1 e _ Q q => q v H1 (Rl.self e) (h H1)
theorem yd_int {i : Int} : Yd R K (tC (.int i)) g H (.int i) := yd_c fun _ => .int
theorem yd_bl {b : Bool} : Yd R K (tC (.bl b)) g H (.bl b) := yd_c fun _ => .bl
theorem yd_non : Yd R K (tC .non) g H .non := yd_c fun _ => .non
theorem yd_str {b : Str} : Yd R K (tC (.str b)) g H (.str b) := yd_c fun _ => .str
theorem yd_ty {b : String} : Yd R K (tC (.ty b)) g H (.ty b) := yd_c fun _ => .ty
theorem yd_ref {a : Addr} : Yd R K (tC (.ref a)) g H (.ref a) := yd_c fun _ => .ref
theorem yd_op {r : R2} (ha : Yd R K ta g H x) (hb : Yd R K tb g H y)
    (hr : ∀ vx vy H1, R H H1 → Rp K H1 vx x → Rp K H1 vy y → ∀ Q : VK, (∀ v H2, R H1 H2 → Rp K H2 v d → Q v H2) → r vx vy H1 Q) : Yd R K (tOp r ta tb) g H d := fun s H1 e t Q q =>
  ha s H1 e t _ fun vx H2 e2 rx => hb s H2 (Rl.trans e e2) (t.mono e2) _ fun vy H3 e3 ry => hr vx vy H3 (Rl.trans e (Rl.trans e2 e3)) (rx.mono e3) ry Q fun v H4 e4 rv => q v H4 (Rl.trans e2 (Rl.trans e3 e4)) rv
theorem yd_un {r : V → Hp → VK → Prop} (ha : Yd R K ta g H x) (hr : ∀ vx H1, R H H1 → Rp K H1 vx x → ∀ Q : VK, (∀ v H2, R H1 H2 → Rp K H2 v d → Q v H2) → r vx H1 Q) : Yd R K (tUn r ta) g H d := fun s H1 e t Q q =>
  ha s H1 e t _ fun vx H2 e2 rx => hr vx H2 (Rl.trans e e2) rx Q fun v H4 e4 rv => q v H4 (Rl.trans e2 e4) rv
theorem yd_I {C : Int → Int → Prop} {f : Int → Int → Int} {i j : Int} (ha : Yd R K ta g H (.int i)) (hb : Yd R K tb g H (.int j)) (hc : C i j) : Yd R K (tOp (rI C fun i j => .int (f i j)) ta tb) g H (.int (f i j)) :=
  yd_op ha hb fun vx vy H1 e rx ry Q q => by
    cases rx; cases ry
    exact ⟨i, j, rfl, rfl, hc, q _ H1 (Rl.self e) .int⟩
theorem yd_I0 {f : Int → Int → Int} {i j : Int} (ha : Yd R K ta g H (.int i)) (hb : Yd R K tb g H (.int j)) : Yd R K (tOp (rI0 fun i j => .int (f i j)) ta tb) g H (.int (f i j)) :=
  yd_op ha hb fun vx vy H1 e rx ry Q q => by
    cases rx; cases ry
    exact ⟨i, j, rfl, rfl, q _ H1 (Rl.self e) .int⟩
theorem yd_cmp {f : Int → Int → Bool} {i j : Int} (ha : Yd R K ta g H (.int i)) (hb : Yd R K tb g H (.int j)) : Yd R K (tOp (rI0 fun i j => .bl (f i j)) ta tb) g H (.bl (f i j)) :=
  yd_op ha hb fun vx vy H1 e rx ry Q q => by
    cases rx; cases ry
    exact ⟨i, j, rfl, rfl, q _ H1 (Rl.self e) .bl⟩
theorem yd_eqI {i j : Int} (ha : Yd R K ta g H (.int i)) (hb : Yd R K tb g H (.int j)) : Yd R K (tOp rEq ta tb) g H (.bl (decide (i = j))) :=
  yd_op ha hb fun vx vy H1 e rx ry Q q => by
    cases rx; cases ry
    refine ⟨rfl, ?_⟩
    have z : decide (V.int i = V.int j) = decide (i = j) := by simp
    rw [z]
    exact q _ H1 (Rl.self e) .bl
theorem yd_neI {i j : Int} (ha : Yd R K ta g H (.int i)) (hb : Yd R K tb g H (.int j)) : Yd R K (tOp rNe ta tb) g H (.bl (!decide (i = j))) :=
  yd_op ha hb fun vx vy H1 e rx ry Q q => by
    cases rx; cases ry
    refine ⟨rfl, ?_⟩
    have z : decide (V.int i = V.int j) = decide (i = j) := by simp
    rw [z]
    exact q _ H1 (Rl.self e) .bl
theorem yd_eqS {i j : Str} (ha : Yd R K ta g H (.str i)) (hb : Yd R K tb g H (.str j)) : Yd R K (tOp rEq ta tb) g H (.bl (decide (i = j))) :=
  yd_op ha hb fun vx vy H1 e rx ry Q q => by
    cases rx; cases ry
    refine ⟨rfl, ?_⟩
    have z : decide (V.str i = V.str j) = decide (i = j) := by simp
    rw [z]
    exact q _ H1 (Rl.self e) .bl
theorem yd_neS {i j : Str} (ha : Yd R K ta g H (.str i)) (hb : Yd R K tb g H (.str j)) : Yd R K (tOp rNe ta tb) g H (.bl (!decide (i = j))) :=
  yd_op ha hb fun vx vy H1 e rx ry Q q => by
    cases rx; cases ry
    refine ⟨rfl, ?_⟩
    have z : decide (V.str i = V.str j) = decide (i = j) := by simp
    rw [z]
    exact q _ H1 (Rl.self e) .bl
theorem yd_neg {i : Int} {f : Int → Int} (ha : Yd R K ta g H (.int i)) : Yd R K (tUn (rU fun i => .int (f i)) ta) g H (.int (f i)) :=
  yd_un ha fun vx H1 e rx Q q => by
    cases rx
    exact ⟨i, rfl, q _ H1 (Rl.self e) .int⟩
/-- is it None? -/
def D.isN : D → Bool
  | .non => true
  | _ => false
theorem isN_of {v : V} (r : Rp K H v d) : decide (v = .non) = d.isN := by
  cases r <;> first | rfl | simp [D.isN]
abbrev rIsN : R2 := fun x y H Q => y = .non ∧ Q (.bl (decide (x = .non))) H
abbrev rNotN : R2 := fun x y H Q => y = .non ∧ Q (.bl (!decide (x = .non))) H
theorem yd_isN (ha : Yd R K ta g H x) : Yd R K (tOp rIsN ta (tC .non)) g H (.bl x.isN) :=
  yd_op ha yd_non fun vx vy H1 e rx ry Q q => by
    have z := isN_of rx
    cases ry
    refine ⟨rfl, ?_⟩
    rw [z]
    exact q _ H1 (Rl.self e) .bl
theorem yd_notN (ha : Yd R K ta g H x) : Yd R K (tOp rNotN ta (tC .non)) g H (.bl (!x.isN)) :=
  yd_op ha yd_non fun vx vy H1 e rx ry Q q => by
    have z := isN_of rx
    cases ry
    refine ⟨rfl, ?_⟩
    rw [z]
    exact q _ H1 (Rl.self e) .bl
theorem yd_ixT {i : Int} (ha : Yd R K ta g H (.tup ds)) (hb : Yd R K tb g H (.int i)) (h : atI ds i = some d) : Yd R K (tOp (rIxT K) ta tb) g H d :=
  yd_op ha hb fun vx vy H1 e rx ry Q q => by
    cases ry
    cases rx with
    | tup hs l =>
      rename_i a vs
      have hl := l.length
      unfold atI at h
      cases hk : ixN ds.length i with
      | none => rw [hk] at h; cases h
      | some k =>
        rw [hk] at h
        obtain ⟨v, hv, rv⟩ := l.get (i := k) h
        refine ⟨a, vs, i, v, rfl, rfl, hs, ?_, q v H1 (Rl.self e) rv⟩
        unfold atI
        rw [hl, hk]
        exact hv
theorem ya_nil : Ya R K tNil g H [] := fun s H1 e _ Q q => q [] H1 (Rl.self e) .nil
theorem ya_cons {tr : TA} (h : Yd R K te g H d) (hr : Ya R K tr g H ds) : Ya R K (tCons te tr) g H (d :: ds) := fun s H1 e t Q q =>
  h s H1 e t _ fun v H2 e2 rv => hr s H2 (Rl.trans e e2) (t.mono e2) _ fun vs H3 e3 rs => q _ H3 (Rl.trans e2 e3) (.cons (rv.mono e3) rs)
theorem sz_ok {n : Nat} (h : n ≤ 100000) : n ≤ sizeLine := Nat.le_trans h (by decide)
theorem yd_tup {ta : TA} (h : Ya R K ta g H ds) (hl : ds.length ≤ 100000 := by exact Nat.le_of_ble_eq_true rfl) : Yd R K (tTup ta) g H (.tup ds) := fun s H1 e t Q q =>
  h s H1 e t _ fun vs H2 e2 rs => ⟨by rw [rs.length]; exact sz_ok hl, fun p hp => by
    have e3 : R H2 (upd H2 p (.tup vs)) := Rl.same (Rl.self e2) (Same.new hp)
    exact q _ _ (Rl.trans e2 e3) (.tup (SqT.of upd_same) (rs.mono e3))⟩
theorem yl_lst {ta : TA} (h : Ya Same K ta g H ds) (hl : ds.length ≤ 100000 := by exact Nat.le_of_ble_eq_true rfl) : Yl Same K (tLst ta) g H ds := fun s H1 e t Q q =>
  h s H1 e t _ fun vs H2 e2 rs => ⟨by rw [rs.length]; exact sz_ok hl, fun p hp => by
    have e3 : Same H2 (upd H2 p (.lst vs)) := Same.new hp
    exact q p vs _ (e2.free hp) (e2.trans e3) upd_same (rs.mono e3)⟩
/-! tests, truth values -/
theorem yt_test {b : Bool} (h : Yd R K te g H (.bl b)) : Yt R K (tTest te) g H b := fun s H1 e t Q q => h s H1 e t _ fun v H2 e2 rv => by
  cases rv
  exact ⟨b, rfl, q H2 e2⟩
theorem yt_B {b : Bool} (h : Yd R K te g H (.bl b)) : Yt R K (tB te) g H b := fun s H1 e t Q q => h s H1 e t _ fun v H2 e2 rv => by
  cases rv
  exact ⟨b, rfl, q H2 e2⟩
theorem yt_not {b : Bool} (h : Yt R K t g H b) : Yt R K (tNot t) g H (!b) := fun s H1 e tt Q q => h s H1 e tt _ fun H2 e2 => q H2 e2
theorem yt_and {b c : Bool} (h1 : Yt R K t g H b) (h2 : b = true → Yt R K u g H c) : Yt R K (tAnd t u) g H (b && c) := fun s H1 e tt Q q => h1 s H1 e tt _ fun H2 e2 => by
  cases b with
  | true => exact h2 rfl s H2 (Rl.trans e e2) (tt.mono e2) Q fun H3 e3 => q H3 (Rl.trans e2 e3)
  | false => exact q H2 e2
theorem yt_or {b c : Bool} (h1 : Yt R K t g H b) (h2 : b = false → Yt R K u g H c) : Yt R K (tOr t u) g H (b || c) := fun s H1 e tt Q q => h1 s H1 e tt _ fun H2 e2 => by
  cases b with
  | false => exact h2 rfl s H2 (Rl.trans e e2) (tt.mono e2) Q fun H3 e3 => q H3 (Rl.trans e2 e3)
  | true => exact q H2 e2
theorem yd_and {b c : Bool} (h1 : Yd R K ta g H (.bl b)) (h2 : b = true → Yd R K tb g H (.bl c)) : Yd R K (tAndV ta tb) g H (.bl (b && c)) := fun s H1 e tt Q q => h1 s H1 e tt _ fun v H2 e2 rv => by
  cases rv
  refine ⟨b, rfl, ?_⟩
  cases b with
  | true => exact h2 rfl s H2 (Rl.trans e e2) (tt.mono e2) Q fun v H3 e3 => q v H3 (Rl.trans e2 e3)
  | false => exact q _ H2 e2 .bl
theorem yd_or {b c : Bool} (h1 : Yd R K ta g H (.bl b)) (h2 : b = false → Yd R K tb g H (.bl c)) : Yd R K (tOrV ta tb) g H (.bl (b || c)) := fun s H1 e tt Q q => h1 s H1 e tt _ fun v H2 e2 rv => by
  cases rv
  refine ⟨b, rfl, ?_⟩
  cases b with
  | false => exact h2 rfl s H2 (Rl.trans e e2) (tt.mono e2) Q fun v H3 e3 => q v H3 (Rl.trans e2 e3)
  | true => exact q _ H2 e2 .bl
theorem yd_notV {b : Bool} (h1 : Yd R K ta g H (.bl b)) : Yd R K (tNotV ta) g H (.bl (!b)) := fun s H1 e tt Q q => h1 s H1 e tt _ fun v H2 e2 rv => by
  cases rv
  exact ⟨b, rfl, q _ H2 e2 .bl⟩
theorem yd_if {b : Bool} (h : Yt R K t g H b) (h1 : b = true → Yd R K ta g H d) (h2 : b = false → Yd R K tb g H d) : Yd R K (tIf t ta tb) g H d := fun s H1 e tt Q q => h s H1 e tt _ fun H2 e2 => by
  cases b with
  | true => exact h1 rfl s H2 (Rl.trans e e2) (tt.mono e2) Q fun v H3 e3 => q v H3 (Rl.trans e2 e3)
  | false => exact h2 rfl s H2 (Rl.trans e e2) (tt.mono e2) Q fun v H3 e3 => q v H3 (Rl.trans e2 e3)
/-- a < b < c of ints -/
theorem yd_chain {p q : Int → Int → Bool} {i j k : Int} (ha : Yd R K ta g H (.int i)) (hb : Yd R K tb g H (.int j)) (hc : Yd R K tc g H (.int k)) :
    Yd R K (tChain (rI0 fun i j => .bl (p i j)) (rI0 fun i j => .bl (q i j)) ta tb tc) g H (.bl (p i j && q j k)) := fun s H1 e t Q w =>
  ha s H1 e t _ fun vx H2 e2 rx => hb s H2 (Rl.trans e e2) (t.mono e2) _ fun vy H3 e3 ry => by
    cases rx; cases ry
    refine ⟨i, j, rfl, rfl, p i j, rfl, ?_⟩
    cases hp : p i j with
    | true =>
      show tc s H3 _
      exact hc s H3 (Rl.trans e (Rl.trans e2 e3)) (t.mono (Rl.trans e2 e3)) _ fun vz H4 e4 rz => by
        cases rz
        rw [hp] at w
        exact ⟨j, k, rfl, rfl, w _ H4 (Rl.trans e2 (Rl.trans e3 e4)) .bl⟩
    | false =>
      rw [hp] at w
      exact w _ H3 (Rl.trans e2 e3) .bl
/-! built-ins -/
theorem yd_cb {r : List V → Hp → VK → Prop} {ta : TA} (h : Ya R K ta g H ds) (hr : ∀ vs H1, R H H1 → RpL K H1 vs ds → ∀ Q : VK, (∀ v H2, R H1 H2 → Rp K H2 v d → Q v H2) → r vs H1 Q) : Yd R K (tCB r ta) g H d := fun s H1 e t Q q =>
  h s H1 e t _ fun vs H2 e2 rs => hr vs H2 (Rl.trans e e2) rs Q fun v H3 e3 => q v H3 (Rl.trans e2 e3)
abbrev rLenX (K : PySem.W.Frag) : List V → Hp → VK → Prop := fun xs H Q => ∃ x n, xs = [x] ∧ LenV K x H n ∧ Q (.int n) H
theorem yd_lenT (h : Yd R K te g H (.tup ds)) : Yd R K (tCB (rLenX K) (tCons te tNil)) g H (.int ds.length) :=
  yd_cb (ya_cons h ya_nil) fun vs H1 e rs Q q => by
    cases rs with
    | cons r1 r2 =>
      cases r2
      cases r1 with
      | tup hs l =>
        rename_i a us
        refine ⟨_, us.length, rfl, .inr ⟨us, hs, rfl⟩, ?_⟩
        rw [l.length]
        exact q _ H1 (Rl.self e) .int
abbrev rAbs : List V → Hp → VK → Prop := fun xs H Q => ∃ i, xs = [.int i] ∧ Q (.int (if i < 0 then -i else i)) H
theorem yd_abs {i : Int} (h : Yd R K te g H (.int i)) : Yd R K (tCB rAbs (tCons te tNil)) g H (.int (if i < 0 then -i else i)) :=
  yd_cb (ya_cons h ya_nil) fun vs H1 e rs Q q => by
    cases rs with
    | cons r1 r2 =>
      cases r2
      cases r1
      exact ⟨i, rfl, q _ H1 (Rl.self e) .int⟩
abbrev rInt1 : List V → Hp → VK → Prop := fun xs H Q => (∃ i, xs = [.int i] ∧ Q (.int i) H) ∨ ∃ k, xs = [.bl k] ∧ Q (.int (if k then 1 else 0)) H
theorem yd_toInt {i : Int} (h : Yd R K te g H (.int i)) : Yd R K (tCB rInt1 (tCons te tNil)) g H (.int i) :=
  yd_cb (ya_cons h ya_nil) fun vs H1 e rs Q q => by
    cases rs with
    | cons r1 r2 =>
      cases r2
      cases r1
      exact .inl ⟨i, rfl, q _ H1 (Rl.self e) .int⟩
theorem yd_gcd {i j : Int} (ha : Yd R K ta g H (.int i)) (hb : Yd R K tb g H (.int j)) : Yd R K (tCB rGcd (tCons ta (tCons tb tNil))) g H (.int ((Nat.gcd i.natAbs j.natAbs : Nat) : Int)) :=
  yd_cb (ya_cons ha (ya_cons hb ya_nil)) fun vs H1 e rs Q q => by
    cases rs with
    | cons r1 r2 =>
      cases r2 with
      | cons r3 r4 =>
        cases r4
        cases r1; cases r3
        exact ⟨i, j, rfl, q _ H1 (Rl.self e) .int⟩
/-! isinstance -/
def D.cls : D → Option String
  | .non => some "NoneType"
  | .bl _ => some "bool"
  | .int _ => some "int"
  | .str _ => some "str"
  | .tup _ => some "tuple"
  | _ => none
theorem tyx_tup {a : Addr} {vs : List V} (h : SqT K H a vs) : TyX K H (.ref a) (.type "tuple") := by
  rcases h with (h | ⟨o, h⟩) | ⟨o, its, n, h, c, _⟩
  · exact .base (.tup h)
  · exact .fTuple h
  · exact .kTuple h c
theorem tyx_of {v : V} {T : String} (r : Rp K H v d) (h : d.cls = some T) : TyX K H v (.type T) := by
  cases r with
  | non => cases h; exact .base .non
  | bl => cases h; exact .base (.bl _)
  | int => cases h; exact .base (.int _)
  | str => cases h; exact .base (.str _)
  | tup hs _ => cases h; exact tyx_tup hs
  | _ => cases h
theorem yd_isi {T c : String} {b : Bool} (h : Yd R K te g H x) (hT : x.cls = some T) (hb : kitB T c = some b) : Yd R K (tCB (rIsi K) (tCons te (tCons (tC (.ty c)) tNil))) g H (.bl b) :=
  yd_cb (ya_cons h (ya_cons yd_ty ya_nil)) fun vs H1 e rs Q q => by
    cases rs with
    | cons r1 r2 =>
      cases r2 with
      | cons r3 r4 =>
        cases r4
        cases r3
        exact ⟨_, _, _, _, b, rfl, .ty c, tyx_of r1 hT, kit_ty hb, q _ H1 (Rl.self e) .bl⟩
end
def D.isInt : D → Bool
  | .int _ => true
  | .bl _ => true
  | _ => false
def D.isBool : D → Bool
  | .bl _ => true
  | _ => false
def D.isTup : D → Bool
  | .tup _ => true
  | _ => false
section
variable {R : Hp → Hp → Prop} [Rl R] {K : PySem.W.Frag} {g : Gm} {H : Hp} {x : D} {te : TE}
theorem yd_isInt (h : Yd R K te g H x) (hx : x.cls.isSome = true := by first | rfl | assumption) : Yd R K (tCB (rIsi K) (tCons te (tCons (tC (.ty "int")) tNil))) g H (.bl x.isInt) := by
  cases x <;> first
    | cases hx; done
    | exact yd_isi (b := true) h rfl (by decide +kernel)
    | exact yd_isi (b := false) h rfl (by decide +kernel)
theorem yd_isBool (h : Yd R K te g H x) (hx : x.cls.isSome = true := by first | rfl | assumption) : Yd R K (tCB (rIsi K) (tCons te (tCons (tC (.ty "bool")) tNil))) g H (.bl x.isBool) := by
  cases x <;> first
    | cases hx; done
    | exact yd_isi (b := true) h rfl (by decide +kernel)
    | exact yd_isi (b := false) h rfl (by decide +kernel)
theorem yd_isTup (h : Yd R K te g H x) (hx : x.cls.isSome = true := by first | rfl | assumption) : Yd R K (tCB (rIsi K) (tCons te (tCons (tC (.ty "tuple")) tNil))) g H (.bl x.isTup) := by
  cases x <;> first
    | cases hx; done
    | exact yd_isi (b := true) h rfl (by decide +kernel)
    | exact yd_isi (b := false) h rfl (by decide +kernel)
/-- a list is no tuple -/
theorem yd_isTupL {a : Addr} {vs : List V} (h : Yd R K te g H (.ref a)) (hl : ∀ H1, R H H1 → H1 a = some (.lst vs)) : Yd R K (tCB (rIsi K) (tCons te (tCons (tC (.ty "tuple")) tNil))) g H (.bl false) :=
  yd_cb (ya_cons h (ya_cons yd_ty ya_nil)) fun us H1 e rs Q q => by
    cases rs with
    | cons r1 r2 =>
      cases r2 with
      | cons r3 r4 =>
        cases r4
        cases r3
        cases r1
        exact ⟨_, _, _, _, false, rfl, .ty _, .base (.lst (hl H1 e)), kit_ty (by decide +kernel), q _ H1 (Rl.self e) .bl⟩
/-- isinstance(x, (list, tuple)) -/
theorem yd_isSeq (h : Yd R K te g H x) (hx : x.cls.isSome = true := by first | rfl | assumption) : Yd R K (tCB (rIsiT K) (tCons te (tCons (tTup (tCons (tC (.ty "list")) (tCons (tC (.ty "tuple")) tNil))) tNil))) g H (.bl x.isTup) := fun s H1 e t Q q =>
  h s H1 e t _ fun v H2 e2 rv => ⟨by show 2 ≤ sizeLine; decide, fun p hp => by
    have e3 : Same H2 (upd H2 p (.tup [.ty "list", .ty "tuple"])) := Same.new hp
    have rv3 : Rp K (upd H2 p (.tup [.ty "list", .ty "tuple"])) v x := rv.mono e3
    have fin : Q (.bl x.isTup) (upd H2 p (.tup [.ty "list", .ty "tuple"])) := q _ _ (Rl.trans e2 (Rl.same (Rl.self e2) e3)) .bl
    have hp' : upd H2 p (.tup [.ty "list", .ty "tuple"]) p = some (.tup [.ty "list", .ty "tuple"]) := upd_same
    have cs : Paired ClsV [V.ty "list", .ty "tuple"] [.type "list", .type "tuple"] := .cons (.ty _) (.cons (.ty _) .nil)
    cases x with
    | tup ds => exact ⟨v, p, _, _, _, true, rfl, hp', cs, tyx_of rv3 rfl, kitAny_cons (kit_ty (by decide +kernel : kitB "tuple" "list" = some false)) (fun _ => kitAny_cons (kit_ty (by decide +kernel : kitB "tuple" "tuple" = some true)) (fun z => by cases z) fun _ => rfl) (fun z => by cases z), fin⟩
    | non => exact ⟨v, p, _, _, _, false, rfl, hp', cs, tyx_of rv3 rfl, kitAny_cons (kit_ty (by decide +kernel : kitB "NoneType" "list" = some false)) (fun _ => kitAny_cons (kit_ty (by decide +kernel : kitB "NoneType" "tuple" = some false)) (fun _ => kitAny_nil) fun z => by cases z) (fun z => by cases z), fin⟩
    | bl b => exact ⟨v, p, _, _, _, false, rfl, hp', cs, tyx_of rv3 rfl, kitAny_cons (kit_ty (by decide +kernel : kitB "bool" "list" = some false)) (fun _ => kitAny_cons (kit_ty (by decide +kernel : kitB "bool" "tuple" = some false)) (fun _ => kitAny_nil) fun z => by cases z) (fun z => by cases z), fin⟩
    | int i => exact ⟨v, p, _, _, _, false, rfl, hp', cs, tyx_of rv3 rfl, kitAny_cons (kit_ty (by decide +kernel : kitB "int" "list" = some false)) (fun _ => kitAny_cons (kit_ty (by decide +kernel : kitB "int" "tuple" = some false)) (fun _ => kitAny_nil) fun z => by cases z) (fun z => by cases z), fin⟩
    | str y => exact ⟨v, p, _, _, _, false, rfl, hp', cs, tyx_of rv3 rfl, kitAny_cons (kit_ty (by decide +kernel : kitB "str" "list" = some false)) (fun _ => kitAny_cons (kit_ty (by decide +kernel : kitB "str" "tuple" = some false)) (fun _ => kitAny_nil) fun z => by cases z) (fun z => by cases z), fin⟩
    | _ => cases hx⟩
theorem yd_isSeqL {a : Addr} {vs : List V} (h : Yd R K te g H (.ref a)) (hl : ∀ H1, R H H1 → H1 a = some (.lst vs)) :
    Yd R K (tCB (rIsiT K) (tCons te (tCons (tTup (tCons (tC (.ty "list")) (tCons (tC (.ty "tuple")) tNil))) tNil))) g H (.bl true) := fun s H1 e t Q q =>
  h s H1 e t _ fun v H2 e2 rv => ⟨by show 2 ≤ sizeLine; decide, fun p hp => by
    have e3 : Same H2 (upd H2 p (.tup [.ty "list", .ty "tuple"])) := Same.new hp
    have fin : Q (.bl true) (upd H2 p (.tup [.ty "list", .ty "tuple"])) := q _ _ (Rl.trans e2 (Rl.same (Rl.self e2) e3)) .bl
    have hp' : upd H2 p (.tup [.ty "list", .ty "tuple"]) p = some (.tup [.ty "list", .ty "tuple"]) := upd_same
    have cs : Paired ClsV [V.ty "list", .ty "tuple"] [.type "list", .type "tuple"] := .cons (.ty _) (.cons (.ty _) .nil)
    cases rv
    exact ⟨_, p, _, _, _, true, rfl, hp', cs, .base (.lst (e3 _ _ (hl H2 (Rl.trans e e2)))), kitAny_cons (kit_ty (by decide +kernel : kitB "list" "list" = some true)) (fun z => by cases z) (fun _ => rfl), fin⟩⟩
end
section
variable {R : Hp → Hp → Prop} [Rl R] {K : PySem.W.Frag} {g : Gm} {H : Hp} {d : D} {ta tb : TE} {t u : TT}
theorem yt_and0 {b : Bool} (h1 : Yt R K t g H b) (hb : b = false := by rfl) : Yt R K (tAnd t u) g H false := yt_and (c := false) (h1.is hb) fun z => by cases z
theorem yt_and1 {b c : Bool} (h1 : Yt R K t g H b) (h2 : Yt R K u g H c) (hb : b = true := by rfl) : Yt R K (tAnd t u) g H c := yt_and (h1.is hb) fun _ => h2
theorem yt_or1 {b : Bool} (h1 : Yt R K t g H b) (hb : b = true := by rfl) : Yt R K (tOr t u) g H true := yt_or (c := false) (h1.is hb) fun z => by cases z
theorem yt_or0 {b c : Bool} (h1 : Yt R K t g H b) (h2 : Yt R K u g H c) (hb : b = false := by rfl) : Yt R K (tOr t u) g H c := yt_or (h1.is hb) fun _ => h2
theorem yd_and0 {b : Bool} (h1 : Yd R K ta g H (.bl b)) (hb : b = false := by rfl) : Yd R K (tAndV ta tb) g H (.bl false) := yd_and (c := false) (h1.is (by rw [hb])) fun z => by cases z
theorem yd_and1 {b c : Bool} (h1 : Yd R K ta g H (.bl b)) (h2 : Yd R K tb g H (.bl c)) (hb : b = true := by rfl) : Yd R K (tAndV ta tb) g H (.bl c) := yd_and (b := true) (h1.is (by rw [hb])) fun _ => h2
theorem yd_or1 {b : Bool} (h1 : Yd R K ta g H (.bl b)) (hb : b = true := by rfl) : Yd R K (tOrV ta tb) g H (.bl true) := yd_or (c := false) (h1.is (by rw [hb])) fun z => by cases z
theorem yd_or0 {b c : Bool} (h1 : Yd R K ta g H (.bl b)) (h2 : Yd R K tb g H (.bl c)) (hb : b = false := by rfl) : Yd R K (tOrV ta tb) g H (.bl c) := yd_or (b := false) (h1.is (by rw [hb])) fun _ => h2
theorem yd_ifT {b : Bool} (h : Yt R K t g H b) (h1 : Yd R K ta g H d) (hb : b = true := by rfl) : Yd R K (tIf t ta tb) g H d := yd_if (h.is hb) (fun _ => h1) fun z => by cases z
theorem yd_ifF {b : Bool} (h : Yt R K t g H b) (h1 : Yd R K tb g H d) (hb : b = false := by rfl) : Yd R K (tIf t ta tb) g H d := yd_if (h.is hb) (fun z => by cases z) fun _ => h1
end
end K19
set_option maxHeartbeats 4000000
/-! Statements, calls and promises at the data level. -/
namespace K19
open PySem PySem.Spec PyProof.Rows L2

structure En where
  nx : Gm → Hp → Prop
  rt : D → Hp → Prop
  bk : Gm → Hp → Prop := fun _ _ => False
  ct : Gm → Hp → Prop := fun _ _ => False
structure Fits (K : PySem.W.Frag) (E : En) (Z : Ends) : Prop where
  nx : ∀ g s H, Ty K g s H → E.nx g H → Z.nx s H
  rt : ∀ d v H, Rp K H v d → E.rt d H → Z.rt v H
  bk : ∀ g s H, Ty K g s H → E.bk g H → Z.bk s H
  ct : ∀ g s H, Ty K g s H → E.ct g H → Z.ct s H
def Sd (K : PySem.W.Frag) (ts : TS) (g : Gm) (H : Hp) (E : En) : Prop := ∀ s (Z : Ends), Ty K g s H → Fits K E Z → ts Z s H
/-- it raises -/
def Sx (K : PySem.W.Frag) (ts : TS) (g : Gm) (H : Hp) : Prop := ∀ s (Z : Ends), Ty K g s H → ts Z s H

section
variable {R : Hp → Hp → Prop} [Rl R] {K : PySem.W.Frag} {g : Gm} {H H' : Hp} {d e x y z : D} {ta tb te tc : TE} {c : TT} {t u tbd : TS} {ds : List D} {E : En} {i j k : Nat}
theorem sd_seq (h : Sd K t g H { E with nx := fun g' H' => Sd K u g' H' E }) : Sd K (tSeq t u) g H E := fun s Z ty f =>
  h s { Z with nx := u Z } ty ⟨fun g' s' H' t' q => q s' Z t' f, f.rt, f.bk, f.ct⟩
theorem sd_asg (e : R H H) (h : Yd R K te g H d) (q : ∀ H', R H H' → E.nx (g.set i (some d)) H') : Sd K (tAsg te (gName i)) g H E := fun s Z ty f =>
  h s H e ty _ fun v H1 e1 rv => f.nx _ _ _ ((ty.mono e1).set i rv) (q H1 e1)
theorem sd_drop (e : R H H) (h : Yd R K te g H d) (q : ∀ H', R H H' → E.nx g H') : Sd K (tDrop te) g H E := fun s Z ty f =>
  h s H e ty _ fun v H1 e1 rv => f.nx _ _ _ (ty.mono e1) (q H1 e1)
theorem sd_ret (e : R H H) (h : Yd R K te g H d) (q : ∀ H', R H H' → E.rt d H') : Sd K (tRet te) g H E := fun s Z ty f =>
  h s H e ty _ fun v H1 e1 rv => f.rt d v H1 rv (q H1 e1)
theorem sd_retN (q : E.rt .non H) : Sd K tRetN g H E := fun s Z ty f => f.rt .non .non H .non q
theorem sd_next (q : E.nx g H) : Sd K tNext g H E := fun s Z ty f => f.nx g s H ty q
theorem sd_brk (q : E.bk g H) : Sd K tBreak g H E := fun s Z ty f => f.bk g s H ty q
theorem sd_if {b : Bool} (e : R H H) (h : Yt R K c g H b) (h1 : b = true → ∀ H', R H H' → Sd K t g H' E) (h2 : b = false → ∀ H', R H H' → Sd K u g H' E) : Sd K (tIfS c t u) g H E := fun s Z ty f =>
  h s H e ty _ fun H1 e1 => by
    cases b with
    | true => exact h1 rfl H1 e1 s Z (ty.mono e1) f
    | false => exact h2 rfl H1 e1 s Z (ty.mono e1) f
theorem sd_tup2 {d1 d2 : D} (e : R H H) (h : Yd R K te g H (.tup [d1, d2])) (q : ∀ H', R H H' → E.nx ((g.set i (some d1)).set j (some d2)) H') : Sd K (tAsg te (gTup K 2 (gCons (gName i) (gCons (gName j) gNil)))) g H E := fun s Z ty f =>
  h s H e ty _ fun v H1 e1 rv => by
    cases rv with
    | tup hs l =>
      rename_i a vs
      cases l with
      | cons r1 l =>
        cases l with
        | cons r2 l =>
          cases l
          exact ⟨a, _, rfl, hs, rfl, _, _, rfl, _, _, rfl, rfl, f.nx _ _ _ (((ty.mono e1).set i r1).set j r2) (q H1 e1)⟩
theorem sd_tup3 {d1 d2 d3 : D} (e : R H H) (h : Yd R K te g H (.tup [d1, d2, d3])) (q : ∀ H', R H H' → E.nx (((g.set i (some d1)).set j (some d2)).set k (some d3)) H') :
    Sd K (tAsg te (gTup K 3 (gCons (gName i) (gCons (gName j) (gCons (gName k) gNil))))) g H E := fun s Z ty f =>
  h s H e ty _ fun v H1 e1 rv => by
    cases rv with
    | tup hs l =>
      rename_i a vs
      cases l with
      | cons r1 l =>
        cases l with
        | cons r2 l =>
          cases l with
          | cons r3 l =>
            cases l
            exact ⟨a, _, rfl, hs, rfl, _, _, rfl, _, _, rfl, _, _, rfl, rfl, f.nx _ _ _ ((((ty.mono e1).set i r1).set j r2).set k r3) (q H1 e1)⟩
theorem sd_par {ta : TA} {d1 d2 : D} (e : R H H) (h : Ya R K ta g H [d1, d2]) (q : ∀ H', R H H' → E.nx ((g.set i (some d1)).set j (some d2)) H') : Sd K (tPar i j ta) g H E := fun s Z ty f =>
  h s H e ty _ fun vs H1 e1 rs => by
    cases rs with
    | cons r1 l =>
      cases l with
      | cons r2 l =>
        cases l
        exact ⟨_, _, rfl, f.nx _ _ _ (((ty.mono e1).set i r1).set j r2) (q H1 e1)⟩
/-! loops -/
theorem sd_while (P : Nat → Gm → Hp → Prop) (m : Nat) (h0 : P m g H)
    (hs : ∀ m g' H', P m g' H' → ∃ (R : Hp → Hp → Prop) (_ : Rl R), R H' H' ∧ ∃ b, Yt R K c g' H' b ∧ (b = true → ∀ H1, R H' H1 → Sd K tbd g' H1 { E with nx := fun g2 H2 => ∃ m', m' < m ∧ P m' g2 H2, ct := fun g2 H2 => ∃ m', m' < m ∧ P m' g2 H2, bk := E.nx }) ∧
      (b = false → ∀ H1, R H' H1 → E.nx g' H1)) : Sd K (tWhile c tbd) g H E := fun s Z ty f => by
  refine ⟨fun m s' H' => ∃ g', Ty K g' s' H' ∧ P m g' H', ⟨m, g, ty, h0⟩, ?_⟩
  rintro m s' H' ⟨g', ty', p⟩
  obtain ⟨R, hR, e, b, hb, h1, h2⟩ := hs m g' H' p
  refine hb s' H' e ty' _ fun H1 e1 => ?_
  cases b with
  | false => exact f.nx _ _ _ (ty'.mono e1) (h2 rfl H1 e1)
  | true =>
    refine ⟨fun s2 H2 => ∃ m', m' < m ∧ ∃ g2, Ty K g2 s2 H2 ∧ P m' g2 H2, fun s2 H2 q => q, ?_⟩
    exact h1 rfl H1 e1 s' _ (ty'.mono e1) ⟨fun g2 s2 H2 t2 ⟨m', lt, q⟩ => ⟨m', lt, g2, t2, q⟩, f.rt, f.nx, fun g2 s2 H2 t2 ⟨m', lt, q⟩ => ⟨m', lt, g2, t2, q⟩⟩
/-- over a tuple -/
theorem sd_forT (e : R H H) (h : Yd R K te g H (.tup ds)) (P : Hp → Nat → Gm → Hp → Prop) (hp : ∀ H1 i g' H', P H1 i g' H' → R H1 H') (h0 : ∀ H1, R H H1 → P H1 0 g H1)
    (hs : ∀ H1 i d g' H', R H H1 → ds[i]? = some d → P H1 i g' H' → Sd K tbd (g'.set j (some d)) H' { E with nx := P H1 (i + 1), ct := P H1 (i + 1), bk := E.nx })
    (hd : ∀ H1 g' H', R H H1 → P H1 ds.length g' H' → E.nx g' H') : Sd K (tFor (iTup K te) (gName j) tbd) g H E := fun s Z ty f =>
  h s H e ty _ fun v H1 e1 rv => by
    cases rv with
    | tup ht l =>
      rename_i a vs
      refine ⟨a, rfl, ⟨vs, ht⟩, for_tup (K := K) (a := a) (xs := vs) (fun i s' H' => ∃ g', Ty K g' s' H' ∧ P H1 i g' H') ⟨g, ty.mono e1, h0 H1 e1⟩ (fun i s' H' _ ⟨g', _, p⟩ => sqt_mono (hp _ _ _ _ p) ht) ?_ ?_⟩
      · rintro i v s' H' hi ⟨g', ty', p⟩
        obtain ⟨d, hd', rv⟩ := l.getV hi
        exact hs H1 i d g' H' e1 hd' p _ _ (ty'.set j (rv.mono (hp _ _ _ _ p))) ⟨fun g2 s2 H2 t2 q => ⟨g2, t2, q⟩, f.rt, f.nx, fun g2 s2 H2 t2 q => ⟨g2, t2, q⟩⟩
      · rintro s' H' ⟨g', ty', p⟩
        rw [l.length] at p
        exact f.nx _ _ _ ty' (hd H1 g' H' e1 p)
/-- over range(n) -/
theorem sd_forR1 {ta : TA} {n : Int} (e : R H H) (h : Ya R K ta g H [.int n]) (hn : -100000 ≤ n ∧ n ≤ 100000) (P : Hp → Nat → Gm → Hp → Prop) (h0 : ∀ H1, R H H1 → P H1 0 g H1)
    (hs : ∀ H1 i g' H', R H H1 → i < n.toNat → P H1 i g' H' → Sd K tbd (g'.set j (some (.int (i : Int)))) H' { E with nx := P H1 (i + 1), ct := P H1 (i + 1), bk := E.nx })
    (hd : ∀ H1 g' H', R H H1 → P H1 n.toNat g' H' → E.nx g' H') : Sd K (tFor (iRng1 ta) (gName j) tbd) g H E := fun s Z ty f =>
  h s H e ty _ fun vs H1 e1 rs => by
    cases rs with
    | cons r1 l =>
      cases l
      cases r1
      refine ⟨n, rfl, by omega, by omega, for_range (lo := 0) (n := n.toNat) (fun i s' H' => ∃ g', Ty K g' s' H' ∧ P H1 i g' H') ⟨g, ty.mono e1, h0 H1 e1⟩ ?_ ?_⟩
      · rintro i s' H' hi ⟨g', ty', p⟩
        have e0 : (0 : Int) + (i : Int) = (i : Int) := Int.zero_add _
        show tbd _ (s'.set j (some (.int ((0 : Int) + (i : Int))))) H'
        rw [e0]
        exact hs H1 i g' H' e1 hi p _ _ (ty'.set j .int) ⟨fun g2 s2 H2 t2 q => ⟨g2, t2, q⟩, f.rt, f.nx, fun g2 s2 H2 t2 q => ⟨g2, t2, q⟩⟩
      · rintro s' H' ⟨g', ty', p⟩
        exact f.nx _ _ _ ty' (hd H1 g' H' e1 p)
/-- over range(a, b) -/
theorem sd_forR2 {ta : TA} {lo n : Int} (e : R H H) (h : Ya R K ta g H [.int lo, .int n]) (hl : -100000 ≤ lo ∧ lo ≤ 100000) (hn : -100000 ≤ n ∧ n ≤ 100000) (P : Hp → Nat → Gm → Hp → Prop) (h0 : ∀ H1, R H H1 → P H1 0 g H1)
    (hs : ∀ H1 i g' H', R H H1 → i < (n - lo).toNat → P H1 i g' H' → Sd K tbd (g'.set j (some (.int (lo + (i : Int))))) H' { E with nx := P H1 (i + 1), ct := P H1 (i + 1), bk := E.nx })
    (hd : ∀ H1 g' H', R H H1 → P H1 (n - lo).toNat g' H' → E.nx g' H') : Sd K (tFor (iRng2 ta) (gName j) tbd) g H E := fun s Z ty f =>
  h s H e ty _ fun vs H1 e1 rs => by
    cases rs with
    | cons r1 l =>
      cases l with
      | cons r2 l =>
        cases l
        cases r1
        cases r2
        refine ⟨lo, n, rfl, by omega, for_range (lo := lo) (n := (n - lo).toNat) (fun i s' H' => ∃ g', Ty K g' s' H' ∧ P H1 i g' H') ⟨g, ty.mono e1, h0 H1 e1⟩ ?_ ?_⟩
        · rintro i s' H' hi ⟨g', ty', p⟩
          exact hs H1 i g' H' e1 hi p _ _ (ty'.set j .int) ⟨fun g2 s2 H2 t2 q => ⟨g2, t2, q⟩, f.rt, f.nx, fun g2 s2 H2 t2 q => ⟨g2, t2, q⟩⟩
        · rintro s' H' ⟨g', ty', p⟩
          exact f.nx _ _ _ ty' (hd H1 g' H' e1 p)
/-! raising -/
theorem yx_op1 {r : R2} (h : Yx R K ta g H) : Yx R K (tOp r ta tb) g H := fun s H1 e t Q => h s H1 e t _
theorem yx_op2 {r : R2} (ha : Yd R K ta g H d) (h : Yx R K tb g H) : Yx R K (tOp r ta tb) g H := fun s H1 e t Q => ha s H1 e t _ fun v H2 e2 _ => h s H2 (Rl.trans e e2) (t.mono e2) _
theorem yax_1 {tr : TA} (h : Yx R K te g H) : Yax R K (tCons te tr) g H := fun s H1 e t Q => h s H1 e t _
theorem yax_2 {tr : TA} (ha : Yd R K te g H d) (h : Yax R K tr g H) : Yax R K (tCons te tr) g H := fun s H1 e t Q => ha s H1 e t _ fun v H2 e2 _ => h s H2 (Rl.trans e e2) (t.mono e2) _
theorem yx_call {sp : Sp} {dvs : List V} {W : XK} {ta : TA} (h : Yax R K ta g H) : Yx R K (tCall sp dvs W ta) g H := fun s H1 e t Q => h s H1 e t _
theorem sx_asg {gg : TG} (e : R H H) (h : Yx R K te g H) : Sx K (tAsg te gg) g H := fun s Z ty => h s H e ty _
theorem sx_ret (e : R H H) (h : Yx R K te g H) : Sx K (tRet te) g H := fun s Z ty => h s H e ty _
theorem sx_seq1 (h : Sx K t g H) : Sx K (tSeq t u) g H := fun s Z ty => h s _ ty
theorem sx_seq (h : Sd K t g H { nx := fun g' H' => Sx K u g' H', rt := fun _ _ => False }) : Sx K (tSeq t u) g H := fun s Z ty =>
  h s { Z with nx := u Z } ty ⟨fun g' s' H' t' q => q s' Z t', fun _ _ _ _ q => q.elim, fun _ _ _ _ q => q.elim, fun _ _ _ _ q => q.elim⟩
theorem Sx.sd (h : Sx K t g H) : Sd K t g H E := fun s Z ty _ => h s Z ty
end

section
variable {R : Hp → Hp → Prop} [Rl R] {K : PySem.W.Frag} {g : Gm} {H : Hp} {c : TT} {t u : TS} {E : En}
theorem sd_cut {t u : TS} (Pm : Gm → Hp → Prop) (h1 : Sd K t g H { E with nx := Pm }) (h2 : ∀ g' H', Pm g' H' → Sd K u g' H' E) : Sd K (tSeq t u) g H E := fun s Z ty f =>
  h1 s { Z with nx := u Z } ty ⟨fun g' s' H' t' q => h2 g' H' q s' Z t' f, f.rt, f.bk, f.ct⟩
theorem sd_ifT {b : Bool} (e : R H H) (h : Yt R K c g H b) (h1 : ∀ H', R H H' → Sd K t g H' E) (hb : b = true := by rfl) : Sd K (tIfS c t u) g H E := sd_if e (h.is hb) (fun _ => h1) fun z => by cases z
theorem sd_ifF {b : Bool} (e : R H H) (h : Yt R K c g H b) (h1 : ∀ H', R H H' → Sd K u g H' E) (hb : b = false := by rfl) : Sd K (tIfS c t u) g H E := sd_if e (h.is hb) (fun z => by cases z) fun _ => h1
end

/-! ### promises -/
/-- a def on plain data: rel tells for which data (and heap) it is called, and the answer -/
def spP (K : PySem.W.Frag) (rel : Hp → List D → D → Prop) : Sp := fun vs H Q _ => ∃ ds d, RpL K H vs ds ∧ rel H ds d ∧ ∀ v H', Same H H' → Rp K H' v d → Q v H'
/-- .. that may raise: bad tells when; C: the error's class -/
def spE (K : PySem.W.Frag) (rel : Hp → List D → D → Prop) (bad : Hp → List D → Prop) (C : Addr) : Sp := fun vs H Q E => ∃ ds, RpL K H vs ds ∧
  ((∃ d, rel H ds d ∧ ∀ v H', Same H H' → Rp K H' v d → Q v H') ∨ (bad H ds ∧ ∀ dd H', Same H H' → E (.ref C) dd H'))
section
variable {R : Hp → Hp → Prop} [Rl R] {K : PySem.W.Frag} {g : Gm} {H H' : Hp} {d : D} {te : TE} {ds es : List D} {rel : Hp → List D → D → Prop} {bad : Hp → List D → Prop} {W : XK} {ta : TA} {C : Addr}
theorem yd_call (h : Ya R K ta g H ds) (hr : ∀ H1, R H H1 → rel H1 ds d) : Yd R K (tCall (spP K rel) [] W ta) g H d := fun s H1 e t Q q =>
  h s H1 e t _ fun vs H2 e2 rs => ⟨ds, d, by rw [List.append_nil]; exact rs, hr H2 (Rl.trans e e2), fun v H3 e3 rv => q v H3 (Rl.trans e2 (Rl.same (Rl.self e2) e3)) rv⟩
/-- some defaults behind -/
theorem yd_callD {dvs : List V} (h : Ya R K ta g H ds) (hd : ∀ H1, RpL K H1 dvs es) (hr : ∀ H1, R H H1 → rel H1 (ds ++ es) d) : Yd R K (tCall (spP K rel) dvs W ta) g H d := fun s H1 e t Q q =>
  h s H1 e t _ fun vs H2 e2 rs => ⟨ds ++ es, d, rs.append (hd H2), hr H2 (Rl.trans e e2), fun v H3 e3 rv => q v H3 (Rl.trans e2 (Rl.same (Rl.self e2) e3)) rv⟩
theorem yd_callE (h : Ya R K ta g H ds) (hr : ∀ H1, R H H1 → rel H1 ds d) : Yd R K (tCall (spE K rel bad C) [] W ta) g H d := fun s H1 e t Q q =>
  h s H1 e t _ fun vs H2 e2 rs => ⟨ds, by rw [List.append_nil]; exact rs, .inl ⟨d, hr H2 (Rl.trans e e2), fun v H3 e3 rv => q v H3 (Rl.trans e2 (Rl.same (Rl.self e2) e3)) rv⟩⟩
theorem yx_callE (h : Ya R K ta g H ds) (hr : ∀ H1, R H H1 → bad H1 ds) (hW : ∀ dd H1, R H H1 → W (.ref C) dd H1) : Yx R K (tCall (spE K rel bad C) [] W ta) g H := fun s H1 e t Q =>
  h s H1 e t _ fun vs H2 e2 rs => ⟨ds, by rw [List.append_nil]; exact rs, .inr ⟨hr H2 (Rl.trans e e2), fun dd H3 e3 => hW dd H3 (Rl.trans e (Rl.trans e2 (Rl.same (Rl.self e2) e3)))⟩⟩
end

/-- a def of the module's own name, as its callers take it -/
structure Cal (P : Program) (w : World) (K : PySem.W.Frag) (mg : Str → Option Value) (base : Heap) (CX : CXT) (k : Nat) (x : Str) (ps : List Str) (sp : Sp) : Prop where
  fn : ∃ fd, FnOk P w K mg base CX k (He.ga K x) fd ps sp ∧ Binds K fd ps []
  gl : mg x = some (.ref (He.ga K x))
  kp : PySem.W.keepIn K (.ref (He.ga K x)) = true
section
variable {X : Cx} {CX : CXT} {k : Nat} {x : Str} {ps : List Str} {sp : Sp} {E : XK} {p pos : Pos} {e : Expr} {es : List Expr} {t : TA}
theorem pe_cal (C : Cal X.prog X.w X.K X.mg X.base CX k x ps sp) (hr : Room k X.A) (hg : Gl X x) (hx : Passes CX X E) (ha : PA X (e :: es) t) (hdb : (x == ("__debug__" : Str)) = false := by decide)
    (he : starEach (e :: es) X.env = (false, eval e X.env) :: starEach es X.env := by rfl) (hpl : (backTo pos (starEach es X.env)).any (·.1) = false := by rfl) : PE X (.Call (.Name x p) (e :: es) [] pos) (tCall sp [] E t) := by
  obtain ⟨fd, F, b⟩ := C.fn
  exact pe_call F hr hg C.gl C.kp b .nil hx ha hdb he hpl
end
section
variable {P : Program} {w : World} {K : PySem.W.Frag} {mg : Str → Option Value} {base : Heap} {x q : Str} {st : Stmt} {N ps : List Str} {k : Nat} {rel : Hp → List D → D → Prop} {bad : Hp → List D → Prop} {C f : Addr}
abbrev gm0 (N : List Str) (ds : List D) : Gm := ds.map some ++ List.replicate (N.length - ds.length) none
abbrev enP (d : D) (H : Hp) : En := { nx := fun _ H' => d = .non ∧ Same H H', rt := fun d' H' => d' = d ∧ Same H H' }
/-- how a def binds -/
def Bnd (x q : Str) (st : Stmt) (ps : List Str) : Prop := ∀ (kV doc pm : Value) (an : Option Addr) (cdv ct : Value) (us : List Value), us.length = ps.length → bindArgs (PySem.W.fnOf x q (defArgs st) (defBody st) (defScope st) .none kV doc pm an cdv ct) ⟨us, []⟩ = pure (ps.zip us)
theorem fits_p {Q : VK} {H : Hp} {d : D} (hQ : ∀ v H', Same H H' → Rp K H' v d → Q v H') : Fits K (enP d H) { nx := fun _ H' => Q .non H', rt := Q } :=
  ⟨fun g s H' _ ⟨e, h⟩ => by subst e; exact hQ _ _ h .non, fun d' v H' r ⟨e, h⟩ => by subst e; exact hQ _ _ h r, fun _ _ _ _ q => q.elim, fun _ _ _ _ q => q.elim⟩
/-- THE RULE for a def on plain data -/
theorem fn_pure {dvs : List V} {fd : FuncData} (F : FunD K x q (defArgs st) (defBody st) (defScope st) dvs [] f fd) (S : FnScope N ps (defScope st)) (len : ∀ H ds d, rel H ds d → ds.length = ps.length)
    (body : ∀ (cdv : Value) (A : Around) (outer : List Env) (s : Shared) (H : Hp) (E : XK), Room k (A.deeper (envOfC q (defScope st) s.heap.objs.size f cdv)) →
      ∃ t, PSs (cxOf CX0 P w K mg base N q (defScope st) f cdv A outer s H E).nox (defBody st) t ∧ ∀ H ds d, rel H ds d → Sd K t (gm0 N ds) H (enP d H)) : FnOk P w K mg base CX0 (k + 1) f fd ps (spP K rel) := by
  refine F.ok S (fun vs H Q E ⟨ds, d, r, h, _⟩ => by rw [r.length]; exact len H ds d h) fun cdv A outer s H vs Q E hr hsp => ?_
  obtain ⟨ds, d, r, h, hQ⟩ := hsp
  obtain ⟨t, ht, hb⟩ := body cdv A outer s H E hr
  exact ⟨t, ht.nox, hb H ds d h _ _ (Ty.start r) (fits_p hQ)⟩
theorem cal_pure (F : ∃ fd, FunD K x x (defArgs st) (defBody st) (defScope st) [] [] (He.ga K x) fd) (gl : mg x = some (.ref (He.ga K x))) (S : FnScope N ps (defScope st)) (hb : Bnd x x st ps) (len : ∀ H ds d, rel H ds d → ds.length = ps.length)
    (body : ∀ (cdv : Value) (A : Around) (outer : List Env) (s : Shared) (H : Hp) (E : XK), Room k (A.deeper (envOfC x (defScope st) s.heap.objs.size (He.ga K x) cdv)) →
      ∃ t, PSs (cxOf CX0 P w K mg base N x (defScope st) (He.ga K x) cdv A outer s H E).nox (defBody st) t ∧ ∀ H ds d, rel H ds d → Sd K t (gm0 N ds) H (enP d H)) : Cal P w K mg base CX0 (k + 1) x ps (spP K rel) := by
  obtain ⟨fd, F⟩ := F
  exact ⟨⟨fd, fn_pure F S len body, F.bindsN hb⟩, gl, F.kp⟩
/-- .. that may raise -/
theorem fn_exc {dvs : List V} {fd : FuncData} (F : FunD K x q (defArgs st) (defBody st) (defScope st) dvs [] f fd) (S : FnScope N ps (defScope st)) (len : ∀ H ds d, rel H ds d → ds.length = ps.length) (lenb : ∀ H ds, bad H ds → ds.length = ps.length)
    (body : ∀ (cdv : Value) (A : Around) (outer : List Env) (s : Shared) (H : Hp) (E : XK), Room k (A.deeper (envOfC q (defScope st) s.heap.objs.size f cdv)) →
      ∃ t, PSs (cxOf (L2.CX P w) P w K mg base N q (defScope st) f cdv A outer s H E) (defBody st) t ∧ (∀ H ds d, rel H ds d → Sd K t (gm0 N ds) H (enP d H)) ∧
        ∀ H ds, bad H ds → (∀ dd H', Same H H' → E (.ref C) dd H') → Sx K t (gm0 N ds) H) : FnOk P w K mg base (L2.CX P w) (k + 1) f fd ps (spE K rel bad C) := by
  refine F.ok S (fun vs H Q E ⟨ds, r, h⟩ => by rw [r.length]; exact h.elim (fun ⟨d, h, _⟩ => len H ds d h) fun ⟨h, _⟩ => lenb H ds h) fun cdv A outer s H vs Q E hr hsp => ?_
  obtain ⟨ds, r, h⟩ := hsp
  obtain ⟨t, ht, h1, h2⟩ := body cdv A outer s H E hr
  refine ⟨t, ht, ?_⟩
  rcases h with ⟨d, h, hQ⟩ | ⟨h, hE⟩
  · exact h1 H ds d h _ _ (Ty.start r) (fits_p hQ)
  · exact h2 H ds h hE _ _ (Ty.start r)
theorem cal_exc (F : ∃ fd, FunD K x x (defArgs st) (defBody st) (defScope st) [] [] (He.ga K x) fd) (gl : mg x = some (.ref (He.ga K x))) (S : FnScope N ps (defScope st)) (hb : Bnd x x st ps) (len : ∀ H ds d, rel H ds d → ds.length = ps.length)
    (lenb : ∀ H ds, bad H ds → ds.length = ps.length)
    (body : ∀ (cdv : Value) (A : Around) (outer : List Env) (s : Shared) (H : Hp) (E : XK), Room k (A.deeper (envOfC x (defScope st) s.heap.objs.size (He.ga K x) cdv)) →
      ∃ t, PSs (cxOf (L2.CX P w) P w K mg base N x (defScope st) (He.ga K x) cdv A outer s H E) (defBody st) t ∧ (∀ H ds d, rel H ds d → Sd K t (gm0 N ds) H (enP d H)) ∧
        ∀ H ds, bad H ds → (∀ dd H', Same H H' → E (.ref C) dd H') → Sx K t (gm0 N ds) H) : Cal P w K mg base (L2.CX P w) (k + 1) x ps (spE K rel bad C) := by
  obtain ⟨fd, F⟩ := F
  exact ⟨⟨fd, fn_exc F S len lenb body, F.bindsN hb⟩, gl, F.kp⟩
end
/-! ### the built-ins by their names -/
theorem bo_int : bootBuiltins "int" = some (.type "int") := by decide +kernel
theorem bo_bool : bootBuiltins "bool" = some (.type "bool") := by decide +kernel
theorem bo_tuple : bootBuiltins "tuple" = some (.type "tuple") := by decide +kernel
theorem bo_list : bootBuiltins "list" = some (.type "list") := by decide +kernel
theorem bo_len : bootBuiltins "len" = some (.builtin "len") := by decide +kernel
theorem bo_isinstance : bootBuiltins "isinstance" = some (.builtin "isinstance") := by decide +kernel
theorem bo_abs : bootBuiltins "abs" = some (.builtin "abs") := by decide +kernel
theorem bo_max : bootBuiltins "max" = some (.builtin "max") := by decide +kernel
theorem bo_min : bootBuiltins "min" = some (.builtin "min") := by decide +kernel
theorem bo_sorted : bootBuiltins "sorted" = some (.builtin "sorted") := by decide +kernel
theorem pe_ty {X : Cx} {x : Str} {n : String} {pos : Pos} (hm : X.mg x = none) (hv : bootBuiltins x = some (.type n)) (hg : Gl X x := by rfl) (hn : x ≠ "__name__" := by decide) (hd : (x == ("__debug__" : Str)) = false := by decide) : PE X (.Name x pos) (tC (.ty n)) :=
  pe_bltn hg hm hv (show RelV (.ty n) (.type n) from rfl) hn hd

/-! ### more rules -/
/-- // by any divisor but 0, below 2 ^ 9000 in size -/
def CDivZ (_ j : Int) : Prop := j ≠ 0 ∧ j.natAbs.log2 < 9000
theorem op_fdivZ {X : Cx} : OpR X (binaryOp .FloorDiv) (rI CDivZ fun i j => .int (i.fdiv j)) := opI fun _ _ _ _ _ _ _ hc q => floordiv_int hc.1 q (.inl (PyProof.noPylong_of_log2 hc.2))
section
variable {R : Hp → Hp → Prop} [Rl R] {K : PySem.W.Frag} {g : Gm} {H : Hp} {d : D} {te ta tb : TE} {tbd : TS} {E : En} {j : Nat} {ds : List D}
abbrev tTru (K : PySem.W.Frag) (ta : TE) : TT := fun σ H Q => ta σ H fun x H1 => ∃ k, TruV K x H1 k ∧ Q k H1
theorem yt_truI {i : Int} (h : Yd R K te g H (.int i)) : Yt R K (tTru K te) g H (i != 0) := fun s H1 e t Q q => h s H1 e t _ fun v H2 e2 rv => by
  cases rv
  exact ⟨_, rfl, q H2 e2⟩
/-- over a list that stands -/
theorem sd_forL {a : Addr} {vs : List V} (h : Yd Same K te g H (.ref a)) (hl : H a = some (.lst vs)) (hv : RpL K H vs ds) (P : Nat → Gm → Hp → Prop) (hp : ∀ i g' H', P i g' H' → Same H H') (h0 : ∀ H1, Same H H1 → P 0 g H1)
    (hs : ∀ i d g' H', ds[i]? = some d → P i g' H' → Sd K tbd (g'.set j (some d)) H' { E with nx := P (i + 1), ct := P (i + 1), bk := E.nx })
    (hd : ∀ g' H', P ds.length g' H' → E.nx g' H') : Sd K (tFor (iList K te) (gName j) tbd) g H E := fun s Z ty f =>
  h s H (Same.refl H) ty _ fun v H1 e1 rv => by
    cases rv
    refine ⟨a, rfl, ⟨vs, SqL.of (e1 _ _ hl)⟩, for_list (K := K) (a := a) (xs := vs) (fun i s' H' => ∃ g', Ty K g' s' H' ∧ P i g' H') ⟨g, ty.mono e1, h0 H1 e1⟩ (fun i s' H' _ ⟨g', _, p⟩ => SqL.of (hp _ _ _ p _ _ hl)) ?_ ?_⟩
    · rintro i v s' H' hi ⟨g', ty', p⟩
      obtain ⟨d, hd', rv⟩ := hv.getV hi
      exact hs i d g' H' hd' p _ _ (ty'.set j (rv.mono (hp _ _ _ p))) ⟨fun g2 s2 H2 t2 q => ⟨g2, t2, q⟩, f.rt, f.nx, fun g2 s2 H2 t2 q => ⟨g2, t2, q⟩⟩
    · rintro s' H' ⟨g', ty', p⟩
      rw [hv.length] at p
      exact f.nx _ _ _ ty' (hd g' H' p)
/-- an item of a list that stands -/
theorem yd_ixL {a : Addr} {vs : List V} {i : Int} (ha : Yd R K ta g H (.ref a)) (hb : Yd R K tb g H (.int i)) (hl : ∀ H1, R H H1 → H1 a = some (.lst vs) ∧ RpL K H1 vs ds) (h : atI ds i = some d) : Yd R K (tOp (rIxL K) ta tb) g H d :=
  yd_op ha hb fun vx vy H1 e rx ry Q q => by
    cases ry
    cases rx
    obtain ⟨h1, l⟩ := hl H1 e
    have hn := l.length
    unfold atI at h
    cases hk : ixN ds.length i with
    | none => rw [hk] at h; cases h
    | some k =>
      rw [hk] at h
      obtain ⟨v, hv, rv⟩ := l.get (i := k) h
      refine ⟨a, vs, i, v, rfl, rfl, SqL.of h1, ?_, q v H1 (Rl.self e) rv⟩
      unfold atI
      rw [hn, hk]
      exact hv
theorem yd_lenL {a : Addr} {vs : List V} (h : Yd R K te g H (.ref a)) (hl : ∀ H1, R H H1 → H1 a = some (.lst vs)) : Yd R K (tCB (rLenX K) (tCons te tNil)) g H (.int vs.length) :=
  yd_cb (ya_cons h ya_nil) fun us H1 e rs Q q => by
    cases rs with
    | cons r1 r2 =>
      cases r2
      cases r1
      exact ⟨_, vs.length, rfl, .inl ⟨vs, SqL.of (hl H1 e), rfl⟩, q _ H1 (Rl.self e) .int⟩
end
end K19
/-! Ratios: exact values and their size. -/
namespace K19
abbrev dq (q : Rat) : D := .tup [.int q.num, .int q.den]
theorem dq_inj {q r : Rat} (h : dq q = dq r) : q = r := by
  simp only [D.tup.injEq, List.cons.injEq, D.int.injEq, and_true] at h
  exact Rat.ext h.1 (by exact_mod_cast h.2)
/-- the size in bits -/
def bt (q : Rat) : Nat := max q.num.natAbs.log2 q.den.log2 + 1
theorem bt_num (q : Rat) : q.num.natAbs < 2 ^ bt q := by
  have h := Nat.lt_log2_self (n := q.num.natAbs)
  exact Nat.lt_of_lt_of_le h (Nat.pow_le_pow_right (by decide) (by unfold bt; omega))
theorem bt_den (q : Rat) : q.den < 2 ^ bt q := by
  have h := Nat.lt_log2_self (n := q.den)
  exact Nat.lt_of_lt_of_le h (Nat.pow_le_pow_right (by decide) (by unfold bt; omega))
theorem log2_le_of {n k : Nat} (h : n < 2 ^ (k + 1)) : n.log2 ≤ k := by
  by_cases h0 : n = 0
  · subst h0; simp
  · have := (Nat.log2_lt h0).2 h
    omega
theorem bt_le {q : Rat} {n : Nat} (h0 : 0 < n) (h1 : q.num.natAbs < 2 ^ n) (h2 : q.den < 2 ^ n) : bt q ≤ n := by
  obtain ⟨k, rfl⟩ : ∃ k, n = k + 1 := ⟨n - 1, by omega⟩
  have a := log2_le_of h1
  have b := log2_le_of h2
  unfold bt
  omega
theorem bt_pos (q : Rat) : 1 ≤ bt q := by unfold bt; omega
theorem num_lt {q : Rat} {n : Nat} (h : bt q ≤ n) : q.num.natAbs < 2 ^ n := Nat.lt_of_lt_of_le (bt_num q) (Nat.pow_le_pow_right (by decide) h)
theorem den_lt {q : Rat} {n : Nat} (h : bt q ≤ n) : q.den < 2 ^ n := Nat.lt_of_lt_of_le (bt_den q) (Nat.pow_le_pow_right (by decide) h)
/-- of a quotient, unreduced -/
theorem bt_divInt {a b : Int} {n : Nat} (h0 : 0 < n) (hb : b ≠ 0) (h1 : a.natAbs < 2 ^ n) (h2 : b.natAbs < 2 ^ n) : bt (Rat.divInt a b) ≤ n := by
  refine bt_le h0 ?_ ?_
  · rw [Rat.num_divInt]
    refine Nat.lt_of_le_of_lt ?_ h1
    rw [Int.natAbs_ediv_of_dvd]
    · refine Nat.le_trans (Nat.div_le_self _ _) ?_
      rw [Int.natAbs_mul]
      have : b.sign.natAbs ≤ 1 := by
        rcases Int.lt_trichotomy b 0 with h | h | h
        · rw [Int.sign_eq_neg_one_of_neg h]; decide
        · exact absurd h hb
        · rw [Int.sign_eq_one_of_pos h]; decide
      calc b.sign.natAbs * a.natAbs ≤ 1 * a.natAbs := Nat.mul_le_mul_right _ this
        _ = a.natAbs := Nat.one_mul _
    · exact Int.dvd_mul_of_dvd_right (Int.gcd_dvd_right _ _)
  · rw [Rat.den_divInt, if_neg hb]
    exact Nat.lt_of_le_of_lt (Nat.div_le_self _ _) h2
theorem add_eq (q r : Rat) : Rat.divInt (q.num * r.den + r.num * q.den) (q.den * r.den) = q + r := by
  rw [Rat.add_def', ← Rat.divInt_ofNat]
  simp
theorem sub_eq (q r : Rat) : Rat.divInt (q.num * r.den - r.num * q.den) (q.den * r.den) = q - r := by
  rw [Rat.sub_def', ← Rat.divInt_ofNat]
  simp
theorem mul_eq (q r : Rat) : Rat.divInt (q.num * r.num) (q.den * r.den) = q * r := by
  rw [Rat.mul_def', ← Rat.divInt_ofNat]
  simp
theorem div_eq (q r : Rat) : Rat.divInt (q.num * r.den) (q.den * r.num) = q / r := by
  rw [Rat.div_def, Rat.inv_def]
  conv => rhs; rw [← Rat.num_divInt_den q]
  rw [Rat.divInt_mul_divInt]
theorem den_ne (q : Rat) : (q.den : Int) ≠ 0 := by
  have := q.den_nz
  omega
theorem den_pos' (q : Rat) : (0 : Int) < q.den := by
  have := q.den_pos
  omega
theorem mul_lt {a b : Int} {n m : Nat} (ha : a.natAbs < 2 ^ n) (hb : b.natAbs < 2 ^ m) : (a * b).natAbs < 2 ^ (n + m) := by
  rw [Int.natAbs_mul, Nat.pow_add]
  exact Nat.mul_lt_mul'' ha hb
theorem two_lt {a b : Nat} {n : Nat} (ha : a < 2 ^ n) (hb : b < 2 ^ n) : a + b < 2 ^ (n + 1) := by
  rw [Nat.pow_succ]; omega
theorem bt_add (q r : Rat) : bt (q + r) ≤ bt q + bt r + 1 := by
  rw [← add_eq]
  have h1 := mul_lt (bt_num q) (b := (r.den : Int)) (m := bt r) (by simpa using bt_den r)
  have h2 := mul_lt (bt_num r) (b := (q.den : Int)) (m := bt q) (by simpa using bt_den q)
  have h3 := mul_lt (a := (q.den : Int)) (n := bt q) (by simpa using bt_den q) (b := (r.den : Int)) (m := bt r) (by simpa using bt_den r)
  refine bt_divInt (by omega) (Int.mul_ne_zero (den_ne q) (den_ne r)) ?_ ?_
  · rw [Nat.add_comm (bt r)] at h2
    exact Nat.lt_of_le_of_lt (Int.natAbs_add_le _ _) (two_lt h1 h2)
  · exact Nat.lt_of_lt_of_le h3 (Nat.pow_le_pow_right (by decide) (by omega))
theorem bt_neg (q : Rat) : bt (-q) = bt q := by
  unfold bt
  simp
theorem bt_sub (q r : Rat) : bt (q - r) ≤ bt q + bt r + 1 := by
  rw [Rat.sub_eq_add_neg]
  have := bt_add q (-r)
  rw [bt_neg] at this
  exact this
theorem bt_mul (q r : Rat) : bt (q * r) ≤ bt q + bt r := by
  rw [← mul_eq]
  have h1 := mul_lt (bt_num q) (bt_num r)
  have h3 := mul_lt (a := (q.den : Int)) (n := bt q) (by simpa using bt_den q) (b := (r.den : Int)) (m := bt r) (by simpa using bt_den r)
  have := bt_pos q
  exact bt_divInt (by omega) (Int.mul_ne_zero (den_ne q) (den_ne r)) h1 h3
theorem num_ne {r : Rat} (h : r ≠ 0) : r.num ≠ 0 := fun z => h (Rat.ext (by simpa using z) (by
  have := r.reduced
  rw [z] at this
  simpa using this))
theorem bt_div {q r : Rat} (h : r ≠ 0) : bt (q / r) ≤ bt q + bt r := by
  rw [← div_eq]
  have h1 := mul_lt (bt_num q) (b := (r.den : Int)) (m := bt r) (by simpa using bt_den r)
  have h3 := mul_lt (a := (q.den : Int)) (n := bt q) (by simpa using bt_den q) (bt_num r)
  have := bt_pos q
  exact bt_divInt (by omega) (Int.mul_ne_zero (den_ne q) (num_ne h)) h1 h3
theorem bt_abs (q : Rat) : bt q.abs = bt q := by
  unfold Rat.abs
  split
  · rfl
  · exact bt_neg q
/-- the ratio of two ints, its top and bottom -/
theorem low_num {t b : Int} (h : 0 < b) : (Rat.divInt t b).num = t / ((Nat.gcd t.natAbs b.natAbs : Nat) : Int) := by
  rw [Rat.num_divInt, Int.sign_eq_one_of_pos h, Int.one_mul]
  have : b.gcd t = Nat.gcd t.natAbs b.natAbs := by
    rw [Int.gcd_comm]; rfl
  rw [this]
theorem low_den {t b : Int} (h : 0 < b) : ((Rat.divInt t b).den : Int) = b / ((Nat.gcd t.natAbs b.natAbs : Nat) : Int) := by
  rw [Rat.den_divInt, if_neg (by omega)]
  have : b.gcd t = Nat.gcd t.natAbs b.natAbs := by
    rw [Int.gcd_comm]; rfl
  rw [this, Int.natCast_ediv]
  congr 1
  omega
theorem gcd_pos {t b : Int} (h : b ≠ 0) : 0 < Nat.gcd t.natAbs b.natAbs := Nat.gcd_pos_of_pos_right _ (by omega)
theorem gcd_le {t b : Int} (h : b ≠ 0) : Nat.gcd t.natAbs b.natAbs ≤ b.natAbs := Nat.le_of_dvd (by omega) (Nat.gcd_dvd_right _ _)
theorem abs_num (q : Rat) : q.abs.num = if q.num < 0 then -q.num else q.num := by
  unfold Rat.abs
  have h : (0 ≤ q) ↔ 0 ≤ q.num := by
    rw [Rat.le_iff]; simp
  by_cases c : 0 ≤ q
  · rw [if_pos c]
    have := h.1 c
    rw [if_neg (by omega)]
  · rw [if_neg c]
    have : ¬ 0 ≤ q.num := fun z => c (h.2 z)
    rw [if_pos (by omega)]
    rfl
theorem abs_den (q : Rat) : q.abs.den = q.den := by
  unfold Rat.abs
  split <;> rfl
theorem dq_abs (q : Rat) : dq q.abs = .tup [.int (if q.num < 0 then -q.num else q.num), .int q.den] := by
  rw [dq, abs_num, abs_den]
theorem lt_num (q r : Rat) : decide (q < r) = decide (q.num * r.den < r.num * q.den) := by
  rw [decide_eq_decide]
  exact Rat.lt_iff q r
end K19
set_option maxHeartbeats 4000000
/-! Loops and comprehensions over whatever is walked, at the data level; == of ratios. -/
namespace K19
open PySem PySem.Spec PyProof.Rows L2

/-- what never changes stands -/
def Kp (H H' : Hp) : Prop := ∀ a o, H a = some o → Sol o = true → H' a = some o
instance : Rl Kp where
  self := fun {a b} _ _ _ h _ => h
  trans := fun x y a o h s => y a o (x a o h s) s
  same := fun _ x a o h _ => x a o h
  keep := fun x e s => x _ _ e s
theorem Kp.upd {H : Hp} {p : Addr} {xs : List V} {o : HO} (h : H p = some (.lst xs)) : Kp H (upd H p o) := fun a u e s => by
  rw [upd_ne]
  · exact e
  · rintro rfl
    rw [h] at e
    cases e
    cases s
theorem same_mut {H H' : Hp} {p : Addr} {o : HO} (e : Same H H') (h : H p = none) : Same H (upd H' p o) := fun a u ha => by
  rw [upd_ne (ne_of_none ha h)]
  exact e a u ha

/-! ### what is walked -/
structure DIt (R : Hp → Hp → Prop) (K : PySem.W.Frag) (J : It) (n : Nat) (item : Nat → D) (H1 : Hp) : Prop where
  go : ∀ i H, R H1 H → i < n → J.go i H
  stop : ∀ H, R H1 H → J.stop n H
  yld : ∀ i H x H', R H1 H → i < n → J.yld i H x H' → Same H H' ∧ Rp K H' x (item i)
def Yi (R : Hp → Hp → Prop) (K : PySem.W.Frag) (wi : TI) (g : Gm) (H : Hp) (n : Nat) (item : Nat → D) : Prop := ∀ s H1, R H H1 → Ty K g s H1 → ∀ Q : It → Hp → Prop, (∀ J H2, R H1 H2 → DIt R K J n item H2 → Q J H2) → wi s H1 Q
/-- a target -/
def Tg (K : PySem.W.Frag) (tg : TG) (vs : List Nat) (d : D) (f : Gm → Gm) : Prop := ∀ v s g H (Q : L2.St → Hp → Prop), Ty K g s H → Rp K H v d → (∀ s', Ty K (f g) s' H → wipe s' vs = wipe s vs → Q s' H) → tg v s H Q
theorem wipe_set {s : L2.St} {j : Nat} {o : Option V} : ∀ {vs : List Nat}, j ∈ vs → wipe (s.set j o) vs = wipe s vs
  | v :: vs, h => by
    unfold wipe
    by_cases e : j = v
    · subst e
      have : ∀ (s t : L2.St) (l : List Nat), (∀ i, i ≠ j → s[i]? = t[i]?) → s.length = t.length → (wipe s l).set j none = (wipe t l).set j none := by
        intro s t l h1 h2
        induction l with
        | nil =>
          show s.set j none = t.set j none
          apply List.ext_getElem?
          intro i
          by_cases q : i = j
          · subst q
            by_cases hl : i < s.length
            · rw [List.getElem?_set_self hl, List.getElem?_set_self (h2 ▸ hl)]
            · have a1 : (s.set i none)[i]? = none := List.getElem?_eq_none_iff.mpr (by rw [List.length_set]; omega)
              have a2 : (t.set i none)[i]? = none := List.getElem?_eq_none_iff.mpr (by rw [List.length_set]; omega)
              rw [a1, a2]
          · rw [List.getElem?_set_ne (Ne.symm q), List.getElem?_set_ne (Ne.symm q), h1 i q]
        | cons u l ih =>
          show ((wipe s l).set u none).set j none = ((wipe t l).set u none).set j none
          by_cases q : u = j
          · subst q
            rw [List.set_set, List.set_set]
            exact ih
          · rw [List.set_comm _ _ q, List.set_comm _ _ q, ih]
      exact this _ _ vs (fun i q => List.getElem?_set_ne (Ne.symm q)) (List.length_set ..)
    · have hm : j ∈ vs := by
        rcases List.mem_cons.mp h with q | q
        · exact absurd q e
        · exact q
      rw [wipe_set hm]
theorem tg_name {K : PySem.W.Frag} {j : Nat} {vs : List Nat} {d : D} (h : j ∈ vs := by simp) : Tg K (gName j) vs d (fun g => g.set j (some d)) := fun v s g H Q ty r q => q _ (ty.set j r) (wipe_set h)
theorem tg_two {K : PySem.W.Frag} {i j : Nat} {vs : List Nat} {d1 d2 : D} (h : i ∈ vs := by simp) (h2 : j ∈ vs := by simp) : Tg K (gTup K 2 (gCons (gName i) (gCons (gName j) gNil))) vs (.tup [d1, d2]) (fun g => (g.set i (some d1)).set j (some d2)) := fun v s g H Q ty r q => by
  cases r with
  | tup hs l =>
    rename_i a us
    cases l with
    | cons r1 l =>
      cases l with
      | cons r2 l =>
        cases l
        exact ⟨a, _, rfl, hs, rfl, _, _, rfl, _, _, rfl, rfl, q _ ((ty.set i r1).set j r2) (by rw [wipe_set h2, wipe_set h])⟩
section
variable {R : Hp → Hp → Prop} [Rl R] {K : PySem.W.Frag} {g : Gm} {H H' : Hp} {d x y : D} {ta tb te : TE} {tbd : TS} {ds es : List D} {E : En} {wi : TI} {tg : TG} {n : Nat} {item : Nat → D} {f : Nat → Gm → Gm} {vs : List Nat}
theorem yi_tup (h : Yd R K te g H (.tup ds)) : Yi R K (iTup K te) g H ds.length (fun i => ds.getD i .non) := fun s H1 e ty Q q =>
  h s H1 e ty _ fun v H2 e2 rv => by
    cases rv with
    | tup ht l =>
      rename_i a us
      have hl := l.length
      refine ⟨a, rfl, ⟨us, ht⟩, q _ H2 e2 ⟨fun i H3 e3 hi => ⟨us, us[i]'(by omega), sqt_mono e3 ht, List.getElem?_eq_getElem (by omega)⟩, fun H3 e3 => ⟨us, sqt_mono e3 ht, by omega⟩, fun i H3 v H4 e3 hi hy => ?_⟩⟩
      obtain ⟨rfl, hy⟩ := hy
      have hv := hy us (sqt_mono e3 ht)
      obtain ⟨d, hd, rv⟩ := l.getV hv
      refine ⟨Same.refl _, ?_⟩
      show Rp K _ v (ds.getD i .non)
      rw [List.getD_eq_getElem?_getD, hd]
      exact rv.mono e3
theorem yi_list {a : Addr} {us : List V} (h : Yd Same K te g H (.ref a)) (hl : H a = some (.lst us)) (hv : RpL K H us ds) : Yi Same K (iList K te) g H ds.length (fun i => ds.getD i .non) := fun s H1 e ty Q q =>
  h s H1 e ty _ fun v H2 e2 rv => by
    cases rv
    have hn := hv.length
    have st : ∀ H3, Same H2 H3 → SqL K H3 a us := fun H3 e3 => SqL.of ((e.trans (e2.trans e3)) _ _ hl)
    refine ⟨a, rfl, ⟨us, st H2 (Same.refl _)⟩, q _ H2 e2 ⟨fun i H3 e3 hi => ⟨us, us[i]'(by omega), st H3 e3, List.getElem?_eq_getElem (by omega)⟩, fun H3 e3 => ⟨us, st H3 e3, by omega⟩, fun i H3 v H4 e3 hi hy => ?_⟩⟩
    obtain ⟨rfl, hy⟩ := hy
    have hx := hy us (st _ e3)
    obtain ⟨d, hd, rv⟩ := hv.getV hx
    refine ⟨Same.refl _, ?_⟩
    show Rp K _ v (ds.getD i .non)
    rw [List.getD_eq_getElem?_getD, hd]
    exact rv.mono (e.trans (e2.trans e3))
/-- a list that stands, whatever else goes on -/
theorem yi_listK {a : Addr} {us : List V} (h : Yd R K te g H (.ref a)) (hl : ∀ H1, R H H1 → H1 a = some (.lst us) ∧ RpL K H1 us ds) : Yi R K (iList K te) g H ds.length (fun i => ds.getD i .non) := fun s H1 e ty Q q =>
  h s H1 e ty _ fun v H2 e2 rv => by
    cases rv
    have e12 := Rl.trans e e2
    have hn := (hl H2 e12).2.length
    have st : ∀ H3, R H2 H3 → SqL K H3 a us := fun H3 e3 => SqL.of (hl H3 (Rl.trans e12 e3)).1
    refine ⟨a, rfl, ⟨us, st H2 (Rl.self e12)⟩, q _ H2 e2 ⟨fun i H3 e3 hi => ⟨us, us[i]'(by omega), st H3 e3, List.getElem?_eq_getElem (by omega)⟩, fun H3 e3 => ⟨us, st H3 e3, by omega⟩, fun i H3 v H4 e3 hi hy => ?_⟩⟩
    obtain ⟨rfl, hy⟩ := hy
    obtain ⟨d, hd, rv⟩ := (hl _ (Rl.trans e12 e3)).2.getV (hy us (st _ e3))
    refine ⟨Same.refl _, ?_⟩
    show Rp K _ v (ds.getD i .non)
    rw [List.getD_eq_getElem?_getD, hd]
    exact rv
/-- a new list -/
theorem yi_listN (h : Yl Same K te g H ds) : Yi Same K (iList K te) g H ds.length (fun i => ds.getD i .non) := fun s H1 e ty Q q =>
  h s H1 e ty _ fun p us H2 hp e2 hl hv => by
    have hn := hv.length
    have st : ∀ H3, Same H2 H3 → SqL K H3 p us := fun H3 e3 => SqL.of (e3 _ _ hl)
    refine ⟨p, rfl, ⟨us, st H2 (Same.refl _)⟩, q _ H2 e2 ⟨fun i H3 e3 hi => ⟨us, us[i]'(by omega), st H3 e3, List.getElem?_eq_getElem (by omega)⟩, fun H3 e3 => ⟨us, st H3 e3, by omega⟩, fun i H3 v H4 e3 hi hy => ?_⟩⟩
    obtain ⟨rfl, hy⟩ := hy
    obtain ⟨d, hd, rv⟩ := hv.getV (hy us (st _ e3))
    refine ⟨Same.refl _, ?_⟩
    show Rp K _ v (ds.getD i .non)
    rw [List.getD_eq_getElem?_getD, hd]
    exact rv.mono e3
theorem yi_range1 {ta : TA} {m : Int} (h : Ya R K ta g H [.int m]) (hm : -100000 ≤ m ∧ m ≤ 100000) : Yi R K (iRng1 ta) g H m.toNat (fun i => .int (i : Int)) := fun s H1 e ty Q q =>
  h s H1 e ty _ fun us H2 e2 rs => by
    cases rs with
    | cons r1 l =>
      cases l
      cases r1
      refine ⟨m, rfl, by omega, by omega, q _ H2 e2 ⟨fun i H3 e3 hi => hi, fun H3 e3 => Nat.le_refl _, fun i H3 v H4 e3 hi hy => ?_⟩⟩
      obtain ⟨rfl, hy⟩ := hy
      refine ⟨Same.refl _, ?_⟩
      rw [hy]
      have e0 : (0 : Int) + (i : Int) = (i : Int) := Int.zero_add _
      rw [e0]
      exact .int
theorem yi_range2 {ta : TA} {lo m : Int} (h : Ya R K ta g H [.int lo, .int m]) (hl : -100000 ≤ lo ∧ lo ≤ 100000) (hm : -100000 ≤ m ∧ m ≤ 100000) : Yi R K (iRng2 ta) g H (m - lo).toNat (fun i => .int (lo + (i : Int))) := fun s H1 e ty Q q =>
  h s H1 e ty _ fun us H2 e2 rs => by
    cases rs with
    | cons r1 l =>
      cases l with
      | cons r2 l =>
        cases l
        cases r1
        cases r2
        refine ⟨lo, m, rfl, by omega, q _ H2 e2 ⟨fun i H3 e3 hi => hi, fun H3 e3 => Nat.le_refl _, fun i H3 v H4 e3 hi hy => ?_⟩⟩
        obtain ⟨rfl, hy⟩ := hy
        refine ⟨Same.refl _, ?_⟩
        rw [hy]
        exact .int
/-- zip of two tuples of one length -/
theorem yi_zip (h : Yd R K ta g H (.tup ds)) (h2 : Yd R K tb g H (.tup es)) (hn : ds.length = es.length) : Yi R K (RZ.iZipA K (tCons ta (tCons tb tNil))) g H ds.length (fun i => .tup [ds.getD i .non, es.getD i .non]) := fun s H1 e ty Q q =>
  (ya_cons h (ya_cons h2 ya_nil)) s H1 e ty _ fun us H2 e2 rs => by
    cases rs with
    | cons r1 l =>
      cases l with
      | cons r2 l =>
        cases l
        cases r1 with
        | tup hs l1 =>
          rename_i a xs
          cases r2 with
          | tup ht l2 =>
            rename_i b ys
            have n1 := l1.length
            have n2 := l2.length
            refine ⟨a, b, xs, ys, rfl, .inr ⟨hs, ht, q _ H2 e2 ⟨fun i H3 e3 hi => ⟨xs, ys, xs[i]'(by omega), ys[i]'(by omega), sqt_mono e3 hs, sqt_mono e3 ht, List.getElem?_eq_getElem (by omega), List.getElem?_eq_getElem (by omega)⟩,
              fun H3 e3 => ⟨xs, ys, sqt_mono e3 hs, sqt_mono e3 ht, .inl (by omega)⟩, fun i H3 v H4 e3 hi hy => ?_⟩⟩⟩
            obtain ⟨T, x, y, rfl, hT, rfl, f1, f2⟩ := hy
            have hx := f1 xs (sqt_mono e3 hs)
            have hy := f2 ys (sqt_mono e3 ht)
            obtain ⟨d1, hd1, rv1⟩ := l1.getV hx
            obtain ⟨d2, hd2, rv2⟩ := l2.getV hy
            have e4 : Same H3 (upd H3 T (.tup [x, y])) := Same.new hT
            refine ⟨e4, ?_⟩
            show Rp K _ _ (.tup [ds.getD i .non, es.getD i .non])
            rw [List.getD_eq_getElem?_getD, List.getD_eq_getElem?_getD, hd1, hd2]
            exact .tup (SqT.of upd_same) (.cons ((rv1.mono e3).mono e4) (.cons ((rv2.mono e3).mono e4) .nil))
/-- a for -/
theorem sd_for (e : R H H) (h : Yi R K wi g H n item) (ht : ∀ i, i < n → Tg K tg vs (item i) (f i)) (P : Hp → Nat → Gm → Hp → Prop) (hp : ∀ H1 i g' H', P H1 i g' H' → R H1 H') (h0 : ∀ H1, R H H1 → P H1 0 g H1)
    (hs : ∀ H1 i g' H', R H H1 → i < n → P H1 i g' H' → ∀ H2, Same H' H2 → Sd K tbd (f i g') H2 { E with nx := P H1 (i + 1), ct := P H1 (i + 1), bk := E.nx })
    (hd : ∀ H1 g' H', R H H1 → P H1 n g' H' → E.nx g' H') : Sd K (tFor wi tg tbd) g H E := fun s Z ty fz =>
  h s H e ty _ fun J H1 e1 it => by
    refine ⟨fun i m s' H' => m = n - i ∧ i ≤ n ∧ ∃ g', Ty K g' s' H' ∧ P H1 i g' H', ⟨n, by simp, Nat.zero_le _, g, ty.mono e1, h0 H1 e1⟩, ?_⟩
    rintro i m s' H' ⟨rfl, hi, g', ty', p⟩
    have e2 := hp _ _ _ _ p
    by_cases hlt : i < n
    · refine .inr ⟨it.go i H' e2 hlt, fun s2 H2 => ∃ g2, Ty K g2 s2 H2 ∧ P H1 (i + 1) g2 H2, fun s2 H2 q => ⟨n - (i + 1), by omega, rfl, hlt, q⟩, fun x H2 hy => ?_⟩
      obtain ⟨e3, rx⟩ := it.yld i H' x H2 e2 hlt hy
      refine ht i hlt x s' g' H2 _ (ty'.mono e3) rx fun s2 ty2 _ => ?_
      exact hs H1 i g' H' e1 hlt p H2 e3 _ _ ty2 ⟨fun g2 s2 H2 t2 q => ⟨g2, t2, q⟩, fz.rt, fz.nx, fun g2 s2 H2 t2 q => ⟨g2, t2, q⟩⟩
    · have : i = n := by omega
      subst this
      exact .inl ⟨it.stop H' e2, fz.nx _ _ _ ty' (hd H1 g' H' e1 p)⟩
/-! a comprehension -/
def wipeG (g : Gm) : List Nat → Gm
  | [] => g
  | v :: vs => (wipeG g vs).set v none
theorem Ty.wipe1 {s : L2.St} (i : Nat) (t : Ty K g s H) : Ty K (g.set i none) (s.set i none) H := ⟨by rw [List.length_set, List.length_set, t.1], fun j e q => by
  by_cases h : j = i
  · subst h
    have hl : j < g.length := by
      have := (List.getElem?_eq_some_iff.mp q).1
      simpa using this
    rw [List.getElem?_set_self hl] at q
    cases q
  · rw [List.getElem?_set_ne (Ne.symm h)] at q
    rw [List.getElem?_set_ne (Ne.symm h)]
    exact t.2 j e q⟩
theorem Ty.wipe {s : L2.St} (t : Ty K g s H) : ∀ vs : List Nat, Ty K (wipeG g vs) (L2.wipe s vs) H
  | [] => t
  | v :: vs => (Ty.wipe t vs).wipe1 v
theorem wipe_back {s s2 : L2.St} {vs : List Nat} (hw : L2.wipe s2 vs = L2.wipe (L2.wipe s vs) vs) : L2.wipe s2 vs = L2.wipe s vs := by
  rw [hw]
  have : ∀ (l m : List Nat) (t : L2.St), (∀ v ∈ l, v ∈ m) → L2.wipe (L2.wipe t m) l = L2.wipe t m := by
    intro l
    induction l with
    | nil => intro m t _; rfl
    | cons v l ih =>
      intro m t hm
      show (L2.wipe (L2.wipe t m) l).set v none = L2.wipe t m
      rw [ih m t fun u hu => hm u (List.mem_cons_of_mem _ hu)]
      have hv := hm v List.mem_cons_self
      apply List.ext_getElem?
      intro k
      by_cases z : k = v
      · subst z
        by_cases hk : k < (L2.wipe t m).length
        · rw [List.getElem?_set_self hk]
          cases q5 : (L2.wipe t m)[k]? with
          | none => rw [List.getElem?_eq_none_iff] at q5; omega
          | some o =>
            cases o with
            | none => rfl
            | some u => exact absurd hv (wipe_some q5).2
        · rw [List.getElem?_eq_none (by simpa using Nat.le_of_not_lt hk), List.getElem?_eq_none (Nat.le_of_not_lt hk)]
      · rw [List.getElem?_set_ne (Ne.symm z)]
  exact this vs vs s fun v hv => hv

theorem yl_lc (h : Yi Same K wi g H n item) (ht : ∀ i, i < n → Tg K tg vs (item i) (f i)) (hn : n ≤ 100000) (hl : es.length = n) (he : ∀ i d, es[i]? = some d → ∀ H1, Same H H1 → Yd Same K te (f i (wipeG g vs)) H1 d) : Yl Same K (tLc wi tg tYes te vs) g H es := fun s H1 e1 ty Q q =>
  h s H1 e1 ty _ fun J H2 e2 it => fun Dd hD => by
    refine ⟨fun i m H' => m = n - i ∧ i ≤ n ∧ ∃ acc, H' Dd = some (.lst acc) ∧ RpL K H' acc (es.take i) ∧ Same H2 H', ⟨n, by simp, Nat.zero_le _, [], upd_same, .nil, Same.new hD⟩, ?_⟩
    rintro i m H' ⟨rfl, hi, acc, ha, hr, e3⟩
    by_cases hlt : i < n
    · refine .inr ⟨it.go i H' e3 hlt, fun H4 => i + 1 ≤ n ∧ ∃ acc, H4 Dd = some (.lst acc) ∧ RpL K H4 acc (es.take (i + 1)) ∧ Same H2 H4, fun H4 q4 => ⟨n - (i + 1), by omega, rfl, q4⟩, fun x H4 hy => ?_⟩
      obtain ⟨e4, rx⟩ := it.yld i H' x H4 e3 hlt hy
      refine ht i hlt x (L2.wipe s vs) (wipeG g vs) H4 (fun s' H' => L2.wipe s' vs = L2.wipe s vs ∧ _) (((ty.mono (e2.trans (e3.trans e4))).wipe vs)) rx fun s2 ty2 hw => ⟨?_, ?_⟩
      · exact wipe_back hw
      · show te s2 H4 _
        have hd : es[i]? = some (es[i]'(by omega)) := List.getElem?_eq_getElem (by omega)
        refine he i _ hd H4 (e1.trans (e2.trans (e3.trans e4))) s2 H4 (Same.refl _) ty2 _ fun v H5 e5 rv => ?_
        have ha5 : H5 Dd = some (.lst acc) := e5 _ _ (e4 _ _ ha)
        refine ⟨acc, ha5, ?_, hlt, acc ++ [v], upd_same, ?_, same_mut (e3.trans (e4.trans e5)) hD⟩
        · have := hr.length
          rw [List.length_take] at this
          exact Nat.lt_of_lt_of_le (by omega : acc.length < 100000) (by decide)
        · rw [List.take_add_one, hd]
          exact ((hr.mono (e4.trans e5)).append (.cons rv .nil)).mono (Kp.upd ha5)
    · have : i = n := by omega
      subst this
      refine .inl ⟨it.stop H' e3, q Dd acc H' (e2.free hD) (e2.trans e3) ha ?_⟩
      rw [List.take_of_length_le (by omega)] at hr
      exact hr
theorem sd_asgL {i : Nat} (h : Yl Same K te g H ds) (q : ∀ p us H', H p = none → Same H H' → H' p = some (.lst us) → RpL K H' us ds → E.nx (g.set i (some (.ref p))) H') : Sd K (tAsg te (gName i)) g H E := fun s Z ty fz =>
  h s H (Same.refl _) ty _ fun p us H1 hp e1 hl hr => fz.nx _ _ _ ((ty.mono e1).set i .ref) (q p us H1 hp e1 hl hr)
abbrev rTupOf (K : PySem.W.Frag) : List V → Hp → VK → Prop := fun xs H Q => ∃ p ys, xs = [.ref p] ∧ ((SqL K H p ys ∧ ∀ l, H l = none → Q (.ref l) (upd H l (.tup ys))) ∨ (SqT K H p ys ∧ Q (.ref p) H))
/-- tuple(a new list) -/
theorem yd_tupOf (h : Yl Same K te g H ds) : Yd Same K (tCB (rTupOf K) (tCons te tNil)) g H (.tup ds) := fun s H1 e1 ty Q q =>
  h s H1 e1 ty _ fun p us H2 hp e2 hl hr => ⟨p, us, rfl, .inl ⟨SqL.of hl, fun l hn => q _ _ (e2.trans (Same.new hn)) (.tup (SqT.of upd_same) (hr.mono (Same.new hn)))⟩⟩
/-- tuple(a tuple) -/
theorem yd_tupT (h : Yd R K te g H (.tup ds)) : Yd R K (tCB (rTupOf K) (tCons te tNil)) g H (.tup ds) :=
  yd_cb (ya_cons h ya_nil) fun us H1 e rs Q q => by
    cases rs with
    | cons r1 r2 =>
      cases r2
      cases r1 with
      | tup hs l => exact ⟨_, _, rfl, .inr ⟨hs, q _ H1 (Rl.self e) (.tup hs l)⟩⟩
/-- a call that is given a new list -/
theorem yd_callL {rel : Hp → List D → D → Prop} {W : XK} (h : Yl Same K te g H ds) (hr : ∀ H1 a us, Same H H1 → H1 a = some (.lst us) → RpL K H1 us ds → rel H1 [.ref a] d) : Yd Same K (tCall (spP K rel) [] W (tCons te tNil)) g H d := fun s H1 e1 ty Q q =>
  h s H1 e1 ty _ fun p us H2 hp e2 hl hv => ⟨[.ref p], d, .cons .ref .nil, hr H2 p us (e1.trans e2) hl hv, fun v H3 e3 rv => q v H3 (e2.trans e3) rv⟩
/-! == of ratios -/
theorem dp_dq {v : V} {q : Rat} (r : Rp K H v (dq q)) : Dp K H v (.tuple [.int q.num, .int q.den]) := by
  cases r with
  | tup hs l =>
    cases l with
    | cons r1 l =>
      cases l with
      | cons r2 l =>
        cases l
        cases r1
        cases r2
        exact .tup hs (.cons (.int _) (.cons (.int _) .nil))
theorem eqv_dq (q r : Rat) : PyData.eqv (.tuple [.int q.num, .int q.den]) (.tuple [.int r.num, .int r.den]) = decide (q = r) := by
  show ((q.num == r.num) && (((q.den : Int) == (r.den : Int)) && true)) = decide (q = r)
  rw [Bool.eq_iff_iff]
  simp only [Bool.and_eq_true, beq_iff_eq, decide_eq_true_eq, and_true]
  constructor
  · rintro ⟨h1, h2⟩
    exact Rat.ext h1 (by omega)
  · rintro rfl
    exact ⟨rfl, rfl⟩
theorem sh_dq (a b : Int) : SeqAt.shaped (.tuple [.int a, .int b]) = true := by
  simp [SeqAt.shaped, PyData.canLay0, PyData.depth, PyData.canLayAll0, PyData.depthAll]
theorem yd_eqQ {q r : Rat} (ha : Yd R K ta g H (dq q)) (hb : Yd R K tb g H (dq r)) : Yd R K (tOp (rEqD K) ta tb) g H (.bl (decide (q = r))) :=
  yd_op ha hb fun vx vy H1 e rx ry Q w => ⟨_, _, dp_dq rx, dp_dq ry, sh_dq _ _, sh_dq _ _, by rw [eqv_dq]; exact w _ H1 (Rl.self e) .bl⟩
theorem yd_neQ {q r : Rat} (ha : Yd R K ta g H (dq q)) (hb : Yd R K tb g H (dq r)) : Yd R K (tOp (rNeD K) ta tb) g H (.bl (!decide (q = r))) :=
  yd_op ha hb fun vx vy H1 e rx ry Q w => ⟨_, _, dp_dq rx, dp_dq ry, sh_dq _ _, sh_dq _ _, by rw [eqv_dq]; exact w _ H1 (Rl.self e) .bl⟩
end
end K19
set_option maxHeartbeats 4000000
/-! enumerate over a tuple. -/
namespace K19
open PySem PySem.Spec PyProof.Rows L2
theorem new_enumB {v : Value} {ob : Obj} {Hh : Heap → Prop} (B : Begins v ob Hh) :
    Meets (Builtin.«enumerate.__new__» ⟨[.type "enumerate", v], []⟩) fun _ F z => Hh z.heap ∧ F (.ok (.ret (.ref (z.heap.push ob).objs.size)))
      { z with heap := Heap.push (z.heap.push ob) { cls := .type "enumerate", data := .fields #[.none, .bool false, .ref z.heap.objs.size, rawInt 0, .none, .none] } } :=
  .of_wp fun prog w A F z hz => by
    obtain ⟨hh, gs, dr, ti, os⟩ := z
    obtain ⟨b1, b2⟩ := hz
    have hsub := sub_enumerate
    have it : ∀ {A2 : Around} {E2 : Value → Shared → Prop} {Q2 : Value → Shared → Prop}, Q2 (.ref hh.objs.size) ⟨hh.push ob, gs, dr, ti, os⟩ → wpAny (model prog w) A2 (pyIter v) Q2 E2 ⟨hh, gs, dr, ti, os⟩ := fun q2 => B.iter prog w _ _ ⟨hh, gs, dr, ti, os⟩ _ b1 q2
    wp_walk using it
    refine wpAny_stack_any fun _ => wpAny_pure ?_
    split
    next c _ _ _ _ _ => cases (c == Value.type "enumerate") <;> (wp_walk using it; exact ⟨_, rfl, b2⟩)
    next => wp_walk using it; exact ⟨_, rfl, b2⟩
theorem call_enumB {P : Program} {w : World} {A : Around} {E : Value → Shared → Prop} {z : Shared} {v : Value} {ob : Obj} {Hh : Heap → Prop} {Q : Value → Shared → Prop} (B : Begins v ob Hh) (b1 : Hh z.heap)
    (q : ∀ h2, IsEnum h2 (z.heap.objs.size + 1) z.heap.objs.size 0 .none → h2.get? z.heap.objs.size = some ob → (∀ b u, z.heap.get? b = some u → h2.get? b = some u) → Q (.ref (z.heap.objs.size + 1)) { z with heap := h2 }) :
    wpAny (model P w) A (call (.type "enumerate") [v]) Q E z := by
  refine callType_new F.called_enumerate (by decide) (F.typeCall_enumerate_1 _) (F.newCall_enumerate_1 _) (fun o2 => F.args_object_init_2 o2 _) F.entry_enumerate_new (new_enumB B) ⟨b1, ?_⟩
  have sz : (z.heap.push ob).objs.size = z.heap.objs.size + 1 := Heap.size_push ..
  have top := Heap.get?_push_size (z.heap.push ob) (o := { cls := .type "enumerate", data := .fields #[.none, .bool false, .ref z.heap.objs.size, rawInt 0, .none, .none] }) rfl
  show _ ∧ _
  rw [sz] at top ⊢
  exact ⟨⟨_, top, rfl⟩, q _ top (Heap.get?_push_of_some _ (Heap.get?_push_size _ B.free)) fun b u e => Heap.get?_push_of_some _ (Heap.get?_push_of_some _ e)⟩
/-- the tuple at a, its items in new pairs -/
def ItE (K : PySem.W.Frag) (a : Addr) : It where
  go := fun i H => ∃ (us : List V) (x : V), SqT K H a us ∧ us[i]? = some x
  yld := fun i H v H' => ∃ (t : Addr) (x : V), v = .ref t ∧ H t = none ∧ H' = upd H t (.tup [.int ((i : Nat) : Int), x]) ∧ ∀ us, SqT K H a us → us[i]? = some x
  stop := fun i H => ∃ us : List V, SqT K H a us ∧ us.length ≤ i
theorem turn_enT {P : Program} {w : World} {K : PySem.W.Frag} {tgs : List Expr} {kx : Nat} {ps : Pos} {a e it : Addr} (ne : e ≠ it) (na : a ≠ it) (nb : e ≠ a) :
    Turn P w K (.Tuple tgs kx ps) (ItE K a) [e, it] e (fun i h => (∃ o1, IsEnum h e it ((i : Nat) : Int) o1) ∧ h.IsTupleIter it a i) where
  mem := by simp
  obj := by
    rintro i h ⟨⟨o1, h1⟩, ⟨o2, h2, c2, d2⟩⟩ b hb
    rcases List.mem_cons.mp hb with rfl | hb
    · exact ⟨_, h1, fun _ q => nomatch q⟩
    · cases List.mem_singleton.mp hb
      exact ⟨o2, h2, fun _ q => by rw [d2] at q; cases q⟩
  keep := by
    rintro i h h2 ⟨⟨o1, h1⟩, hi⟩ k
    exact ⟨⟨o1, k e (by simp) _ h1⟩, hi.at fun o q => k it (by simp) o q⟩
  item := by
    rintro X rfl rfl rfl hc i pins z σ H E I hf ⟨⟨o1, h1⟩, hi⟩ ⟨us, x, hus, hx⟩
    obtain ⟨its, rv, p, _⟩ := I.tuple hus
    obtain ⟨u, hu, ru⟩ := rv.get hx
    have p : z.heap.IsTuple a its.toArray := p
    have el : e < z.heap.objs.size := Heap.lt_size h1
    have il : it < z.heap.objs.size := by obtain ⟨_, q, _⟩ := hi; exact Heap.lt_size q
    have lt : i < its.toArray.size := by
      have := (List.getElem?_eq_some_iff.mp hu).1
      simpa using this
    have hD := Draws.tuple (prog := X.prog) (w := X.w) (A := X.A.in1) (I.ok.hd hc) it a na its.toArray
    refine wpAny_pyNext_enum_itemD hD h1 ⟨hi, p⟩ lt ne (by simp [ne, nb]) fun y h2 tk hy ho hs hT hz hk => ?_
    have ey : y = u := by
      rw [List.getElem?_toArray, hu] at hy
      exact (Option.some.inj hy).symm
    subst ey
    refine ⟨_, rfl, wpAny_letOwnedTupleGo_enum (s := { z with heap := h2, toks := tk + 1 }) ho fun h3 he3 sb => ?_⟩
    have T3 : h3.get? z.heap.objs.size = some { cls := .type "tuple", data := .seq #[.int i tk, y] } := (sb.2 _ (Nat.ne_of_gt el)).trans hT
    have ob : ObjOk X.prog X.w (upd H z.heap.objs.size (.tup [.int (i : Nat), x])) h3 z.heap.objs.size (.tup [.int (i : Nat), x]) := ⟨Nat.le_trans (by decide : 2 ≤ 100) (by decide), [.int i tk, y], .cons ⟨tk, rfl⟩ (.cons ru .nil), ⟨_, T3, rfl, _, rfl⟩⟩
    have keep : ∀ b u, b ∉ [e, it] → z.heap.get? b = some u → h3.get? b = some u := fun b u hb q => by
      have b1 : b ≠ e := fun w => hb (by simp [w])
      have b2 : b ≠ it := fun w => hb (by simp [w])
      exact (sb.2 b b1).trans (hk b u b1 b2 q)
    refine ⟨.ref z.heap.objs.size, _, I.turnedNew (ch := [e, it]) keep hf (Nat.le_refl _) ob, rfl, ⟨_, x, rfl, I.hok.fresh (Nat.le_refl _), rfl, fun vs hvs => by rw [I.tuple_inj hvs hus]; exact hx⟩, ⟨⟨_, by rw [show ((i + 1 : Nat) : Int) = (i : Int) + 1 by omega]; exact he3⟩, ?_⟩, fun b hb => ?_⟩
    · exact hs.1.at fun o q => (sb.2 it (Ne.symm ne)).trans q
    · have bl : b ≠ z.heap.objs.size := by
        rcases List.mem_cons.mp hb with rfl | hb
        · exact Nat.ne_of_lt el
        · cases List.mem_singleton.mp hb
          exact Nat.ne_of_lt il
      rw [upd_ne bl]
      exact (hf b hb).1
  done := by
    rintro X rfl rfl rfl hc i pins z σ H E I hf ⟨⟨o1, h1⟩, hi⟩ ⟨us, hus, hle⟩
    obtain ⟨its, rv, p, _⟩ := I.tuple hus
    have p : z.heap.IsTuple a its.toArray := p
    have none_at : its.toArray[i]? = none := by
      have := rv.length
      rw [List.getElem?_toArray]
      exact List.getElem?_eq_none_iff.mpr (by omega)
    have hD : Draws X.prog X.w X.A.in1 it [it, a] i (fun _ _ => False) (fun j h => j = i ∧ h.IsTupleIter it a i ∧ h.IsTuple a its.toArray) :=
      { live := fun j h st => let ⟨o, ho, _⟩ := st.2.1; ⟨o, ho⟩
        frame := fun j h h' st k => ⟨st.1, st.2.1.at fun o q => k it (by simp) o q, st.2.2.at fun o q => k a (by simp) o q⟩
        item := fun j _ _ _ lt st _ => absurd st.1 (Nat.ne_of_lt lt)
        done := fun z2 Q2 E2 st q2 => wpAny_nextOf_tuple_end (I.ok.hd hc) st.2.1 st.2.2 none_at q2 }
    refine wpAny_pyNext_enum_endD hD h1 ⟨rfl, hi, p⟩ fun h2 sb => ⟨rfl, I.turnedL (t' := z.toks) (ch := [e, it]) (fun b o hb q => sb b o (fun w => hb (by simp [w])) q) hf⟩
  self := fun A i z Q E ⟨⟨_, h1⟩, _⟩ q => wpAny_pyIter_enum h1 q
abbrev iEnT (K : PySem.W.Frag) (ta : TA) : TI := fun σ H R => ta σ H fun vs H1 => ∃ a us, vs = [.ref a] ∧ SqT K H1 a us ∧ R (ItE K a) H1
theorem pi_enumT {X : Cx} {e : Expr} {ta : TA} {p pos ps : Pos} {tgs : List Expr} {kx : Nat} (hg : Gl X "enumerate") (hm : X.mg "enumerate" = none) (ha : PA X [e] ta) (hs : starEach [e] X.env = [(false, eval e X.env)] := by rfl) :
    PI X (.Tuple tgs kx ps) (.Call (.Name "enumerate" p) [e] [] pos) (iEnT X.K ta) := by
  refine ⟨fun pins z σ H F I h => Call_ (ld_blt I hg hm boot_enumerate (PyProof.Rows.callWith_type1 (thn (ha.run pos pins z σ H _ I h) fun vs z1 ⟨ws, H1, I1, r1, a, us, ew, hus, q⟩ => ?_) hs rfl))⟩
  subst ew
  obtain ⟨u, rfl, ru⟩ := r1.one
  cases (show u = Value.ref a from ru)
  obtain ⟨its, rv, p1, _⟩ := I1.tuple hus
  obtain ⟨o1, ho1, _⟩ := id p1
  have al := Heap.lt_size ho1
  refine call_enumB (begins_tuple a its.toArray) (show z1.heap.IsTuple a its.toArray from p1) fun h2 en ti k => wpAny_pyIter_enum en ?_
  refine ⟨_, [z1.heap.objs.size + 1, z1.heap.objs.size], _, _, H1, rfl, I1.kept (t' := z1.toks) k, turn_enT (a := a) (Nat.succ_ne_self _) (Nat.ne_of_lt al) (Nat.ne_of_gt (Nat.lt_succ_of_lt al)), ⟨⟨.none, en⟩, ⟨_, ti, rfl, rfl⟩⟩, fun b hb => ?_, q⟩
  have le : z1.heap.objs.size ≤ b := by
    rcases List.mem_cons.mp hb with rfl | hb
    · exact Nat.le_succ _
    · exact Nat.le_of_eq (List.mem_singleton.mp hb).symm
  exact I1.fpOk le (I1.hok.fresh le)
section
variable {R : Hp → Hp → Prop} [Rl R] {K : PySem.W.Frag} {g : Gm} {H : Hp} {te : TE} {ds : List D}
theorem yi_enumT (h : Yd R K te g H (.tup ds)) : Yi R K (iEnT K (tCons te tNil)) g H ds.length (fun i => .tup [.int (i : Int), ds.getD i .non]) := fun s H1 e ty Q q =>
  h s H1 e ty _ fun v H2 e2 rv => by
    cases rv with
    | tup ht l =>
      rename_i a us
      have hl := l.length
      refine ⟨a, us, rfl, ht, q _ H2 e2 ⟨fun i H3 e3 hi => ⟨us, us[i]'(by omega), sqt_mono e3 ht, List.getElem?_eq_getElem (by omega)⟩, fun H3 e3 => ⟨us, sqt_mono e3 ht, by omega⟩, fun i H3 v H4 e3 hi hy => ?_⟩⟩
      obtain ⟨t, x, rfl, hn, rfl, hy⟩ := hy
      obtain ⟨d, hd, rx⟩ := l.getV (hy us (sqt_mono e3 ht))
      have e4 : Same H3 (upd H3 t (.tup [.int ((i : Nat) : Int), x])) := Same.new hn
      refine ⟨e4, ?_⟩
      show Rp K _ _ (.tup [.int (i : Int), ds.getD i .non])
      rw [List.getD_eq_getElem?_getD, hd]
      exact .tup (SqT.of upd_same) (.cons .int (.cons ((rx.mono e3).mono e4) .nil))
end
end K19
set_option maxHeartbeats 4000000
/-! A set comprehension of ints. -/
namespace K19
open PySem PySem.Spec PyProof.Rows L2
abbrev noS : Int → Bool := fun _ => false
abbrev inS (S : Int → Bool) (c : Int) : Int → Bool := fun j => S j || decide (j = c)
/-- {te for g in wi if tt}, ints: D the set -/
def tScI (w : World) (wi : TI) (g : TG) (tt : TT) (te : TE) (vs : List Nat) : TE := fun σ H Q => wi σ H fun J H1 => ∀ D, H1 D = none → ∃ W : Nat → Nat → Hp → Prop, (∃ m, W 0 m (upd H1 D (SetO w D noS 0))) ∧ ∀ i m Hi, W i m Hi →
  ((J.stop i Hi ∧ Q (.ref D) Hi) ∨ (J.go i Hi ∧ ∃ Z : Hp → Prop, (∀ Hz, Z Hz → ∃ m2, m2 < m ∧ W (i + 1) m2 Hz) ∧ ∀ x Hx, J.yld i Hi x Hx → g x (wipe σ vs) Hx fun τ Ht => wipe τ vs = wipe σ vs ∧ tt τ Ht fun b Hb =>
    if b = true then te τ Hb fun y Hy => ∃ (c : Int) (S : Int → Bool) (k : Nat), y = .int c ∧ Hy D = some (SetO w D S k) ∧ k + 1 < scanBound ∧ Z (upd Hy D (SetO w D (inS S c) (if S c = true then k else k + 1))) else Z Hb))
section
variable {X : Cx}
theorem addI_ok {pins : List (Addr × Obj)} {σ : L2.St} {H : Hp} {z : Shared} {Ez : Value → Shared → Prop} {D : Addr} {S : Int → Bool} {n : Nat} {c : Int} {tk : Tok} {Q : Value → Shared → Prop} (I : Inv X pins σ H z) (hD : H D = some (SetO X.w D S n)) (room : n + 1 < scanBound)
    (q : ∀ z2, Inv X pins σ (upd H D (SetO X.w D (inS S c) (if S c = true then n else n + 1))) z2 → Q .none z2) : wpAny (model X.prog X.w) X.A (call (.builtin "set.add") [.ref D, .int c tk]) Q Ez z :=
  setR_add (setO_get I hD) room fun h2 sb nw => q _ (I.write (x := D) (t' := z.toks + 1) (by rw [hD]; trivial) (.inl rfl) (fun b u hb hu => (sb.2 b hb).trans hu) (by obtain ⟨o, _, _, _, ho, _⟩ := nw; exact ⟨o, ho⟩) (setO_new nw))
/-- the walk's own objects, as the block sees them -/
theorem foot_ok {z : Shared} {H G : Hp} {sc : Scope} {cx : Env} {foot : List Addr} {τ : L2.St} {z2 : Shared} (I : Inv (X.blk z H sc cx foot) [] τ G z2) (n : ∀ b ∈ foot, G b = none) : ∀ b ∈ foot, FpOk (X.blk z H sc cx foot) [] G b := fun b hb =>
  ⟨n b hb, (I.ok.exf b hb).1, I.ok.exfs b hb, Or.inl hb, (I.ok.exf b hb).2, fun p hp => (List.not_mem_nil (show p ∈ ([] : List (Addr × Obj)) from hp)).elim⟩
theorem pe_scI {el ta itr : Expr} {fs : List Expr} {sc : Scope} {own : List (PySem.Str × Nat)} {po : Pos} {wj : TI} {g : TG} {tc : TT} {tv : TE} (calm : X.calm = true) (nd : X.N.Nodup) (walk : PI X ta itr wj) (bo : BlkOk X.N X.env.scope sc own)
    (G : ∀ z H C cl foot, PG (X.blk z H sc (compEnvC sc cl C X.env) foot) ta g) (T : ∀ z H C cl foot, PTs (X.blk z H sc (compEnvC sc cl C X.env) foot) fs tc) (V : ∀ z H C cl foot, PE (X.blk z H sc (compEnvC sc cl C X.env) foot) el tv) (fold : ∀ x, foldedSetIterable itr X.env x = pure x := by intro _; rfl) :
    PE X (.SetComp el [⟨ta, itr, fs, 0⟩] sc po) (tScI X.w wj g tc tv (own.map (·.2))) := by
  refine ⟨fun pz z0 σ H Q I0 want => ?_⟩
  rw [PpSet.eval_SetComp]
  have clos : ∀ y ∈ sc.names, y.2 = .free → ∃ c, X.env.cells.lookup y.1 = some c := fun y hy fr => I0.ok.has _ (bo.free y hy fr)
  refine wpAny_comprehension_free rfl fold (closure_ok clos) bo.kind (fun y hy lo => lo ▸ bo.uniq y hy) (thn (walk.run pz z0 σ H _ I0 want) fun _ z1 w1 => thn w1 fun itv z2 got => ?_)
  obtain ⟨it, foot, at_, J, H2, rfl, I2, tu, a0, ff, want⟩ := got
  refine PpSet.newSet_ok (newEnv_comp ?_)
  obtain ⟨W, ⟨m0, w0⟩, more⟩ := want z2.heap.objs.size (I2.hok.fresh (Nat.le_refl _))
  -- the empty set is laid
  let z3 : Shared := { z2 with heap := z2.heap.push { cls := .type "set", dict := none, data := .set #[] 0 (.fresh 0 0 (!X.w.params.followText "set-order")) } }
  let H3 : Hp := upd H2 z2.heap.objs.size (SetO X.w z2.heap.objs.size noS 0)
  have I3 : Inv X pz σ H3 z3 := I2.laid (t' := z2.toks) (fun _ _ q => Heap.get?_push_of_some _ q) (Nat.le_refl _) (setO_new (setR_fresh X.w))
  have live : ∀ b ∈ foot, b < z2.heap.objs.size := fun b hb => (tu.obj 0 _ a0 b hb).elim fun _ q => Heap.lt_size q.1
  have grown : z3.heap.objs.size = z2.heap.objs.size + 1 := Heap.size_push ..
  have ff3 : ∀ b ∈ foot, FpOk X pz H3 b ∧ b < z3.heap.objs.size := fun b hb =>
    ⟨⟨(upd_ne (Nat.ne_of_lt (live b hb))).trans (ff b hb).1, (ff b hb).2⟩, by rw [grown]; exact Nat.lt_succ_of_lt (live b hb)⟩
  have a3 : at_ 0 z3.heap := tu.keep 0 _ _ a0 fun b _ o q => Heap.get?_push_of_some _ q
  let cx : Env := compEnvC sc (cellsFrom (z3.heap.objs.size + 1) sc.names (cloFrom X.env.cells sc.names [])) z3.heap.objs.size X.env
  let z4 : Shared := { z3 with heap := pushCells (z3.heap.push { cls := .type "dict", data := .dict #[] }) sc.names }
  have I4 : Inv (X.blk z3 H3 sc cx foot) [] (wipe σ (own.map (·.2))) H3 z4 := block_start I3 bo nd ff3
  have a4 : at_ 0 z4.heap := tu.keep 0 _ _ a3 fun b _ o q => pushCells_keeps _ _ _ _ (Heap.get?_push_of_some _ q)
  have run : codeAny (model X.prog X.w) X.A (.compLoop (.SetComp el [⟨ta, itr, fs, 0⟩] sc po) 0 (.ref it) (.ref z2.heap.objs.size) cx) (compPost (model X.prog X.w) X.A X.xe none (EP X pz σ Q) (.ref z2.heap.objs.size) z3.heap.objs.size) z4 := by
    refine PpSet.compLoopS_any (fun n z => ∃ i Hi, Inv (X.blk z3 H3 sc cx foot) [] (wipe σ (own.map (·.2))) Hi z ∧ at_ i z.heap ∧ (∀ b ∈ foot, Hi b = none) ∧ W i n Hi) ?_ m0 ⟨0, H3, I4, a4, fun b hb => (ff3 b hb).1.1, w0⟩
    rintro n z ⟨i, Hi, Ii, ai, ni, wi⟩
    rcases more i n Hi wi with ⟨stop, q⟩ | ⟨go, Z, hZ, each⟩
    · refine thnF (tu.done (X.blk z3 H3 sc cx foot) rfl rfl rfl calm i [] z _ Hi (fun _ _ => False) Ii (foot_ok Ii ni) ai stop) fun r z5 e5 => ?_
      obtain ⟨rfl, I5⟩ := e5
      have I6 : Inv X pz σ Hi z5 := I3.call' (ch := foot) I5.os I5.base I5.hok I5.bare fun b hb => ⟨(ff3 b hb).1.2.2.2.1, (ff3 b hb).1.2.1, (ff3 b hb).1.2.2.2.2.1, (ff3 b hb).1.2.2.2.2.2⟩
      have fr : Hi z3.heap.objs.size = none := I5.free
      obtain ⟨m, ns, _⟩ := I5.loc
      obtain ⟨f0, f1, f2, f3, f4, f5⟩ := I3.fpOk (Nat.le_refl _) fr
      exact ⟨m, ns, fun hh sb => ⟨.ref z2.heap.objs.size, Hi, I6.turned (t' := z5.toks) (fun b o hb q => (sb.2 b hb).trans q) f0 f1 f3 f4 f5, rfl, q⟩⟩
    · refine thnF (tu.item (X.blk z3 H3 sc cx foot) rfl rfl rfl calm i [] z _ Hi (fun _ _ => False) Ii (foot_ok Ii ni) ai go) fun r z5 e5 => ?_
      obtain ⟨u, rfl, e5⟩ := e5
      refine thnF e5 fun _ z6 e6 => ?_
      obtain ⟨x, H6, I6, rx, y6, a6, n6⟩ := e6
      have Ip := I6.pinned (foot_ok I6 n6) (tu.obj _ _ a6)
      refine thnF ((G z3 H3 _ _ foot).run _ z6 _ H6 x u _ Ip rx (each x H6 y6)) fun _ z7 e7 => ?_
      obtain ⟨τ, H7, I7, same, t7⟩ := e7
      -- a turn ends
      have back : ∀ (z9 : Shared) (H9 : Hp), Inv (X.blk z3 H3 sc cx foot) ([] ++ pinsAt foot z6.heap) τ H9 z9 → Z H9 → ∃ m, m < n ∧ ∃ i Hi, Inv (X.blk z3 H3 sc cx foot) [] (wipe σ (own.map (·.2))) Hi z9 ∧ at_ i z9.heap ∧ (∀ b ∈ foot, Hi b = none) ∧ W i m Hi := by
        intro z9 H9 I9 z9n
        obtain ⟨m2, lt, w2⟩ := hZ H9 z9n
        have held : ∀ b ∈ foot, ∀ o, z6.heap.get? b = some o → z9.heap.get? b = some o ∧ H9 b = none := fun b hb o q => by
          have := I9.pin (b, o) (List.mem_append_right _ (List.mem_append_right _ (mem_pinsAt hb q)))
          exact ⟨this.1, this.2.1⟩
        refine ⟨m2, lt, i + 1, H9, I9.unpinned.weak (by rw [← same, wipe_length]) (fun j v q => (wipe_some (same ▸ q)).1), tu.keep _ _ _ a6 fun b hb o q => (held b hb o q).1, fun b hb => ?_, w2⟩
        obtain ⟨o, q, _⟩ := tu.obj _ _ a6 b hb
        exact (held b hb o q).2
      refine thnF ((T z3 H3 _ _ foot).run _ z7 τ H7 _ I7 t7) fun b z8 e8 => ?_
      obtain ⟨H8, I8, q8⟩ := e8
      cases b with
      | false =>
        rw [if_neg Bool.false_ne_true] at q8
        exact back z8 H8 I8 q8
      | true =>
        rw [if_pos rfl] at q8
        refine thnF ((V z3 H3 _ _ foot).run _ z8 τ H8 _ I8 q8) fun r z9 e9 => ?_
        obtain ⟨y, H9, I9, ry, c, S, k, rfl, hD, room, q9⟩ := e9
        obtain ⟨tk, rfl⟩ := (show ∃ tk, r = Value.int c tk from ry)
        exact addI_ok (X := X.blk z3 H3 sc cx foot) I9 hD room fun z10 I10 => back z10 _ I10 q9
  exact PpSet.codeAny_compStart_set run (tu.self X.A 0 _ _ _ a4 run)
/-- list(a range) -/
abbrev upTo (i j : Int) : List Int := (List.range (j - i).toNat).map fun k : Nat => i + (k : Int)
abbrev rListRg : List V → Hp → VK → Prop := fun vs H Q => ∃ (r : Addr) (i j : Int), vs = [V.ref r] ∧ H r = some (.rng i j) ∧ (0 ≤ i ∧ i ≤ j ∧ j ≤ 1000) ∧ ∀ p, H p = none → Q (.ref p) (upd H p (.lst ((upTo i j).map V.int)))
theorem call_listRg (calm : X.calm = true) : CallR X (.type "list") rListRg := by
  intro pz z σ H vs us Q I r h
  obtain ⟨a, i, j, rfl, ha, hb, q⟩ := h
  obtain ⟨u, rfl, ru⟩ := r.one
  cases (show u = Value.ref a from ru)
  obtain ⟨t1, t2, t3, hr⟩ := I.hok a _ ha
  have hsz : Builtin.Range.rangeSize i j 1 = (((j - i).toNat : Nat) : Int) := by
    unfold Builtin.Range.rangeSize
    rw [if_pos (by decide)]
    split
    · rw [Int.ediv_one]; omega
    · omega
  have hsm : Builtin.Range.small i j 1 = true := by
    have fl : ∀ x : Int, 0 ≤ x ∧ x ≤ 1001 → Builtin.Range.rangeFitsLong x = true := fun x hx => by
      unfold Builtin.Range.rangeFitsLong
      rw [Bool.and_eq_true, decide_eq_true_eq, decide_eq_true_eq]
      omega
    unfold Builtin.Range.small
    rw [hsz, fl i (by omega), fl j (by omega), fl 1 (by omega), fl _ (by omega : 0 ≤ (((j - i).toNat : Nat) : Int) ∧ (((j - i).toNat : Nat) : Int) ≤ 1001), if_pos (by decide), fl _ (by omega : 0 ≤ j + (1 - 1) ∧ j + (1 - 1) ≤ 1001)]
    simp
  refine call_list_range (I.ok.hd calm) hr hsm hsz (by omega) fun h2 tk acc c2 hk ho hacc => ?_
  have hv : Vals ((upTo i j).map V.int) acc.toList := by
    have : ∀ (m : Nat) (l : List Value), l.length = m → (∀ (k : Nat) v, l[k]? = some v → ∃ t, v = .int (i + (k : Int) * 1) t) → Vals (((List.range m).map fun k : Nat => i + (k : Int)).map V.int) l := by
      intro m
      induction m with
      | zero =>
        intro l h1 _
        cases l with
        | nil => exact .nil
        | cons _ _ => cases h1
      | succ m ih =>
        intro l h1 h2
        obtain ⟨l0, v, rfl⟩ : ∃ l0 v, l = l0 ++ [v] := ⟨l.dropLast, l.getLast (by intro w; rw [w] at h1; cases h1), (List.dropLast_concat_getLast _).symm⟩
        have e0 : l0.length = m := by simpa using h1
        rw [List.range_succ, List.map_append, List.map_append]
        obtain ⟨t, rfl⟩ := h2 m v (by rw [List.getElem?_append_right (by omega), e0]; simp)
        rw [Int.mul_one]
        refine Vals.append (ih l0 e0 fun k v hv => h2 k v ?_) (.cons ⟨t, rfl⟩ .nil)
        rw [List.getElem?_append_left (List.getElem?_eq_some_iff.mp hv).1]
        exact hv
    have h0 : acc.size = (j - i).toNat := hacc.1
    exact this _ acc.toList (by simpa using h0) fun k v hv => hacc.2 k v (by simpa using hv)
  have hn : H z.heap.objs.size = none := I.hok.fresh (Nat.le_refl _)
  exact ⟨.ref z.heap.objs.size, _, I.laid (o := .lst ((upTo i j).map V.int)) (t' := tk) hk (Nat.le_refl _) (show ObjOk X.prog X.w _ _ _ (.lst _) from ⟨by rw [List.length_map, List.length_map, List.length_range]; exact sz_ok (by omega), acc.toList, c2, hv, by simpa using ho⟩), rfl, q _ hn⟩
end
/-! ### at the data level -/
abbrev rRg2 : List V → Hp → VK → Prop := fun vs H Q => ∃ i j, vs = [V.int i, V.int j] ∧ ∀ p, H p = none → Q (.ref p) (upd H p (.rng i j))
theorem asc_eq : ∀ {l m : List Int}, l.Pairwise (· < ·) → m.Pairwise (· < ·) → (∀ k, k ∈ l ↔ k ∈ m) → l = m
  | [], [], _, _, _ => rfl
  | [], b :: m, _, _, h => absurd ((h b).2 List.mem_cons_self) List.not_mem_nil
  | a :: l, [], _, _, h => absurd ((h a).1 List.mem_cons_self) List.not_mem_nil
  | a :: l, b :: m, h1, h2, h => by
    obtain ⟨a1, a2⟩ := List.pairwise_cons.mp h1
    obtain ⟨b1, b2⟩ := List.pairwise_cons.mp h2
    have e : a = b := by
      rcases List.mem_cons.mp ((h a).1 List.mem_cons_self) with q | q
      · exact q
      · rcases List.mem_cons.mp ((h b).2 List.mem_cons_self) with q2 | q2
        · exact q2.symm
        · have := b1 a q; have := a1 b q2; omega
    subst e
    rw [asc_eq a2 b2 fun k => ⟨fun q => ?_, fun q => ?_⟩]
    · rcases List.mem_cons.mp ((h k).1 (List.mem_cons_of_mem _ q)) with z | z
      · have := a1 k q; omega
      · exact z
    · rcases List.mem_cons.mp ((h k).2 (List.mem_cons_of_mem _ q)) with z | z
      · have := b1 k q; omega
      · exact z
section
variable {R : Hp → Hp → Prop} [Rl R] {K : PySem.W.Frag} {g : Gm} {H : Hp} {ta tb te : TE} {w : World} {wi : TI} {tg : TG} {tt : TT} {n : Nat} {item : Nat → D} {f : Nat → Gm → Gm} {vs : List Nat}
theorem yl_listRg {i j : Int} (ha : Yd Same K ta g H (.int i)) (hb : Yd Same K tb g H (.int j)) (h : 0 ≤ i ∧ i ≤ j ∧ j ≤ 1000) : Yl Same K (tCB rListRg (tCons (tCB rRg2 (tCons ta (tCons tb tNil))) tNil)) g H ((upTo i j).map D.int) := fun s H1 e ty Q q => by
  refine ha s H1 e ty _ fun v1 Ha ea r1 => hb s Ha (e.trans ea) (ty.mono ea) _ fun v2 Hb eb r2 => ?_
  cases r1
  cases r2
  refine ⟨i, j, rfl, fun p hp => ⟨p, i, j, rfl, upd_same, h, fun p2 hp2 => ?_⟩⟩
  have e3 : Same Hb (upd (upd Hb p (.rng i j)) p2 (.lst ((upTo i j).map V.int))) := (Same.new hp).trans (Same.new hp2)
  exact q p2 _ _ ((ea.trans eb).free ((Same.new hp).free hp2)) ((ea.trans eb).trans e3) upd_same (RpL.of_ints _)
/-- sorted({te for .. if tt}) -/
theorem yl_sortSet {ns : List Int} {b : Nat → Bool} {c : Nat → Int} (h : Yi Same K wi g H n item) (hn : n < 60) (ht : ∀ i, i < n → Tg K tg vs (item i) (f i)) (htt : ∀ i, i < n → ∀ H1, Same H H1 → Yt Same K tt (f i (wipeG g vs)) H1 (b i))
    (hte : ∀ i, i < n → ∀ H1, Same H H1 → Yd Same K te (f i (wipeG g vs)) H1 (.int (c i))) (hs : ns.Pairwise (· < ·)) (hm : ∀ k, k ∈ ns ↔ ∃ i, i < n ∧ b i = true ∧ c i = k) :
    Yl Same K (tCB (rSortedSet w) (tCons (tScI w wi tg tt te vs) tNil)) g H (ns.map D.int) := fun s H1 e1 ty Q q =>
  h s H1 e1 ty _ fun J H2 e2 it => fun Dd hD => by
    refine ⟨fun i m Hi => m = n - i ∧ i ≤ n ∧ (∃ S k, Hi Dd = some (SetO w Dd S k) ∧ k ≤ i ∧ ∀ z, S z = true ↔ ∃ j, j < i ∧ b j = true ∧ c j = z) ∧ Same H2 Hi, ⟨n, by simp, Nat.zero_le _, ⟨_, _, upd_same, Nat.le_refl _, fun z => Iff.intro (fun w => Bool.noConfusion w) (fun w => w.elim fun j y => absurd y.1 (Nat.not_lt_zero j))⟩, Same.new hD⟩, ?_⟩
    rintro i m Hi ⟨rfl, hi, ⟨S, k, hS, hk, hz⟩, e3⟩
    by_cases hlt : i < n
    · refine .inr ⟨it.go i Hi e3 hlt, fun H4 => i + 1 ≤ n ∧ (∃ S k, H4 Dd = some (SetO w Dd S k) ∧ k ≤ i + 1 ∧ ∀ z, S z = true ↔ ∃ j, j < i + 1 ∧ b j = true ∧ c j = z) ∧ Same H2 H4, fun H4 q4 => ⟨n - (i + 1), by omega, rfl, q4⟩, fun x Hx hy => ?_⟩
      obtain ⟨e4, rx⟩ := it.yld i Hi x Hx e3 hlt hy
      refine ht i hlt x (L2.wipe s vs) (wipeG g vs) Hx (fun s' H' => L2.wipe s' vs = L2.wipe s vs ∧ _) (((ty.mono (e2.trans (e3.trans e4))).wipe vs)) rx fun s2 ty2 hw => ⟨wipe_back hw, ?_⟩
      refine htt i hlt Hx (e1.trans (e2.trans (e3.trans e4))) s2 Hx (Same.refl _) ty2 _ fun H5 e5 => ?_
      cases hb : b i with
      | false =>
        rw [if_neg Bool.false_ne_true]
        refine ⟨hlt, ⟨S, k, e5 _ _ (e4 _ _ hS), by omega, fun z => ?_⟩, e3.trans (e4.trans e5)⟩
        rw [hz z]
        refine ⟨fun ⟨j, lt, q1, q2⟩ => ⟨j, by omega, q1, q2⟩, fun ⟨j, lt, q1, q2⟩ => ⟨j, ?_, q1, q2⟩⟩
        rcases Nat.lt_or_ge j i with l | l
        · exact l
        · have : j = i := by omega
          subst this
          rw [hb] at q1
          cases q1
      | true =>
        rw [if_pos rfl]
        refine hte i hlt H5 (e1.trans (e2.trans (e3.trans (e4.trans e5)))) s2 H5 (Same.refl _) (ty2.mono e5) _ fun v H6 e6 rv => ?_
        cases rv
        refine ⟨c i, S, k, rfl, e6 _ _ (e5 _ _ (e4 _ _ hS)), Nat.lt_of_lt_of_le (by omega : k + 1 < 100) (by decide), hlt, ⟨_, _, upd_same, by split <;> omega, fun z => ?_⟩, same_mut (e3.trans (e4.trans (e5.trans e6))) hD⟩
        show (S z || decide (z = c i)) = true ↔ _
        rw [Bool.or_eq_true, hz z, decide_eq_true_eq]
        constructor
        · rintro (⟨j, lt, q1, q2⟩ | rfl)
          · exact ⟨j, by omega, q1, q2⟩
          · exact ⟨i, by omega, hb, rfl⟩
        · rintro ⟨j, lt, q1, q2⟩
          rcases Nat.lt_or_ge j i with l | l
          · exact .inl ⟨j, l, q1, q2⟩
          · have : j = i := by omega
            subst this
            exact .inr q2.symm
    · have : i = n := by omega
      subst this
      refine .inl ⟨it.stop Hi e3, ⟨Dd, S, k, rfl, hS, by omega, fun ms p hp hms hme hp2 => ?_⟩⟩
      have : ms = ns := asc_eq hp hs fun z => by rw [hms z, hz z, hm z]
      subst this
      have e4 := e3.trans (Same.new (o := HO.lst (ms.map V.int)) hp2)
      exact q p _ _ ((e2.trans e3).free hp2) (e2.trans e4) upd_same (RpL.of_ints _)
end
end K19
set_option maxHeartbeats 4000000
/-! Lists that change, fields, methods, tuples side by side. -/
namespace K19
open PySem PySem.Spec PyProof.Rows L2

/-- all but the one at a goes on -/
def Mu (a : Addr) (H H' : Hp) : Prop := ∀ x o, x ≠ a → H x = some o → H' x = some o
theorem Mu.refl {a : Addr} {H : Hp} : Mu a H H := fun _ _ _ h => h
theorem Mu.trans {a : Addr} {H H' H'' : Hp} (x : Mu a H H') (y : Mu a H' H'') : Mu a H H'' := fun b o n h => y b o n (x b o n h)
theorem Mu.of {a : Addr} {H H' : Hp} (x : Same H H') : Mu a H H' := fun b o _ h => x b o h
theorem Mu.upd {a : Addr} {H : Hp} {o : HO} : Mu a H (upd H a o) := fun b u n h => by
  rw [upd_ne n]
  exact h
theorem Mu.same {a : Addr} {H0 H H' : Hp} (x : Mu a H H') (e : Same H0 H) (h : H0 a = none) : Same H0 H' := fun b o q => x b o (fun z => by rw [z, h] at q; cases q) (e b o q)
section
variable {R : Hp → Hp → Prop} [Rl R] {K : PySem.W.Frag} {g : Gm} {H H' : Hp} {d x y : D} {ta tb te to ti : TE} {ds es : List D} {E : En} {a : Addr} {vs : List V}
/-- a new list -/
theorem sd_asgN {i : Nat} (h : Yl Same K te g H ds) (q : ∀ p us H', H p = none → Same H H' → H' p = some (.lst us) → RpL K H' us ds → E.nx (g.set i (some (.ref p))) H') : Sd K (tAsg te (gName i)) g H E := sd_asgL h q
/-- xs[i] = e -/
theorem sd_setL {k : Int} {j : Nat} (h : Yd Same K te g H d) (hf : Yd Same K to g H (.ref a)) (hi : Yd Same K ti g H (.int k)) (hl : H a = some (.lst vs)) (hv : RpL K H vs ds) (hk : ixN ds.length k = some j)
    (q : ∀ H' us, Mu a H H' → H' a = some (.lst us) → RpL K H' us (ds.set j d) → E.nx g H') : Sd K (tAsg te (gSub to ti rSetL)) g H E := fun s Z ty fz =>
  h s H (Same.refl _) ty _ fun v H1 e1 rv => hf s H1 e1 (ty.mono e1) _ fun o H2 e2 ro => hi s H2 (e1.trans e2) (ty.mono (e1.trans e2)) _ fun iv H3 e3 ri => by
    cases ro
    cases ri
    have e := e1.trans (e2.trans e3)
    have hl3 := e _ _ hl
    have m : Kp H3 (upd H3 a (.lst (vs.set j v))) := Kp.upd hl3
    refine ⟨a, vs, k, j, rfl, rfl, hl3, by rw [hv.length]; exact hk, ?_⟩
    exact fz.nx _ _ _ ((ty.mono e).mono m) (q _ _ ((Mu.of e).trans Mu.upd) upd_same (((hv.mono e).set j (rv.mono (e2.trans e3))).mono m))
/-- xs.append(e) -/
theorem sd_app (h : Yd Same K te g H d) (hf : Yd Same K to g H (.ref a)) (hl : H a = some (.lst vs)) (hv : RpL K H vs ds) (hz : ds.length < 100000)
    (q : ∀ H' us, Mu a H H' → H' a = some (.lst us) → RpL K H' us (ds ++ [d]) → E.nx g H') : Sd K (tDrop (tBM K "list" rAppend to (tCons te tNil))) g H E := fun s Z ty fz =>
  hf s H (Same.refl _) ty _ fun o H1 e1 ro => by
    cases ro
    refine ⟨.inl ⟨rfl, _, SqL.of (e1 _ _ hl)⟩, h s H1 e1 (ty.mono e1) _ fun v H2 e2 rv => ?_⟩
    have e := e1.trans e2
    have hl3 := e _ _ hl
    have m : Kp H2 (upd H2 a (.lst (vs ++ [v]))) := Kp.upd hl3
    refine ⟨a, vs, v, rfl, rfl, hl3, Nat.lt_of_lt_of_le (by rw [hv.length]; exact hz) (by decide), ?_⟩
    exact fz.nx _ _ _ ((ty.mono e).mono m) (q _ _ ((Mu.of e).trans Mu.upd) upd_same (((hv.mono e).append (.cons rv .nil)).mono m))
/-- a new list, n times -/
theorem yl_rep {n : Int} (h : Yl Same K ta g H [d]) (hi : Yd Same K tb g H (.int n)) (hn : 0 ≤ n ∧ n ≤ 100000) : Yl Same K (tOp rRep ta tb) g H (List.replicate n.toNat d) := fun s H1 e1 ty Q q =>
  h s H1 e1 ty _ fun p us H2 hp e2 hl hv => hi s H2 (e1.trans e2) (ty.mono e2) _ fun v H3 e3 rv => by
    cases rv
    have hv' := hv
    cases hv with
    | cons r1 l =>
      rename_i u us
      cases l
      refine ⟨p, n, _, rfl, rfl, e3 _ _ hl, by omega, by omega, ?_, fun p2 hp2 => ?_⟩
      · show 1 * n.toNat ≤ sizeLine
        rw [Nat.one_mul]
        exact sz_ok (by omega)
      · have e : Same H3 (upd H3 p2 (.lst (List.replicate n.toNat [u]).flatten)) := Same.new hp2
        refine q p2 _ _ ((e2.trans e3).free hp2) ((e2.trans e3).trans e) upd_same ?_
        have fl : ∀ m : Nat, (List.replicate m [u]).flatten = List.replicate m u := by
          intro m
          induction m with
          | zero => rfl
          | succ m ih => rw [List.replicate_succ, List.flatten_cons, ih]; rfl
        have rp : ∀ m : Nat, RpL K H3 (List.replicate m u) (List.replicate m d) := by
          intro m
          induction m with
          | zero => exact .nil
          | succ m ih => exact .cons (r1.mono e3) ih
        have z := (rp n.toNat).mono e
        rw [fl] at z ⊢
        exact z
/-- t + u of tuples -/
theorem yd_cat (ha : Yd R K ta g H (.tup ds)) (hb : Yd R K tb g H (.tup es)) (hz : ds.length + es.length ≤ 100000 := by first | exact Nat.le_of_ble_eq_true rfl | assumption) : Yd R K (tOp (rCatA K) ta tb) g H (.tup (ds ++ es)) :=
  yd_op ha hb fun vx vy H1 e rx ry Q q => by
    cases rx with
    | tup hs l =>
      rename_i a us
      cases ry with
      | tup ht l2 =>
        rename_i b ws
        refine ⟨a, b, us, ws, rfl, rfl, hs, ht, by rw [l.length, l2.length]; exact sz_ok hz, fun z => ?_, fun n z => ?_, fun n n2 p hp => ?_⟩
        · subst z
          cases l
          exact q _ H1 (Rl.self e) (.tup ht l2)
        · subst z
          cases l2
          rw [List.append_nil] at q
          exact q _ H1 (Rl.self e) (.tup hs l)
        · have e2 : R H1 (L2.upd H1 p (.tup (us ++ ws))) := Rl.same (Rl.self e) (Same.new hp)
          exact q _ _ e2 (.tup (SqT.of upd_same) ((l.append l2).mono e2))
/-- a field of an Arms -/
theorem yd_bars {b : D} {n : Int} (c : Cls K (He.ga K "Arms")) (na : NoAttr K (He.ga K "Arms") "bars") (h : Yd R K te g H (.arms b n)) : Yd R K (tFld K te "bars") g H b := fun s H1 e ty Q q =>
  h s H1 e ty _ fun v H2 e2 rv => by
    cases rv with
    | arms hs l => exact ⟨_, _, _, _, _, rfl, hs, c, na, rfl, q _ H2 e2 l⟩
theorem yd_letters {b : D} {n : Int} (c : Cls K (He.ga K "Arms")) (na : NoAttr K (He.ga K "Arms") "letters") (h : Yd R K te g H (.arms b n)) : Yd R K (tFld K te "letters") g H (.int n) := fun s H1 e ty Q q =>
  h s H1 e ty _ fun v H2 e2 rv => by
    cases rv with
    | arms hs l => exact ⟨_, _, _, _, _, rfl, hs, c, na, rfl, q _ H2 e2 .int⟩
/-- a method of it -/
theorem yd_meth {b : D} {n : Int} {m : Str} {rel : Hp → List D → D → Prop} {W : XK} {ta : TA} (h : Yd R K te g H (.arms b n)) (ha : Ya R K ta g H ds) (hr : ∀ H1, R H H1 → rel H1 (.arms b n :: ds) d) (hm : (m == ("bars" : Str)) = false ∧ (m == ("letters" : Str)) = false := by decide) :
    Yd R K (tMeth (He.ga K "Arms") m (spP K rel) [] W te ta) g H d := fun s H1 e ty Q q =>
  h s H1 e ty _ fun v H2 e2 rv => by
    have rv' := rv
    cases rv with
    | arms hs l =>
      refine ⟨_, _, _, rfl, hs, ?_, ha s H2 (Rl.trans e e2) (ty.mono e2) _ fun vs H3 e3 rs => ⟨_, d, .cons (rv'.mono e3) (by rw [List.append_nil]; exact rs), hr H3 (Rl.trans e (Rl.trans e2 e3)), fun v H4 e4 r4 => q v H4 (Rl.trans e2 (Rl.trans e3 (Rl.same (Rl.self e3) e4))) r4⟩⟩
      simp only [List.lookup, hm.1, hm.2]
theorem yd_methE {b : D} {n : Int} {m : Str} {rel : Hp → List D → D → Prop} {bad : Hp → List D → Prop} {C : Addr} {W : XK} {ta : TA} (h : Yd R K te g H (.arms b n)) (ha : Ya R K ta g H ds) (hr : ∀ H1, R H H1 → rel H1 (.arms b n :: ds) d) (hm : (m == ("bars" : Str)) = false ∧ (m == ("letters" : Str)) = false := by decide) :
    Yd R K (tMeth (He.ga K "Arms") m (spE K rel bad C) [] W te ta) g H d := fun s H1 e ty Q q =>
  h s H1 e ty _ fun v H2 e2 rv => by
    have rv' := rv
    cases rv with
    | arms hs l =>
      refine ⟨_, _, _, rfl, hs, ?_, ha s H2 (Rl.trans e e2) (ty.mono e2) _ fun vs H3 e3 rs => ⟨_, .cons (rv'.mono e3) (by rw [List.append_nil]; exact rs), .inl ⟨d, hr H3 (Rl.trans e (Rl.trans e2 e3)), fun v H4 e4 r4 => q v H4 (Rl.trans e2 (Rl.trans e3 (Rl.same (Rl.self e3) e4))) r4⟩⟩⟩
      simp only [List.lookup, hm.1, hm.2]
theorem yx_methE {b : D} {n : Int} {m : Str} {rel : Hp → List D → D → Prop} {bad : Hp → List D → Prop} {C : Addr} {W : XK} {ta : TA} (h : Yd R K te g H (.arms b n)) (ha : Ya R K ta g H ds) (hr : ∀ H1, R H H1 → bad H1 (.arms b n :: ds)) (hW : ∀ dd H1, R H H1 → W (.ref C) dd H1) (hm : (m == ("bars" : Str)) = false ∧ (m == ("letters" : Str)) = false := by decide) :
    Yx R K (tMeth (He.ga K "Arms") m (spE K rel bad C) [] W te ta) g H := fun s H1 e ty Q =>
  h s H1 e ty _ fun v H2 e2 rv => by
    have rv' := rv
    cases rv with
    | arms hs l =>
      refine ⟨_, _, _, rfl, hs, ?_, ha s H2 (Rl.trans e e2) (ty.mono e2) _ fun vs H3 e3 rs => ⟨_, .cons (rv'.mono e3) (by rw [List.append_nil]; exact rs), .inr ⟨hr H3 (Rl.trans e (Rl.trans e2 e3)), fun dd H4 e4 => hW dd H4 (Rl.trans e (Rl.trans e2 (Rl.trans e3 (Rl.same (Rl.self e3) e4))))⟩⟩⟩
      simp only [List.lookup, hm.1, hm.2]
end
/-! while one list changes -/
def MuL (a : Addr) (H H' : Hp) : Prop := Mu a H H' ∧ (∃ l, H a = some (.lst l)) ∧ ∃ l, H' a = some (.lst l)
instance MuL.rl {a : Addr} : Rl (MuL a) where
  self := fun x => ⟨Mu.refl, x.2.2, x.2.2⟩
  trans := fun x y => ⟨x.1.trans y.1, x.2.1, y.2.2⟩
  same := fun x e => ⟨Mu.of e, x.2.1, x.2.1.elim fun l h => ⟨l, e _ _ h⟩⟩
  keep := fun x e s => x.1 _ _ (fun z => by obtain ⟨l, h⟩ := x.2.1; rw [z, h] at e; cases e; cases s) e
theorem MuL.refl {a : Addr} {H : Hp} {l : List V} (h : H a = some (.lst l)) : MuL a H H := ⟨Mu.refl, ⟨l, h⟩, ⟨l, h⟩⟩
/-! a new list handed out -/
def spL (K : PySem.W.Frag) (rel : Hp → List D → List D → Prop) : Sp := fun vs H Q _ => ∃ ds es, RpL K H vs ds ∧ rel H ds es ∧ ∀ p us H', H p = none → Same H H' → H' p = some (.lst us) → RpL K H' us es → Q (.ref p) H'
section
variable {K : PySem.W.Frag} {g : Gm} {H : Hp} {ta : TA} {ds es : List D} {W : XK} {rel : Hp → List D → List D → Prop}
theorem yl_callL (h : Ya Same K ta g H ds) (hr : ∀ H1, Same H H1 → rel H1 ds es) : Yl Same K (tCall (spL K rel) [] W ta) g H es := fun s H1 e t Q q =>
  h s H1 e t _ fun vs H2 e2 rs => ⟨ds, es, by rw [List.append_nil]; exact rs, hr H2 (e.trans e2), fun p us H3 hp e3 hl hv => q p us H3 (e2.free hp) (e2.trans e3) hl hv⟩
end
/-! a list or a tuple, by place -/
abbrev rIxS (K : PySem.W.Frag) : R2 := fun x y H Q => rIxL K x y H Q ∨ rIxT K x y H Q
theorem ix_seq {X : Cx} : IxR X (rIxS X.K) := by
  intro e1 e2 pins s σ H x y v u Q I rx ry h
  rcases h with h | h
  · exact ix_list e1 e2 pins s σ H x y v u Q I rx ry h
  · exact ix_tup e1 e2 pins s σ H x y v u Q I rx ry h
section
variable {R : Hp → Hp → Prop} [Rl R] {K : PySem.W.Frag} {g : Gm} {H : Hp} {d : D} {ta tb : TE} {ds : List D}
theorem yd_ixST {i : Int} (ha : Yd R K ta g H (.tup ds)) (hb : Yd R K tb g H (.int i)) (h : atI ds i = some d) : Yd R K (tOp (rIxS K) ta tb) g H d := fun s H1 e t Q q =>
  ha s H1 e t _ fun v H2 e2 rv => hb s H2 (Rl.trans e e2) (t.mono e2) _ fun u H3 e3 ru => .inr (by
    cases ru
    have rv := rv.mono e3
    cases rv with
    | tup hs l =>
      rename_i a vs
      unfold atI at h
      cases hk : ixN ds.length i with
      | none => rw [hk] at h; cases h
      | some k =>
        rw [hk] at h
        obtain ⟨v, hv, rv⟩ := l.get (i := k) h
        refine ⟨a, vs, i, v, rfl, rfl, hs, ?_, q v H3 (Rl.trans e2 e3) rv⟩
        unfold atI
        rw [l.length, hk]
        exact hv)
theorem yd_ixSL {a : Addr} {vs : List V} {i : Int} (ha : Yd R K ta g H (.ref a)) (hb : Yd R K tb g H (.int i)) (hl : ∀ H1, R H H1 → H1 a = some (.lst vs) ∧ RpL K H1 vs ds) (h : atI ds i = some d) : Yd R K (tOp (rIxS K) ta tb) g H d := fun s H1 e t Q q =>
  ha s H1 e t _ fun v H2 e2 rv => hb s H2 (Rl.trans e e2) (t.mono e2) _ fun u H3 e3 ru => .inl (by
    cases ru
    cases rv
    obtain ⟨h1, l⟩ := hl H3 (Rl.trans e (Rl.trans e2 e3))
    unfold atI at h
    cases hk : ixN ds.length i with
    | none => rw [hk] at h; cases h
    | some k =>
      rw [hk] at h
      obtain ⟨v, hv, rv⟩ := l.get (i := k) h
      refine ⟨a, vs, i, v, rfl, rfl, SqL.of h1, ?_, q v H3 (Rl.trans e2 e3) rv⟩
      unfold atI
      rw [l.length, hk]
      exact hv)
end
end K19
set_option maxHeartbeats 4000000
/-! len of an instance whose class has a def for it. -/
namespace K19
open PySem PySem.Spec PyProof.Rows L2
abbrev rLenI (C : Addr) (sp : Sp) (E : XK) : List V → Hp → VK → Prop := fun xs H Q => ∃ a dx fs, xs = [V.ref a] ∧ H a = some (.ins C dx fs) ∧ sp [.ref a] H (fun z H' => ∃ n : Nat, z = .int n ∧ n < 1000000 ∧ Q z H') E
section
variable {X : Cx} {CX : CXT} {C f : Addr} {fd : FuncData} {ps : List Str} {k : Nat} {sp : Sp} {E : XK}
theorem call_lenI (M : Meth X.K C "__len__" f) (F : FnOk X.prog X.w X.K X.mg X.base CX k f fd ps sp) (hr : Room (k + 1) X.A) (hb : Binds X.K fd ps []) (hx : Passes CX X E) : CallR X (.builtin "len") (rLenI C sp E) := by
  intro pins s σ H xs us Q I r h
  obtain ⟨a, dx, fs, rfl, ha, q⟩ := h
  obtain ⟨u, rfl, ru⟩ := r.one
  cases (show u = Value.ref a from ru)
  obtain ⟨mA, O, _⟩ := ins_get I.hok ha
  obtain ⟨od, J, _⟩ := O.look
  obtain ⟨m, hF⟩ := I.fr
  refine PySem.W.len_K hF I.ok.mod.kin J M.at_ M.fn ?_
  have hl := F.len _ _ _ _ q
  have r2 : Vals [V.ref a] [Value.ref a] := .cons rfl .nil
  refine wpAny_call (codeAny_mono (F.run X.A.in1 X.stack s H ⟨[.ref a], []⟩ [.ref a] [.ref a] _ E hr.in1 I.env0.in1 (by
    have := hb s [.ref a] I.kIn (by simpa using hl)
    simpa using this) r2 q) fun r s' hq => ?_)
  cases r with
  | error e => exact hx pins σ H s e s' I hq
  | ok fl =>
    cases fl with
    | ret w =>
      obtain ⟨v, H', I', rv, n, rfl, hn, qz⟩ := I.after hq
      obtain ⟨t, rfl⟩ := (show ∃ t, w = Value.int (n : Int) t from rv)
      exact ⟨⟨by omega, by omega⟩, .int n, H', I'.tok _, ⟨_, rfl⟩, qz⟩
    | next => exact False.elim hq
    | brk => exact False.elim hq
    | cont => exact False.elim hq
end
section
variable {R : Hp → Hp → Prop} [Rl R] {K : PySem.W.Frag} {g : Gm} {H H' : Hp} {te : TE} {rel : Hp → List D → D → Prop} {W : XK}
theorem yd_lenA {b : D} {n : Int} {m : Nat} (h : Yd R K te g H (.arms b n)) (hr : ∀ H1, R H H1 → rel H1 [.arms b n] (.int m)) (hm : m < 1000000) : Yd R K (tCB (rLenI (He.ga K "Arms") (spP K rel) W) (tCons te tNil)) g H (.int m) :=
  yd_cb (ya_cons h ya_nil) fun vs H1 e rs Q q => by
    cases rs with
    | cons r1 l =>
      cases l
      have r1' := r1
      cases r1 with
      | arms hs l =>
        refine ⟨_, _, _, rfl, hs, [.arms b n], .int m, .cons r1' .nil, hr H1 e, fun v H2 e2 rv => ?_⟩
        cases rv
        exact ⟨m, rfl, hm, q _ H2 (Rl.same (Rl.self e) e2) .int⟩
end
end K19
set_option maxHeartbeats 4000000
set_option exponentiation.threshold 20000
namespace K19
open PySem PySem.Spec PyProof.Rows L2
variable {P : Program} {w : World} {K : PySem.W.Frag} {mg : Str → Option Value} {base : Heap}
/-! ### is_whole -/
theorem sc_is_whole : FnScope ["thing", "low", "high"] ["thing", "low", "high"] (defScope s_is_whole) := ⟨rfl, rfl, rfl, by decide +kernel, rfl, by decide +kernel, by decide +kernel⟩
def hiOk (i : Int) : D → Bool
  | .int h => !decide (h < i)
  | _ => true
def loOk (i : Int) : D → Bool
  | .int l => !decide (i < l)
  | _ => true
def isWhole (x lo hi : D) : Bool := match x with
  | .int i => loOk i lo && hiOk i hi
  | _ => false
def IntN (x : D) : Prop := x = .non ∨ ∃ i, x = .int i
def r_whole : Hp → List D → D → Prop := fun _ ds d => ∃ x lo hi, ds = [x, lo, hi] ∧ x.cls.isSome = true ∧ IntN lo ∧ IntN hi ∧ d = .bl (isWhole x lo hi)
theorem fn_whole (T : TX K mg) : ∃ fd, FunD K "is_whole" "is_whole" (defArgs s_is_whole) (defBody s_is_whole) (defScope s_is_whole) [.non, .non] [] (He.ga K "is_whole") fd ∧ FnOk P w K mg base CX0 1 (He.ga K "is_whole") fd ["thing", "low", "high"] (spP K r_whole) := by
  obtain ⟨fd, F⟩ := f_is_whole T
  refine ⟨fd, F, fn_pure F sc_is_whole (fun H ds d ⟨_, _, _, e, _⟩ => by rw [e]; rfl) fun cdv A outer s H E hr => ⟨_, (pss_cons (ps_if (PW.pt (pw_or (pt_not (pt_val (pe_callB call_isi rfl (n_isinstance T) bo_isinstance (pa_cons (pv 0) (pa_cons (pe_ty (n_int T) bo_int) pa_nil))))) (pw_or1 (pt_val (pe_callB call_isi rfl (n_isinstance T) bo_isinstance (pa_cons (pv 0) (pa_cons (pe_ty (n_bool T) bo_bool) pa_nil))))))) (pss_one (ps_ret pe_bl)) pss_nil)
      (pss_cons (ps_if (PW.pt (pw_and (pt_cmpR op_notN (pv 1) pe_non (nomark _)) (pw_and1 (pt_cmpR op_lt (pv 0) (pv 1) (nomark _))))) (pss_one (ps_ret pe_bl)) pss_nil)
      (pss_cons (ps_if (PW.pt (pw_and (pt_cmpR op_notN (pv 2) pe_non (nomark _)) (pw_and1 (pt_cmpR op_gt (pv 0) (pv 2) (nomark _))))) (pss_one (ps_ret pe_bl)) pss_nil)
      (pss_one (ps_ret pe_bl))))), ?_⟩⟩
  rintro H ds d ⟨x, lo, hi, rfl, hx, hlo, hhi, rfl⟩
  have e0 : Same H H := Same.refl H
  refine sd_seq (sd_if (R := Same) e0 (yt_or (yt_not (yt_B (yd_isInt (yd_var rfl) hx))) fun _ => yt_B (yd_isBool (yd_var rfl) hx)) (fun q _ e1 => sd_ret (R := Same) (Same.refl _) yd_bl fun _ e2 => ⟨?_, e1.trans e2⟩) fun q H1 e1 => sd_next ?_)
  · cases x <;> first | rfl | cases q
  obtain ⟨i, rfl⟩ : ∃ i, x = .int i := by
    cases x <;> first | exact ⟨_, rfl⟩ | cases q
  refine sd_seq ?_
  have step : ∀ H2 : Hp, Same H H2 → ∀ c : Bool, isWhole (.int i) lo hi = (c && hiOk i hi) → c = true →
      Sd K (tSeq (tIfS (tAnd (tTest (tOp rNotN (tVar 2) (tC .non))) (tTest (tOp (rI0 fun i j => .bl (decide (j < i))) (tVar 0) (tVar 2)))) (tRet (tC (.bl false))) tNext) (tRet (tC (.bl true)))) [some (.int i), some lo, some hi] H2 (enP (.bl (isWhole (.int i) lo hi)) H) := by
    intro H2 e2 c hc ct
    rw [hc, ct]
    rcases hhi with rfl | ⟨h, rfl⟩
    · refine sd_seq (sd_ifF (R := Same) (Same.refl _) (yt_and0 (yt_test (yd_notN (yd_var rfl)))) fun H3 e3 => sd_next ?_)
      exact sd_ret (R := Same) (Same.refl _) yd_bl fun _ e4 => ⟨rfl, e2.trans (e3.trans e4)⟩
    · refine sd_seq (sd_if (R := Same) (Same.refl _) (yt_and (yt_test (yd_notN (yd_var rfl))) fun z => yt_test (yd_cmp (yd_var rfl) (yd_var rfl))) (fun z H3 e3 => sd_ret (R := Same) (Same.refl _) yd_bl fun _ e4 => ⟨?_, e2.trans (e3.trans e4)⟩) fun z H3 e3 => sd_next ?_)
      · have z' : decide (h < i) = true := z
        simp [hiOk, z']
      · refine sd_ret (R := Same) (Same.refl _) yd_bl fun _ e4 => ⟨?_, e2.trans (e3.trans e4)⟩
        have z' : decide (h < i) = false := z
        simp [hiOk, z']
  rcases hlo with rfl | ⟨l, rfl⟩
  · refine sd_ifF (R := Same) (Same.refl _) (yt_and0 (yt_test (yd_notN (yd_var rfl)))) fun H3 e3 => sd_next ?_
    exact step H3 (e1.trans e3) true rfl rfl
  · refine sd_if (R := Same) (Same.refl _) (yt_and (yt_test (yd_notN (yd_var rfl))) fun z => yt_test (yd_cmp (yd_var rfl) (yd_var rfl))) (fun z H3 e3 => sd_ret (R := Same) (Same.refl _) yd_bl fun _ e4 => ⟨?_, e1.trans (e3.trans e4)⟩) fun z H3 e3 => sd_next ?_
    · have z' : decide (i < l) = true := z
      simp [isWhole, loOk, z']
    · have z' : decide (i < l) = false := z
      exact step H3 (e1.trans e3) (!decide (i < l)) rfl (by simp [z'])
/-- is_whole as it is called: some of the ends -/
theorem whole1 (T : TX K mg) : ∃ fd ds, FnOk P w K mg base CX0 1 (He.ga K "is_whole") fd ["thing", "low", "high"] (spP K r_whole) ∧ Vals [V.non, .non] ds ∧ Binds K fd ["thing", "low", "high"] ds ∧ PySem.W.keepIn K (.ref (He.ga K "is_whole")) = true := by
  obtain ⟨fd, F, G⟩ := fn_whole (P := P) (w := w) (base := base) T
  obtain ⟨ds, hv, hb⟩ := F.binds1 (ps := ["thing", "low", "high"]) 1 0 (by simp) rfl fun T kV doc pm an cdv ct us its h1 h2 => match us, h1, its, h2 with | [_], _, [_, _], _ => ⟨_, rfl, rfl⟩
  exact ⟨fd, ds, G, hv, hb, F.kp⟩
theorem whole2 (T : TX K mg) : ∃ fd ds, FnOk P w K mg base CX0 1 (He.ga K "is_whole") fd ["thing", "low", "high"] (spP K r_whole) ∧ Vals [V.non] ds ∧ Binds K fd ["thing", "low", "high"] ds ∧ PySem.W.keepIn K (.ref (He.ga K "is_whole")) = true := by
  obtain ⟨fd, F, G⟩ := fn_whole (P := P) (w := w) (base := base) T
  obtain ⟨ds, hv, hb⟩ := F.binds1 (ps := ["thing", "low", "high"]) 2 1 (by simp) rfl fun T kV doc pm an cdv ct us its h1 h2 => match us, h1, its, h2 with | [_, _], _, [_, _], _ => ⟨_, rfl, rfl⟩
  exact ⟨fd, ds, G, hv, hb, F.kp⟩
theorem whole3 (T : TX K mg) : ∃ fd ds, FnOk P w K mg base CX0 1 (He.ga K "is_whole") fd ["thing", "low", "high"] (spP K r_whole) ∧ Vals ([] : List V) ds ∧ Binds K fd ["thing", "low", "high"] ds ∧ PySem.W.keepIn K (.ref (He.ga K "is_whole")) = true := by
  obtain ⟨fd, F, G⟩ := fn_whole (P := P) (w := w) (base := base) T
  obtain ⟨ds, hv, hb⟩ := F.binds1 (ps := ["thing", "low", "high"]) 3 2 (by simp) rfl fun T kV doc pm an cdv ct us its h1 h2 => match us, h1, its, h2 with | [_, _, _], _, [_, _], _ => ⟨_, rfl, rfl⟩
  exact ⟨fd, ds, G, hv, hb, F.kp⟩
section
variable {X : Cx} {p pos : Pos} {e : Expr} {es : List Expr} {t : TA} {E : XK}
theorem pe_whole1 (T : TX X.K X.mg) (hr : Room 1 X.A) (hg : Gl X "is_whole") (ha : PA X (e :: es) t) (he : starEach (e :: es) X.env = (false, eval e X.env) :: starEach es X.env := by rfl) (hpl : (backTo pos (starEach es X.env)).any (·.1) = false := by rfl) :
    PE X (.Call (.Name "is_whole" p) (e :: es) [] pos) (tCall (spP X.K r_whole) [.non, .non] E0 t) := by
  obtain ⟨fd, ds, G, hv, hb, hk⟩ := whole1 (P := X.prog) (w := X.w) (base := X.base) T
  exact pe_call G hr hg (g_is_whole T) hk hb hv pass0 ha (by decide) he hpl
theorem pe_whole2 (T : TX X.K X.mg) (hr : Room 1 X.A) (hg : Gl X "is_whole") (ha : PA X (e :: es) t) (he : starEach (e :: es) X.env = (false, eval e X.env) :: starEach es X.env := by rfl) (hpl : (backTo pos (starEach es X.env)).any (·.1) = false := by rfl) :
    PE X (.Call (.Name "is_whole" p) (e :: es) [] pos) (tCall (spP X.K r_whole) [.non] E0 t) := by
  obtain ⟨fd, ds, G, hv, hb, hk⟩ := whole2 (P := X.prog) (w := X.w) (base := X.base) T
  exact pe_call G hr hg (g_is_whole T) hk hb hv pass0 ha (by decide) he hpl
theorem pe_whole3 (T : TX X.K X.mg) (hr : Room 1 X.A) (hg : Gl X "is_whole") (ha : PA X (e :: es) t) (he : starEach (e :: es) X.env = (false, eval e X.env) :: starEach es X.env := by rfl) (hpl : (backTo pos (starEach es X.env)).any (·.1) = false := by rfl) :
    PE X (.Call (.Name "is_whole" p) (e :: es) [] pos) (tCall (spP X.K r_whole) [] E0 t) := by
  obtain ⟨fd, ds, G, hv, hb, hk⟩ := whole3 (P := X.prog) (w := X.w) (base := X.base) T
  exact pe_call G hr hg (g_is_whole T) hk hb hv pass0 ha (by decide) he hpl
end
section
variable {R : Hp → Hp → Prop} [Rl R] {g : Gm} {H : Hp} {x lo hi : D} {ta tb tc : TE} {W : XK}
theorem yd_whole1 (h : Yd R K ta g H x) (hx : x.cls.isSome = true := by rfl) : Yd R K (tCall (spP K r_whole) [.non, .non] W (tCons ta tNil)) g H (.bl (isWhole x .non .non)) :=
  yd_callD (es := [.non, .non]) (ya_cons h ya_nil) (fun _ => .cons .non (.cons .non .nil)) fun _ _ => ⟨x, .non, .non, rfl, hx, .inl rfl, .inl rfl, rfl⟩
theorem yd_whole2 {l : Int} (h : Yd R K ta g H x) (h2 : Yd R K tb g H (.int l)) (hx : x.cls.isSome = true := by rfl) : Yd R K (tCall (spP K r_whole) [.non] W (tCons ta (tCons tb tNil))) g H (.bl (isWhole x (.int l) .non)) :=
  yd_callD (es := [.non]) (ya_cons h (ya_cons h2 ya_nil)) (fun _ => .cons .non .nil) fun _ _ => ⟨x, .int l, .non, rfl, hx, .inr ⟨l, rfl⟩, .inl rfl, rfl⟩
theorem yd_whole3 {l u : Int} (h : Yd R K ta g H x) (h2 : Yd R K tb g H (.int l)) (h3 : Yd R K tc g H (.int u)) (hx : x.cls.isSome = true := by rfl) : Yd R K (tCall (spP K r_whole) [] W (tCons ta (tCons tb (tCons tc tNil)))) g H (.bl (isWhole x (.int l) (.int u))) :=
  yd_callD (es := []) (ya_cons h (ya_cons h2 (ya_cons h3 ya_nil))) (fun _ => .nil) fun _ _ => ⟨x, .int l, .int u, rfl, hx, .inr ⟨l, rfl⟩, .inr ⟨u, rfl⟩, rfl⟩
end
/-! ### is_ratio -/
theorem sc_is_ratio : FnScope ["thing", "top", "bottom"] ["thing"] (defScope s_is_ratio) := ⟨rfl, rfl, rfl, by decide +kernel, rfl, by decide +kernel, by decide +kernel⟩
theorem bd_is_ratio : Bnd "is_ratio" "is_ratio" s_is_ratio ["thing"] := fun _ _ _ _ _ _ us hl => match us, hl with | [_], _ => rfl
def gcd1 (x y : D) : Bool := match x, y with
  | .int t, .int b => decide (((Nat.gcd t.natAbs b.natAbs : Nat) : Int) = 1)
  | _, _ => false
theorem whole_int {x lo hi : D} (h : isWhole x lo hi = true) : ∃ i, x = .int i := by
  cases x <;> first | exact ⟨_, rfl⟩ | cases h
def isRatio (x : D) : Bool := match x with
  | .tup [t, b] => isWhole t .non .non && (isWhole b (.int 1) .non && gcd1 t b)
  | _ => false
/-- an item that may be asked about -/
def D.good : D → Bool
  | .tup l => l.all fun d => d.cls.isSome
  | d => d.cls.isSome
def r_is_ratio : Hp → List D → D → Prop := fun H ds d => ∃ x, ds = [x] ∧ ((x.good = true ∧ d = .bl (isRatio x)) ∨ ∃ a vs, x = .ref a ∧ H a = some (.lst vs) ∧ d = .bl false)
theorem ok_is_ratio (T : TX K mg) : Cal P w K mg base CX0 2 "is_ratio" ["thing"] (spP K r_is_ratio) := by
  refine cal_pure (f_is_ratio T) (g_is_ratio T) sc_is_ratio bd_is_ratio (fun H ds d ⟨_, e, _⟩ => by rw [e]; rfl) fun cdv A outer s H E hr => ⟨_, (pss_cons (ps_if (pt_not (PW.pt (pw_and (pt_val (pe_callB call_isi rfl (n_isinstance T) bo_isinstance (pa_cons (pv 0) (pa_cons (pe_ty (n_tuple T) bo_tuple) pa_nil)))) (pw_and1 (pt_cmpR op_eq (pe_callB call_len rfl (n_len T) bo_len (pa_cons (pv 0) pa_nil)) pe_int (nomark _)))))) (pss_one (ps_ret pe_bl)) pss_nil)
      (pss_cons (ps_asg (pv 0) (pg_tup (n := 2) rfl (pgs_cons (pg_name (i := 1) sc_is_ratio.nd rfl (by first | exact Or.inl rfl | exact Or.inr rfl)) (pgs_cons (pg_name (i := 2) sc_is_ratio.nd rfl (by first | exact Or.inl rfl | exact Or.inr rfl)) pgs_nil))))
      (pss_one (ps_ret (pe_and (pe_whole1 T (hr.mono (by decide)) rfl (pa_cons (pv 1) pa_nil)) (pe_and (pe_whole2 T (hr.mono (by decide)) rfl (pa_cons (pv 2) (pa_cons pe_int pa_nil))) (pe_one (pe_cmpR op_eq (pe_callBfun cr_gcd rfl T.gcd (pa_cons (pv 1) (pa_cons (pv 2) pa_nil))) pe_int (nomark _))))))))), ?_⟩
  rintro H ds d ⟨x, rfl, ⟨hx, rfl⟩ | ⟨a, vs, rfl, hl, rfl⟩⟩
  · have hc : x.cls.isSome = true := by
      cases x <;> first | rfl | exact hx
    cases x with
    | tup l =>
      by_cases h2 : l.length = 2
      · obtain ⟨t, b, rfl⟩ : ∃ t b, l = [t, b] := match l, h2 with | [t, b], _ => ⟨t, b, rfl⟩
        have hg : t.cls.isSome = true ∧ b.cls.isSome = true := by simpa [D.good] using hx
        refine sd_seq (sd_ifF (R := Same) (Same.refl _) (yt_not (yt_and1 (yt_B (yd_isTup (yd_var rfl))) (yt_test (yd_eqI (yd_lenT (yd_var rfl)) yd_int)))) fun H3 e3 => sd_next ?_)
        refine sd_seq (sd_tup2 (R := Same) (Same.refl _) (yd_var rfl) fun H4 e4 => ?_)
        refine sd_ret (R := Same) (Same.refl _) (yd_and (yd_whole1 (yd_var rfl) hg.1) fun q1 => yd_and (c := gcd1 t b) (yd_whole2 (yd_var rfl) yd_int hg.2) fun q2 => ?_) fun H5 e5 => ⟨rfl, e3.trans (e4.trans e5)⟩
        obtain ⟨t, rfl⟩ := whole_int q1
        obtain ⟨b, rfl⟩ := whole_int q2
        exact yd_eqI (yd_gcd (yd_var rfl) (yd_var rfl)) yd_int
      · refine sd_seq (sd_ifT (R := Same) (Same.refl _) (yt_not (yt_and1 (yt_B (yd_isTup (yd_var rfl))) ((yt_test (yd_eqI (yd_lenT (yd_var rfl)) yd_int)).is (decide_eq_false (by omega : ¬ ((l.length : Int) = 2)))))) fun H3 e3 => sd_ret (R := Same) (Same.refl _) yd_bl fun _ e4 => ⟨?_, e3.trans e4⟩)
        unfold isRatio
        split
        · rename_i e
          cases e
          exact absurd rfl h2
        · rfl
    | _ => exact sd_seq (sd_ifT (R := Same) (Same.refl _) (yt_not (yt_and0 (yt_B (yd_isTup (yd_var rfl) hc)))) fun H3 e3 => sd_ret (R := Same) (Same.refl _) yd_bl fun _ e4 => ⟨rfl, e3.trans e4⟩)
  · exact sd_seq (sd_ifT (R := Same) (Same.refl _) (yt_not (yt_and0 (yt_B (yd_isTupL (yd_var rfl) fun _ e => e _ _ hl)))) fun H3 e3 => sd_ret (R := Same) (Same.refl _) yd_bl fun _ e4 => ⟨rfl, e3.trans e4⟩)
theorem ratio_dq (q : Rat) : isRatio (dq q) = true := by
  have h1 : ¬ ((q.den : Int) < 1) := by have := q.den_pos; omega
  have h2 : Nat.gcd q.num.natAbs q.den = 1 := q.reduced
  show (isWhole (.int q.num) .non .non && (isWhole (.int q.den) (.int 1) .non && gcd1 (.int q.num) (.int q.den))) = true
  have e : ((q.den : Int)).natAbs = q.den := by simp
  simp [isWhole, loOk, hiOk, gcd1, h1, h2]
section
variable {R : Hp → Hp → Prop} [Rl R] {g : Gm} {H : Hp} {x : D} {ta : TE} {W : XK}
theorem yd_isRatio (h : Yd R K ta g H x) (hx : x.good = true := by rfl) : Yd R K (tCall (spP K r_is_ratio) [] W (tCons ta tNil)) g H (.bl (isRatio x)) := yd_call (ya_cons h ya_nil) fun _ _ => ⟨x, rfl, .inl ⟨hx, rfl⟩⟩
theorem yd_isRatioL {a : Addr} {vs : List V} (h : Yd R K ta g H (.ref a)) (hl : ∀ H1, R H H1 → H1 a = some (.lst vs)) : Yd R K (tCall (spP K r_is_ratio) [] W (tCons ta tNil)) g H (.bl false) := yd_call (ya_cons h ya_nil) fun H1 e => ⟨.ref a, rfl, .inr ⟨a, vs, rfl, hl H1 e, rfl⟩⟩
end
/-! ### is_from_zero -/
theorem sc_is_from_zero : FnScope ["thing"] ["thing"] (defScope s_is_from_zero) := ⟨rfl, rfl, rfl, by decide +kernel, rfl, by decide +kernel, by decide +kernel⟩
theorem bd_is_from_zero : Bnd "is_from_zero" "is_from_zero" s_is_from_zero ["thing"] := fun _ _ _ _ _ _ us hl => match us, hl with | [_], _ => rfl
def fromZero (x : D) : Bool := isRatio x && (match x with | .tup (.int t :: _) => decide (0 ≤ t) | _ => false)
def r_from : Hp → List D → D → Prop := fun H ds d => ∃ x, ds = [x] ∧ ((x.good = true ∧ d = .bl (fromZero x)) ∨ ∃ a vs, x = .ref a ∧ H a = some (.lst vs) ∧ d = .bl false)
theorem ok_is_from_zero (T : TX K mg) : Cal P w K mg base CX0 3 "is_from_zero" ["thing"] (spP K r_from) := by
  refine cal_pure (f_is_from_zero T) (g_is_from_zero T) sc_is_from_zero bd_is_from_zero (fun H ds d ⟨_, e, _⟩ => by rw [e]; rfl) fun cdv A outer s H E hr => ⟨_, (pss_one (ps_ret (pe_and (pe_cal (ok_is_ratio T) (hr.mono (by decide)) rfl pass0 (pa_cons (pv 0) pa_nil)) (pe_one (pe_cmpR op_ge (pe_ix ix_tup (pv 0) pe_int (fun _ _ => rfl)) pe_int (nomark _)))))), ?_⟩
  rintro H ds d ⟨x, rfl, ⟨hx, rfl⟩ | ⟨a, vs, rfl, hl, rfl⟩⟩
  · refine sd_ret (R := Same) (Same.refl _) (yd_and (yd_isRatio (yd_var rfl) hx) fun q => ?_) fun H5 e5 => ⟨rfl, e5⟩
    obtain ⟨t, b, rfl⟩ : ∃ t b, x = .tup [t, b] := by
      unfold isRatio at q
      split at q
      · exact ⟨_, _, rfl⟩
      · cases q
    have q2 : (isWhole t .non .non && (isWhole b (.int 1) .non && gcd1 t b)) = true := q
    obtain ⟨t, rfl⟩ := whole_int (Bool.and_eq_true_iff.mp q2).1
    exact yd_cmp (yd_ixT (yd_var rfl) yd_int rfl) yd_int
  · exact sd_ret (R := Same) (Same.refl _) (yd_and0 (yd_isRatioL (yd_var rfl) fun _ e => e _ _ hl)) fun H5 e5 => ⟨rfl, e5⟩
theorem from_dq (q : Rat) : fromZero (dq q) = decide (0 ≤ q) := by
  unfold fromZero
  rw [ratio_dq]
  show decide (0 ≤ q.num) = decide (0 ≤ q)
  rw [decide_eq_decide, Rat.le_iff]
  simp
/-! ### lowest_terms -/
theorem sc_lowest_terms : FnScope ["top", "bottom", "shared"] ["top", "bottom"] (defScope s_lowest_terms) := ⟨rfl, rfl, rfl, by decide +kernel, rfl, by decide +kernel, by decide +kernel⟩
theorem bd_lowest_terms : Bnd "lowest_terms" "lowest_terms" s_lowest_terms ["top", "bottom"] := fun _ _ _ _ _ _ us hl => match us, hl with | [_, _], _ => rfl
def r_low : Hp → List D → D → Prop := fun _ ds d => ∃ t b : Int, ds = [.int t, .int b] ∧ b ≠ 0 ∧ b.natAbs < 2 ^ 9000 ∧ d = dq (Rat.divInt t b)
theorem ok_lowest_terms (T : TX K mg) : Cal P w K mg base CX0 1 "lowest_terms" ["top", "bottom"] (spP K r_low) := by
  refine cal_pure (f_lowest_terms T) (g_lowest_terms T) sc_lowest_terms bd_lowest_terms (fun H ds d ⟨_, _, e, _⟩ => by rw [e]; rfl) fun cdv A outer s H E hr => ⟨_, (pss_cons (ps_if (pt_cmpR op_lt (pv 1) pe_int (nomark _)) (pss_one (ps_par (i := 0) (j := 1) (by rfl) sc_lowest_terms.nd rfl rfl (by decide) rfl rfl (pa_cons (pe_un un_neg (pv 0)) (pa_cons (pe_un un_neg (pv 1)) pa_nil)) (by rfl))) pss_nil)
      (pss_cons (ps_set (i := 2) sc_lowest_terms.nd rfl (by first | exact Or.inl rfl | exact Or.inr rfl) (pe_callBfun cr_gcd rfl T.gcd (pa_cons (pv 0) (pa_cons (pv 1) pa_nil))))
      (pss_one (ps_ret (pe_tup (pa_cons (pe_op op_fdivW (pv 0) (pv 2)) (pa_cons (pe_op op_fdivW (pv 1) (pv 2)) pa_nil))))))), ?_⟩
  rintro H ds d ⟨t, b, rfl, hb, hz, rfl⟩
  refine sd_cut (fun g' H' => ∃ t' b' : Int, g' = [some (.int t'), some (.int b'), none] ∧ Same H H' ∧ 0 < b' ∧ b'.natAbs < 2 ^ 9000 ∧ Rat.divInt t' b' = Rat.divInt t b) ?_ ?_
  · refine sd_if (R := Same) (Same.refl _) (yt_test (yd_cmp (yd_var rfl) yd_int)) (fun q H1 e1 => sd_par (R := Same) (Same.refl _) (ya_cons (yd_neg (yd_var rfl)) (ya_cons (yd_neg (yd_var rfl)) ya_nil)) fun H2 e2 => ⟨-t, -b, rfl, e1.trans e2, ?_, ?_, ?_⟩)
      fun q H1 e1 => sd_next ⟨t, b, rfl, e1, ?_, hz, rfl⟩
    · have := of_decide_eq_true q; omega
    · rw [Int.natAbs_neg]; exact hz
    · exact Rat.neg_divInt_neg t b
    · have := of_decide_eq_false q; omega
  · rintro g' H1 ⟨t', b', rfl, e1, hp, hz', he⟩
    have hg := gcd_pos (t := t') (b := b') (by omega)
    have hgl := gcd_le (t := t') (b := b') (by omega)
    have hc : CDivW t' ((Nat.gcd t'.natAbs b'.natAbs : Nat) : Int) := wide_div (b := 9000) (by omega) (by simpa using Nat.lt_of_le_of_lt hgl hz') (by decide) (by decide)
    refine sd_seq (sd_asg (R := Same) (Same.refl _) (yd_gcd (yd_var rfl) (yd_var rfl)) fun H2 e2 => ?_)
    refine sd_ret (R := Same) (Same.refl _) (yd_tup (ya_cons (yd_I (yd_var rfl) (yd_var rfl) hc) (ya_cons (yd_I (yd_var rfl) (yd_var rfl) hc) ya_nil))) fun H5 e5 => ⟨?_, e1.trans (e2.trans e5)⟩
    rw [← he, dq, low_num hp, low_den hp]
section
variable {R : Hp → Hp → Prop} [Rl R] {g : Gm} {H : Hp} {ta tb : TE} {W : XK} {t b : Int}
theorem yd_low (h : Yd R K ta g H (.int t)) (h2 : Yd R K tb g H (.int b)) (h0 : b ≠ 0) (hz : b.natAbs < 2 ^ 9000) : Yd R K (tCall (spP K r_low) [] W (tCons ta (tCons tb tNil))) g H (dq (Rat.divInt t b)) :=
  yd_call (ya_cons h (ya_cons h2 ya_nil)) fun _ _ => ⟨t, b, rfl, h0, hz, rfl⟩
end
/-! ### plus, minus, times -/
/-- of what size two ratios may be that are reckoned with -/
def Bd (q r : Rat) : Prop := bt q + bt r ≤ 9000
def Bc (q r : Rat) : Prop := bt q + bt r ≤ 900000
theorem Bd.c {q r : Rat} (h : Bd q r) : Bc q r := Nat.le_trans h (by decide)
theorem Bc.mulc {q r : Rat} (h : Bc q r) : CMulW q.num r.num ∧ CMulW q.num r.den ∧ CMulW q.den r.num ∧ CMulW q.den r.den ∧ CMulW r.num q.den := by
  unfold Bc at h
  have a := num_lt (Nat.le_refl (bt q))
  have b := num_lt (Nat.le_refl (bt r))
  have c := den_lt (Nat.le_refl (bt q))
  have d := den_lt (Nat.le_refl (bt r))
  have p := bt_pos q
  have p2 := bt_pos r
  exact ⟨wide_mul a b (by omega) (by omega) (by omega), wide_mul a (by simpa using d) (by omega) (by omega) (by omega), wide_mul (by simpa using c) b (by omega) (by omega) (by omega), wide_mul (by simpa using c) (by simpa using d) (by omega) (by omega) (by omega), wide_mul b (by simpa using c) (by omega) (by omega) (by omega)⟩
theorem Bd.dens {q r : Rat} (h : Bd q r) : ((q.den : Int) * r.den).natAbs < 2 ^ 9000 :=
  Nat.lt_of_lt_of_le (mul_lt (n := bt q) (m := bt r) (by simpa using bt_den q) (by simpa using bt_den r)) (Nat.pow_le_pow_right (by decide) h)
theorem Bd.dnum {q r : Rat} (h : Bd q r) : ((q.den : Int) * r.num).natAbs < 2 ^ 9000 :=
  Nat.lt_of_lt_of_le (mul_lt (n := bt q) (m := bt r) (by simpa using bt_den q) (bt_num r)) (Nat.pow_le_pow_right (by decide) h)
def r_ar (f : Rat → Rat → Rat) : Hp → List D → D → Prop := fun _ ds d => ∃ q r, ds = [dq q, dq r] ∧ Bd q r ∧ d = dq (f q r)
theorem sc_plus : FnScope ["one", "other"] ["one", "other"] (defScope s_plus) := ⟨rfl, rfl, rfl, by decide +kernel, rfl, by decide +kernel, by decide +kernel⟩
theorem bd_plus : Bnd "plus" "plus" s_plus ["one", "other"] := fun _ _ _ _ _ _ us hl => match us, hl with | [_, _], _ => rfl
theorem sc_minus : FnScope ["one", "other"] ["one", "other"] (defScope s_minus) := ⟨rfl, rfl, rfl, by decide +kernel, rfl, by decide +kernel, by decide +kernel⟩
theorem bd_minus : Bnd "minus" "minus" s_minus ["one", "other"] := fun _ _ _ _ _ _ us hl => match us, hl with | [_, _], _ => rfl
theorem sc_times : FnScope ["one", "other"] ["one", "other"] (defScope s_times) := ⟨rfl, rfl, rfl, by decide +kernel, rfl, by decide +kernel, by decide +kernel⟩
theorem bd_times : Bnd "times" "times" s_times ["one", "other"] := fun _ _ _ _ _ _ us hl => match us, hl with | [_, _], _ => rfl
theorem ok_plus (T : TX K mg) : Cal P w K mg base CX0 2 "plus" ["one", "other"] (spP K (r_ar fun q r => q + r)) := by
  refine cal_pure (f_plus T) (g_plus T) sc_plus bd_plus (fun H ds d ⟨_, _, e, _⟩ => by rw [e]; rfl) fun cdv A outer s H E hr => ⟨_, (pss_one (ps_ret (pe_cal (ok_lowest_terms T) (hr.mono (by decide)) rfl pass0 (pa_cons (pe_op op_add (pe_op op_mulW (pe_ix ix_tup (pv 0) pe_int (fun _ _ => rfl)) (pe_ix ix_tup (pv 1) pe_int (fun _ _ => rfl))) (pe_op op_mulW (pe_ix ix_tup (pv 1) pe_int (fun _ _ => rfl)) (pe_ix ix_tup (pv 0) pe_int (fun _ _ => rfl)))) (pa_cons (pe_op op_mulW (pe_ix ix_tup (pv 0) pe_int (fun _ _ => rfl)) (pe_ix ix_tup (pv 1) pe_int (fun _ _ => rfl))) pa_nil))))), ?_⟩
  rintro H ds d ⟨q, r, rfl, hq, rfl⟩
  refine sd_ret (R := Same) (Same.refl _) ((yd_low (yd_I0 (yd_I (yd_ixT (yd_var rfl) yd_int rfl) (yd_ixT (yd_var rfl) yd_int rfl) hq.c.mulc.2.1) (yd_I (yd_ixT (yd_var rfl) yd_int rfl) (yd_ixT (yd_var rfl) yd_int rfl) hq.c.mulc.2.2.2.2))
    (yd_I (yd_ixT (yd_var rfl) yd_int rfl) (yd_ixT (yd_var rfl) yd_int rfl) hq.c.mulc.2.2.2.1) (Int.mul_ne_zero (den_ne q) (den_ne r)) hq.dens).is (by rw [add_eq])) fun H5 e5 => ⟨rfl, e5⟩
theorem ok_minus (T : TX K mg) : Cal P w K mg base CX0 2 "minus" ["one", "other"] (spP K (r_ar fun q r => q - r)) := by
  refine cal_pure (f_minus T) (g_minus T) sc_minus bd_minus (fun H ds d ⟨_, _, e, _⟩ => by rw [e]; rfl) fun cdv A outer s H E hr => ⟨_, (pss_one (ps_ret (pe_cal (ok_lowest_terms T) (hr.mono (by decide)) rfl pass0 (pa_cons (pe_op op_sub (pe_op op_mulW (pe_ix ix_tup (pv 0) pe_int (fun _ _ => rfl)) (pe_ix ix_tup (pv 1) pe_int (fun _ _ => rfl))) (pe_op op_mulW (pe_ix ix_tup (pv 1) pe_int (fun _ _ => rfl)) (pe_ix ix_tup (pv 0) pe_int (fun _ _ => rfl)))) (pa_cons (pe_op op_mulW (pe_ix ix_tup (pv 0) pe_int (fun _ _ => rfl)) (pe_ix ix_tup (pv 1) pe_int (fun _ _ => rfl))) pa_nil))))), ?_⟩
  rintro H ds d ⟨q, r, rfl, hq, rfl⟩
  refine sd_ret (R := Same) (Same.refl _) ((yd_low (yd_I0 (yd_I (yd_ixT (yd_var rfl) yd_int rfl) (yd_ixT (yd_var rfl) yd_int rfl) hq.c.mulc.2.1) (yd_I (yd_ixT (yd_var rfl) yd_int rfl) (yd_ixT (yd_var rfl) yd_int rfl) hq.c.mulc.2.2.2.2))
    (yd_I (yd_ixT (yd_var rfl) yd_int rfl) (yd_ixT (yd_var rfl) yd_int rfl) hq.c.mulc.2.2.2.1) (Int.mul_ne_zero (den_ne q) (den_ne r)) hq.dens).is (by rw [sub_eq])) fun H5 e5 => ⟨rfl, e5⟩
theorem ok_times (T : TX K mg) : Cal P w K mg base CX0 2 "times" ["one", "other"] (spP K (r_ar fun q r => q * r)) := by
  refine cal_pure (f_times T) (g_times T) sc_times bd_times (fun H ds d ⟨_, _, e, _⟩ => by rw [e]; rfl) fun cdv A outer s H E hr => ⟨_, (pss_one (ps_ret (pe_cal (ok_lowest_terms T) (hr.mono (by decide)) rfl pass0 (pa_cons (pe_op op_mulW (pe_ix ix_tup (pv 0) pe_int (fun _ _ => rfl)) (pe_ix ix_tup (pv 1) pe_int (fun _ _ => rfl))) (pa_cons (pe_op op_mulW (pe_ix ix_tup (pv 0) pe_int (fun _ _ => rfl)) (pe_ix ix_tup (pv 1) pe_int (fun _ _ => rfl))) pa_nil))))), ?_⟩
  rintro H ds d ⟨q, r, rfl, hq, rfl⟩
  refine sd_ret (R := Same) (Same.refl _) ((yd_low (yd_I (yd_ixT (yd_var rfl) yd_int rfl) (yd_ixT (yd_var rfl) yd_int rfl) hq.c.mulc.1)
    (yd_I (yd_ixT (yd_var rfl) yd_int rfl) (yd_ixT (yd_var rfl) yd_int rfl) hq.c.mulc.2.2.2.1) (Int.mul_ne_zero (den_ne q) (den_ne r)) hq.dens).is (by rw [mul_eq])) fun H5 e5 => ⟨rfl, e5⟩
section
variable {R : Hp → Hp → Prop} [Rl R] {g : Gm} {H : Hp} {ta tb : TE} {W : XK} {q r : Rat}
theorem yd_ar {f : Rat → Rat → Rat} (h : Yd R K ta g H (dq q)) (h2 : Yd R K tb g H (dq r)) (hq : Bd q r) : Yd R K (tCall (spP K (r_ar f)) [] W (tCons ta (tCons tb tNil))) g H (dq (f q r)) :=
  yd_call (ya_cons h (ya_cons h2 ya_nil)) fun _ _ => ⟨q, r, rfl, hq, rfl⟩
end
/-! ### size_of, compare -/
theorem sc_size_of : FnScope ["one"] ["one"] (defScope s_size_of) := ⟨rfl, rfl, rfl, by decide +kernel, rfl, by decide +kernel, by decide +kernel⟩
theorem bd_size_of : Bnd "size_of" "size_of" s_size_of ["one"] := fun _ _ _ _ _ _ us hl => match us, hl with | [_], _ => rfl
theorem sc_compare : FnScope ["one", "other", "rest"] ["one", "other"] (defScope s_compare) := ⟨rfl, rfl, rfl, by decide +kernel, rfl, by decide +kernel, by decide +kernel⟩
theorem bd_compare : Bnd "compare" "compare" s_compare ["one", "other"] := fun _ _ _ _ _ _ us hl => match us, hl with | [_, _], _ => rfl
def r_size : Hp → List D → D → Prop := fun _ ds d => ∃ q, ds = [dq q] ∧ d = dq q.abs
theorem ok_size_of (T : TX K mg) : Cal P w K mg base CX0 1 "size_of" ["one"] (spP K r_size) := by
  refine cal_pure (f_size_of T) (g_size_of T) sc_size_of bd_size_of (fun H ds d ⟨_, e, _⟩ => by rw [e]; rfl) fun cdv A outer s H E hr => ⟨_, (pss_one (ps_ret (pe_tup (pa_cons (pe_callB call_abs rfl (n_abs T) bo_abs (pa_cons (pe_ix ix_tup (pv 0) pe_int (fun _ _ => rfl)) pa_nil)) (pa_cons (pe_ix ix_tup (pv 0) pe_int (fun _ _ => rfl)) pa_nil))))), ?_⟩
  rintro H ds d ⟨q, rfl, rfl⟩
  exact sd_ret (R := Same) (Same.refl _) ((yd_tup (ya_cons (yd_abs (yd_ixT (yd_var rfl) yd_int rfl)) (ya_cons (yd_ixT (yd_var rfl) yd_int rfl) ya_nil))).is (dq_abs q).symm) fun H5 e5 => ⟨rfl, e5⟩
def cmpR (q r : Rat) : Int := if q < r then -1 else if r < q then 1 else 0
def r_cmp : Hp → List D → D → Prop := fun _ ds d => ∃ q r, ds = [dq q, dq r] ∧ Bc q r ∧ d = .int (cmpR q r)
theorem ok_compare (T : TX K mg) : Cal P w K mg base CX0 1 "compare" ["one", "other"] (spP K r_cmp) := by
  refine cal_pure (f_compare T) (g_compare T) sc_compare bd_compare (fun H ds d ⟨_, _, e, _⟩ => by rw [e]; rfl) fun cdv A outer s H E hr => ⟨_, (pss_cons (ps_set (i := 2) sc_compare.nd rfl (by first | exact Or.inl rfl | exact Or.inr rfl) (pe_op op_sub (pe_op op_mulW (pe_ix ix_tup (pv 0) pe_int (fun _ _ => rfl)) (pe_ix ix_tup (pv 1) pe_int (fun _ _ => rfl))) (pe_op op_mulW (pe_ix ix_tup (pv 1) pe_int (fun _ _ => rfl)) (pe_ix ix_tup (pv 0) pe_int (fun _ _ => rfl)))))
      (pss_cons (ps_if (pt_cmpR op_lt (pv 2) pe_int (nomark _)) (pss_one (ps_ret (pe_un un_neg pe_int))) pss_nil)
      (pss_one (ps_ret (pe_ifExp (pt_cmpR op_gt (pv 2) pe_int (nomark _)) pe_int pe_int))))), ?_⟩
  rintro H ds d ⟨q, r, rfl, hq, rfl⟩
  refine sd_seq (sd_asg (R := Same) (Same.refl _) (yd_I0 (yd_I (yd_ixT (yd_var rfl) yd_int rfl) (yd_ixT (yd_var rfl) yd_int rfl) hq.mulc.2.1) (yd_I (yd_ixT (yd_var rfl) yd_int rfl) (yd_ixT (yd_var rfl) yd_int rfl) hq.mulc.2.2.2.2)) fun H1 e1 => ?_)
  refine sd_seq (sd_if (R := Same) (Same.refl _) (yt_test (yd_cmp (yd_var rfl) yd_int)) (fun z H2 e2 => sd_ret (R := Same) (Same.refl _) (yd_neg yd_int) fun H3 e3 => ⟨?_, e1.trans (e2.trans e3)⟩) fun z H2 e2 => sd_next ?_)
  · have z2 := of_decide_eq_true z
    have : q < r := (Rat.lt_iff q r).2 (by omega)
    unfold cmpR
    rw [if_pos this]
  · have z2 := of_decide_eq_false z
    have n1 : ¬ q < r := fun h => by have := (Rat.lt_iff q r).1 h; omega
    refine sd_ret (R := Same) (Same.refl _) (d := .int (cmpR q r)) (yd_if (yt_test (yd_cmp (yd_var rfl) yd_int)) (fun y => yd_int.is ?_) fun y => yd_int.is ?_) fun H3 e3 => ⟨rfl, e1.trans (e2.trans e3)⟩
    · have y2 := of_decide_eq_true y
      have : r < q := (Rat.lt_iff r q).2 (by omega)
      unfold cmpR
      rw [if_neg n1, if_pos this]
    · have y2 := of_decide_eq_false y
      have n2 : ¬ r < q := fun h => by have := (Rat.lt_iff r q).1 h; omega
      unfold cmpR
      rw [if_neg n1, if_neg n2]
end K19
set_option maxHeartbeats 4000000
set_option exponentiation.threshold 20000
namespace K19
open PySem PySem.Spec PyProof.Rows L2
variable {P : Program} {w : World} {K : PySem.W.Frag} {mg : Str → Option Value} {base : Heap}
/-! ### rows of ratios -/
abbrev dqs (qs : List Rat) : D := .tup (qs.map dq)
def sumq (qs : List Rat) : Rat := qs.foldl (fun a b => a + b) 0
def gmax (qs : List Rat) : Rat := qs.foldl (fun m q => if m < q then q else m) (qs.getD 0 0)
def wtR (qs : List Rat) : Nat := (qs.map fun q => bt q + 1).sum
theorem dqs_at {qs : List Rat} {i : Nat} {d : D} (h : (qs.map dq)[i]? = some d) : ∃ q, qs[i]? = some q ∧ d = dq q := by
  rw [List.getElem?_map] at h
  obtain ⟨q, h1, h2⟩ := Option.map_eq_some_iff.mp h
  exact ⟨q, h1, h2.symm⟩
theorem dqs_getD {qs : List Rat} {i : Nat} (h : i < qs.length) : (qs.map dq).getD i .non = dq (qs.getD i 0) := by
  rw [List.getD_eq_getElem?_getD, List.getD_eq_getElem?_getD, List.getElem?_map, List.getElem?_eq_getElem h]
  rfl
theorem wt_take (qs : List Rat) (i : Nat) : wtR (qs.take i) ≤ wtR qs := by
  have h : qs.take i ++ qs.drop i = qs := List.take_append_drop i qs
  have : wtR qs = wtR (qs.take i) + wtR (qs.drop i) := by
    conv => lhs; rw [← h]
    unfold wtR
    rw [List.map_append, List.sum_append]
  omega
theorem wt_mem {qs : List Rat} {q : Rat} (h : q ∈ qs) : bt q + 1 ≤ wtR qs := by
  induction qs with
  | nil => cases h
  | cons a l ih =>
    have e : wtR (a :: l) = (bt a + 1) + wtR l := by simp [wtR]
    rcases List.mem_cons.mp h with h | h
    · subst h; omega
    · have := ih h; omega
theorem bt_fold (qs : List Rat) (a : Rat) : bt (qs.foldl (fun a b => a + b) a) ≤ bt a + wtR qs := by
  induction qs generalizing a with
  | nil => simp [wtR]
  | cons q l ih =>
    have e : wtR (q :: l) = (bt q + 1) + wtR l := by simp [wtR]
    have h1 := ih (a + q)
    have h2 := bt_add a q
    show bt (l.foldl (fun a b => a + b) (a + q)) ≤ _
    omega
theorem bt0 : bt 0 = 1 := by decide +kernel
theorem bt1 : bt 1 = 1 := by decide +kernel
theorem bt_sumq (qs : List Rat) : bt (sumq qs) ≤ 1 + wtR qs := by
  have := bt_fold qs 0
  rw [bt0] at this
  exact this
theorem sumq_take {qs : List Rat} {i : Nat} {q : Rat} (h : qs[i]? = some q) : sumq (qs.take (i + 1)) = sumq (qs.take i) + q := by
  unfold sumq
  rw [List.take_add_one, h, Option.toList_some, List.foldl_append]
  rfl
def gmaxTo (qs : List Rat) (i : Nat) : Rat := (qs.take i).foldl (fun m q => if m < q then q else m) (qs.getD 0 0)
theorem gmax_take {qs : List Rat} {i : Nat} {q : Rat} (h : qs[i]? = some q) : gmaxTo qs (i + 1) = if gmaxTo qs i < q then q else gmaxTo qs i := by
  unfold gmaxTo
  rw [List.take_add_one, h, Option.toList_some, List.foldl_append]
  rfl
theorem gmax_mem {qs : List Rat} (h : qs ≠ []) (i : Nat) : gmaxTo qs i ∈ qs := by
  have : ∀ (l : List Rat) (m : Rat), m ∈ qs → (∀ q ∈ l, q ∈ qs) → l.foldl (fun m q => if m < q then q else m) m ∈ qs := by
    intro l
    induction l with
    | nil => intro m hm _; exact hm
    | cons a l ih =>
      intro m hm hl
      refine ih _ ?_ fun q hq => hl q (List.mem_cons_of_mem _ hq)
      show (if m < a then a else m) ∈ qs
      split
      · exact hl a List.mem_cons_self
      · exact hm
  refine this _ _ ?_ fun q hq => List.mem_of_mem_take hq
  cases qs with
  | nil => exact absurd rfl h
  | cons a l => exact List.mem_cons_self
theorem gmax_all (qs : List Rat) : gmaxTo qs qs.length = gmax qs := by
  unfold gmaxTo gmax
  rw [List.take_length]
/-! ### the constants -/
abbrev Uv := Rat × Rat
abbrev dUv (u : Uv) : D := .tup [dq u.1, dq u.2]
section
variable {R : Hp → Hp → Prop} [Rl R] {g : Gm} {H : Hp}
theorem gx_parts (T : TX K mg) : (tupA K (He.ga K "ZERO") [.int 0, .int 1] = true ∧ tupA K (He.ga K "ONE") [.int 1, .int 1] = true) ∧
    (tupA K (He.ga K "UP") [.ref (itm K (He.ga K "UP") 0), .ref (itm K (He.ga K "UP") 1)] = true ∧ tupA K (itm K (He.ga K "UP") 0) [.int 0, .int 1] = true ∧ tupA K (itm K (He.ga K "UP") 1) [.int 1, .int 1] = true) ∧
    (tupA K (He.ga K "DOWN") [.ref (itm K (He.ga K "DOWN") 0), .ref (itm K (He.ga K "DOWN") 1)] = true ∧ tupA K (itm K (He.ga K "DOWN") 0) [.int 0, .int 1] = true ∧ tupA K (itm K (He.ga K "DOWN") 1) [.int (-1), .int 1] = true) := by
  have h := T.gx
  unfold gx at h
  simp only [Bool.and_eq_true] at h
  exact ⟨⟨h.1, h.2.1⟩, ⟨h.2.2.1.1, h.2.2.1.2.1, h.2.2.1.2.2⟩, ⟨h.2.2.2.1.1, h.2.2.2.1.2.1, h.2.2.2.1.2.2⟩⟩
theorem rp_q {a : Addr} {i : Int} {q : Rat} (h : tupA K a [.int i, .int 1] = true) (e : dq q = .tup [.int i, .int 1] := by rfl) (H1 : Hp) : Rp K H1 (.ref a) (dq q) := by
  rw [e]
  exact .tup (tupA_ok h H1) (.cons .int (.cons .int .nil))
theorem yd_ZERO (T : TX K mg) : Yd R K (tC (.ref (He.ga K "ZERO"))) g H (dq 0) := yd_c fun H1 => rp_q (gx_parts T).1.1 rfl H1
theorem yd_ONE (T : TX K mg) : Yd R K (tC (.ref (He.ga K "ONE"))) g H (dq 1) := yd_c fun H1 => rp_q (gx_parts T).1.2 rfl H1
theorem yd_UP (T : TX K mg) : Yd R K (tC (.ref (He.ga K "UP"))) g H (dUv (0, 1)) := yd_c fun H1 => .tup (tupA_ok (gx_parts T).2.1.1 H1) (.cons (rp_q (gx_parts T).2.1.2.1 rfl H1) (.cons (rp_q (gx_parts T).2.1.2.2 rfl H1) .nil))
theorem yd_DOWN (T : TX K mg) : Yd R K (tC (.ref (He.ga K "DOWN"))) g H (dUv (0, -1)) := yd_c fun H1 => .tup (tupA_ok (gx_parts T).2.2.1 H1) (.cons (rp_q (gx_parts T).2.2.2.1 rfl H1) (.cons (rp_q (gx_parts T).2.2.2.2 rfl H1) .nil))
end
/-! ### sum_of, greatest_of -/
theorem sc_sum_of : FnScope ["row", "total", "entry"] ["row"] (defScope s_sum_of) := ⟨rfl, rfl, rfl, by decide +kernel, rfl, by decide +kernel, by decide +kernel⟩
theorem bd_sum_of : Bnd "sum_of" "sum_of" s_sum_of ["row"] := fun _ _ _ _ _ _ us hl => match us, hl with | [_], _ => rfl
theorem sc_greatest_of : FnScope ["row", "found", "entry"] ["row"] (defScope s_greatest_of) := ⟨rfl, rfl, rfl, by decide +kernel, rfl, by decide +kernel, by decide +kernel⟩
theorem bd_greatest_of : Bnd "greatest_of" "greatest_of" s_greatest_of ["row"] := fun _ _ _ _ _ _ us hl => match us, hl with | [_], _ => rfl
def r_sum (K : PySem.W.Frag) : Hp → List D → D → Prop := fun H ds d => ∃ a vs qs, ds = [.ref a] ∧ H a = some (.lst vs) ∧ RpL K H vs (qs.map dq) ∧ wtR qs ≤ 4000 ∧ d = dq (sumq qs)
theorem ok_sum_of (T : TX K mg) : Cal P w K mg base CX0 3 "sum_of" ["row"] (spP K (r_sum K)) := by
  refine cal_pure (f_sum_of T) (g_sum_of T) sc_sum_of bd_sum_of (fun H ds d ⟨_, _, _, e, _⟩ => by rw [e]; rfl) fun cdv A outer s H E hr => ⟨_, (pss_cons (ps_set (i := 1) sc_sum_of.nd rfl (by first | exact Or.inl rfl | exact Or.inr rfl) (pe_glob (v := .ref (He.ga K "ZERO")) rfl (g_ZERO T) rfl))
      (pss_cons (ps_for PassesOwn.never rfl (pi_list (pv 0)) (pg_name (i := 2) sc_sum_of.nd rfl (by first | exact Or.inl rfl | exact Or.inr rfl)) (pss_one (ps_set (i := 1) sc_sum_of.nd rfl (by first | exact Or.inl rfl | exact Or.inr rfl) (pe_cal (ok_plus T) (hr.mono (by decide)) rfl pass0 (pa_cons (pv 1) (pa_cons (pv 2) pa_nil))))))
      (pss_one (ps_ret (pv 1))))), ?_⟩
  rintro H ds d ⟨a, vs, qs, rfl, hl, hv, hw, rfl⟩
  refine sd_seq (sd_asg (R := Same) (Same.refl _) (yd_ZERO T) fun H1 e1 => ?_)
  refine sd_seq (sd_forL (yd_var rfl) (e1 _ _ hl) (hv.mono e1) (fun i g' H' => (∃ o, g' = [some (.ref a), some (dq (sumq (qs.take i))), o]) ∧ Same H1 H') (fun _ _ _ h => h.2) (fun H2 e2 => ⟨⟨none, rfl⟩, e2⟩) ?_ ?_)
  · rintro i d g' H' hd ⟨⟨o, rfl⟩, e2⟩
    obtain ⟨q, hq, rfl⟩ := dqs_at hd
    have b1 := bt_sumq (qs.take i)
    have b2 := wt_take qs i
    have b3 := wt_mem (List.mem_of_getElem? hq)
    refine sd_asg (R := Same) (Same.refl _) (yd_ar (yd_var rfl) (yd_var rfl) (show bt _ + bt _ ≤ 9000 by omega)) fun H2 e3 => ⟨⟨some (dq q), ?_⟩, e2.trans e3⟩
    rw [sumq_take hq]
    rfl
  · rintro g' H' ⟨⟨o, rfl⟩, e2⟩
    rw [List.length_map, List.take_length]
    exact sd_ret (R := Same) (Same.refl _) (yd_var rfl) fun _ e3 => ⟨rfl, e1.trans (e2.trans e3)⟩
def r_great (K : PySem.W.Frag) : Hp → List D → D → Prop := fun H ds d => ∃ a vs qs, ds = [.ref a] ∧ H a = some (.lst vs) ∧ RpL K H vs (qs.map dq) ∧ qs ≠ [] ∧ wtR qs ≤ 4000 ∧ d = dq (gmax qs)
theorem ok_greatest_of (T : TX K mg) : Cal P w K mg base CX0 2 "greatest_of" ["row"] (spP K (r_great K)) := by
  refine cal_pure (f_greatest_of T) (g_greatest_of T) sc_greatest_of bd_greatest_of (fun H ds d ⟨_, _, _, e, _⟩ => by rw [e]; rfl) fun cdv A outer s H E hr => ⟨_, (pss_cons (ps_set (i := 1) sc_greatest_of.nd rfl (by first | exact Or.inl rfl | exact Or.inr rfl) (pe_ix (r := rIxL K) ix_list (pv 0) pe_int (fun _ _ => rfl)))
      (pss_cons (ps_for PassesOwn.never rfl (pi_list (pv 0)) (pg_name (i := 2) sc_greatest_of.nd rfl (by first | exact Or.inl rfl | exact Or.inr rfl)) (pss_one (ps_if (pt_cmpR op_gt (pe_cal (ok_compare T) (hr.mono (by decide)) rfl pass0 (pa_cons (pv 2) (pa_cons (pv 1) pa_nil))) pe_int (nomark _)) (pss_one (ps_set (i := 1) sc_greatest_of.nd rfl (by first | exact Or.inl rfl | exact Or.inr rfl) (pv 2))) pss_nil)))
      (pss_one (ps_ret (pv 1))))), ?_⟩
  rintro H ds d ⟨a, vs, qs, rfl, hl, hv, hn, hw, rfl⟩
  refine sd_seq (sd_asg (R := Same) (Same.refl _) (yd_ixL (d := dq (qs.getD 0 0)) (yd_var rfl) yd_int (fun H1 e1 => ⟨e1 _ _ hl, hv.mono e1⟩) ?_) fun H1 e1 => ?_)
  · cases qs with
    | nil => exact absurd rfl hn
    | cons q l =>
      unfold atI
      have : ixN ((q :: l).map dq).length 0 = some 0 := by simp [ixN]
      rw [this]
      rfl
  refine sd_seq (sd_forL (yd_var rfl) (e1 _ _ hl) (hv.mono e1) (fun i g' H' => (∃ o, g' = [some (.ref a), some (dq (gmaxTo qs i)), o]) ∧ Same H1 H') (fun _ _ _ h => h.2) (fun H2 e2 => ⟨⟨none, rfl⟩, e2⟩) ?_ ?_)
  · rintro i d g' H' hd ⟨⟨o, rfl⟩, e2⟩
    obtain ⟨q, hq, rfl⟩ := dqs_at hd
    have b1 := wt_mem (gmax_mem hn i)
    have b3 := wt_mem (List.mem_of_getElem? hq)
    refine sd_if (R := Same) (Same.refl _) (yt_test (yd_cmp (yd_call (d := .int (cmpR q (gmaxTo qs i))) (ya_cons (yd_var rfl) (ya_cons (yd_var rfl) ya_nil)) fun _ _ => ⟨_, _, rfl, (show bt _ + bt _ ≤ 900000 by omega), rfl⟩) yd_int)) (fun z H2 e3 => sd_asg (R := Same) (Same.refl _) (yd_var rfl) fun H3 e4 => ⟨⟨some (dq q), ?_⟩, e2.trans (e3.trans e4)⟩) fun z H2 e3 => sd_next ⟨⟨some (dq q), ?_⟩, e2.trans e3⟩
    · have z2 : gmaxTo qs i < q := by
        have z := of_decide_eq_true z
        unfold cmpR at z
        split at z
        · omega
        · split at z
          · assumption
          · omega
      rw [gmax_take hq, if_pos z2]
      rfl
    · have z2 : ¬ gmaxTo qs i < q := fun h => by
        have z := of_decide_eq_false z
        unfold cmpR at z
        rw [if_neg (fun h2 => by have := Rat.not_lt.2 (Rat.le_of_lt h); exact this h2), if_pos h] at z
        omega
      rw [gmax_take hq, if_neg z2]
      rfl
  · rintro g' H' ⟨⟨o, rfl⟩, e2⟩
    rw [List.length_map, gmax_all]
    exact sd_ret (R := Same) (Same.refl _) (yd_var rfl) fun _ e3 => ⟨rfl, e1.trans (e2.trans e3)⟩
end K19
set_option maxHeartbeats 4000000
/-! The plain picture: bars, places, walks to the mast, rows. -/
namespace K19
open PySem PySem.Spec PyProof.Rows L2
structure Bar where
  host : Int
  mark : Rat
  letter : Nat
abbrev dBar (b : Bar) : D := .tup [.int b.host, dq b.mark, .int b.letter]
abbrev dBars (bs : List Bar) : D := .tup (bs.map dBar)
abbrev dA (bs : List Bar) (n : Nat) : D := .arms (dBars bs) n
/-- bars that the program takes; n letters -/
structure GoodBars (bs : List Bar) (n : Nat) : Prop where
  some_ : 1 ≤ bs.length
  few : bs.length ≤ 6
  host : ∀ (i : Nat) (b : Bar), bs[i]? = some b → -1 ≤ b.host ∧ b.host ≤ (i : Int) - 1
  let_ : ∀ b ∈ bs, b.letter ≤ n
  n1 : 1 ≤ n
  n4 : n ≤ 4
  all : ∀ k, 1 ≤ k → k ≤ n → ∃ b ∈ bs, b.letter = k
def walk (bs : List Bar) : Nat → Int → Rat → List (Nat × Rat)
  | 0, _, m => [(0, m)]
  | f + 1, k, m => if k < 0 then [(0, m)] else match bs[k.toNat]? with
    | none => [(0, m)]
    | some b => (b.letter, m) :: walk bs f b.host b.mark
/-- the steps from a place to the mast -/
abbrev steps (bs : List Bar) (k : Int) (m : Rat) : List (Nat × Rat) := walk bs (k + 1).toNat k m
theorem walk_more {bs : List Bar} {n : Nat} (G : GoodBars bs n) : ∀ (f : Nat) (k : Int) (m : Rat), (k + 1).toNat ≤ f → walk bs f k m = steps bs k m
  | 0, k, m, h => by
    have : (k + 1).toNat = 0 := by omega
    unfold steps
    rw [this]
  | f + 1, k, m, h => by
    by_cases hk : k < 0
    · have e : (k + 1).toNat = 0 := by omega
      unfold steps
      rw [e]
      show (if k < 0 then [(0, m)] else _) = _
      rw [if_pos hk]
      rfl
    · obtain ⟨j, hj⟩ : ∃ j : Nat, (k + 1).toNat = j + 1 := ⟨k.toNat, by omega⟩
      unfold steps
      rw [hj]
      show (if k < 0 then [(0, m)] else _) = (if k < 0 then [(0, m)] else _)
      rw [if_neg hk, if_neg hk]
      cases hb : bs[k.toNat]? with
      | none => rfl
      | some b =>
        have hh := G.host _ _ hb
        show (b.letter, m) :: walk bs f b.host b.mark = (b.letter, m) :: walk bs j b.host b.mark
        have e1 : walk bs f b.host b.mark = steps bs b.host b.mark := walk_more G f b.host b.mark (by omega)
        have e2 : walk bs j b.host b.mark = steps bs b.host b.mark := by
          have hj' : (b.host + 1).toNat ≤ j := by omega
          exact walk_more G j b.host b.mark hj'
        rw [e1, e2]
  termination_by f => f
  decreasing_by all_goals omega
theorem steps_neg {bs : List Bar} {k : Int} {m : Rat} (h : k < 0) : steps bs k m = [(0, m)] := by
  have e : (k + 1).toNat = 0 := by omega
  unfold steps
  rw [e]
  rfl
theorem steps_pos {bs : List Bar} {n : Nat} (G : GoodBars bs n) {k : Int} {m : Rat} {b : Bar} (h : 0 ≤ k) (hb : bs[k.toNat]? = some b) : steps bs k m = (b.letter, m) :: steps bs b.host b.mark := by
  obtain ⟨j, hj⟩ : ∃ j : Nat, (k + 1).toNat = j + 1 := ⟨k.toNat, by omega⟩
  have hh := G.host _ _ hb
  unfold steps
  rw [hj]
  show (if k < 0 then [(0, m)] else _) = _
  rw [if_neg (by omega), hb]
  show (b.letter, m) :: walk bs j b.host b.mark = _
  rw [walk_more G j b.host b.mark (by omega)]
def addAt (r : List Rat) (p : Nat × Rat) : List Rat := r.set p.1 (r.getD p.1 0 + p.2)
def rowOf (n : Nat) (st : List (Nat × Rat)) : List Rat := st.foldl addAt (List.replicate (n + 1) 0)
def wtS (st : List (Nat × Rat)) : Nat := (st.map fun p => bt p.2 + 1).sum
theorem addAt_len (r : List Rat) (p : Nat × Rat) : (addAt r p).length = r.length := List.length_set ..
theorem fold_len (st : List (Nat × Rat)) (r : List Rat) : (st.foldl addAt r).length = r.length := by
  induction st generalizing r with
  | nil => rfl
  | cons p st ih => show (st.foldl addAt (addAt r p)).length = _; rw [ih, addAt_len]
theorem rowOf_len (n : Nat) (st : List (Nat × Rat)) : (rowOf n st).length = n + 1 := by
  unfold rowOf
  rw [fold_len, List.length_replicate]
theorem wtR_cons (q : Rat) (l : List Rat) : wtR (q :: l) = (bt q + 1) + wtR l := by simp [wtR]
theorem wtR_set : ∀ (r : List Rat) (i : Nat) (q : Rat), i < r.length → wtR (r.set i q) + bt (r.getD i 0) = wtR r + bt q
  | [], i, q, h => absurd h (Nat.not_lt_zero _)
  | a :: l, 0, q, _ => by
    show wtR (q :: l) + bt a = _
    rw [wtR_cons, wtR_cons]
    omega
  | a :: l, i + 1, q, h => by
    have := wtR_set l i q (by simpa using h)
    show wtR (a :: l.set i q) + bt (l.getD i 0) = _
    rw [wtR_cons, wtR_cons]
    omega
theorem wtR_addAt (r : List Rat) (p : Nat × Rat) : wtR (addAt r p) ≤ wtR r + (bt p.2 + 1) := by
  unfold addAt
  by_cases h : p.1 < r.length
  · have h1 := wtR_set r p.1 (r.getD p.1 0 + p.2) h
    have h2 := bt_add (r.getD p.1 0) p.2
    omega
  · rw [List.set_eq_of_length_le (by omega)]
    omega
theorem wtR_fold (st : List (Nat × Rat)) (r : List Rat) : wtR (st.foldl addAt r) ≤ wtR r + wtS st := by
  induction st generalizing r with
  | nil => simp [wtS]
  | cons p st ih =>
    have e : wtS (p :: st) = (bt p.2 + 1) + wtS st := by simp [wtS]
    have h1 := ih (addAt r p)
    have h2 := wtR_addAt r p
    show wtR (st.foldl addAt (addAt r p)) ≤ _
    omega
theorem wtR_zeros (n : Nat) : wtR (List.replicate n 0) = 2 * n := by
  induction n with
  | zero => rfl
  | succ n ih => rw [List.replicate_succ, wtR_cons, ih, bt0]; omega
theorem wtR_row (n : Nat) (st : List (Nat × Rat)) : wtR (rowOf n st) ≤ 2 * (n + 1) + wtS st := by
  have := wtR_fold st (List.replicate (n + 1) 0)
  rw [wtR_zeros] at this
  exact this
theorem wtS_cons (p : Nat × Rat) (st : List (Nat × Rat)) : wtS (p :: st) = (bt p.2 + 1) + wtS st := by simp [wtS]
/-- the row of the way from one place to another -/
def subR (p q : List Rat) : List Rat := List.zipWith (fun a b => a - b) p q
theorem subR_len {p q : List Rat} (h : p.length = q.length) : (subR p q).length = p.length := by
  unfold subR
  rw [List.length_zipWith]
  omega
theorem subR_at {p q : List Rat} {i : Nat} (h : p.length = q.length) (hi : i < p.length) : (subR p q)[i]? = some (p.getD i 0 - q.getD i 0) := by
  unfold subR
  rw [List.getElem?_zipWith, List.getD_eq_getElem?_getD, List.getD_eq_getElem?_getD, List.getElem?_eq_getElem hi, List.getElem?_eq_getElem (by omega)]
  rfl
theorem wtR_sub : ∀ (p q : List Rat), p.length = q.length → wtR (subR p q) ≤ wtR p + wtR q
  | [], [], _ => by simp [subR, wtR]
  | a :: p, b :: q, h => by
    have := wtR_sub p q (by simpa using h)
    have e : subR (a :: p) (b :: q) = (a - b) :: subR p q := rfl
    rw [e, wtR_cons, wtR_cons, wtR_cons]
    have := bt_sub a b
    omega
  | [], _ :: _, h => by cases h
  | _ :: _, [], h => by cases h
theorem getD_mem {l : List Rat} {i : Nat} (h : i < l.length) : l.getD i 0 ∈ l := by
  rw [List.getD_eq_getElem?_getD, List.getElem?_eq_getElem h]
  exact List.getElem_mem h
/-- sizes -/
def absR (r : List Rat) : List Rat := r.map Rat.abs
theorem wtR_abs (r : List Rat) : wtR (absR r) = wtR r := by
  unfold wtR absR
  rw [List.map_map]
  congr 1
  refine List.map_congr_left fun q _ => ?_
  show bt q.abs + 1 = bt q + 1
  rw [bt_abs]
/-- how far, how near the ends of a row may come -/
def hiR (r : List Rat) : Rat := sumq (absR r)
def loR (r : List Rat) : Rat := if 0 < gmax (absR r) + gmax (absR r) - hiR r then gmax (absR r) + gmax (absR r) - hiR r else 0
/-- where a row's end lies -/
def spotR (us : List Uv) (r : List Rat) : Uv := (List.zip us r).foldl (fun s p => (s.1 + p.2 * p.1.1, s.2 + p.2 * p.1.2)) (0, 0)
def sqU (u : Uv) : Rat := u.1 * u.1 + u.2 * u.2
abbrev upU : Uv := (0, 1)
end K19
set_option maxHeartbeats 4000000
set_option exponentiation.threshold 20000
namespace K19
open PySem PySem.Spec PyProof.Rows L2
variable {P : Program} {w : World} {K : PySem.W.Frag} {mg : Str → Option Value} {base : Heap}
/-! ### methods -/
structure CalM (P : Program) (w : World) (K : PySem.W.Frag) (mg : Str → Option Value) (base : Heap) (CX : CXT) (k : Nat) (m : Str) (ps : List Str) (sp : Sp) : Prop where
  fn : ∃ fd, FnOk P w K mg base CX k (He.ma K (He.ga K "Arms") m) fd ps sp ∧ Binds K fd ps []
section
variable {X : Cx} {CX : CXT} {k : Nat} {m : Str} {ps : List Str} {sp : Sp} {E : XK} {pos apos : Pos} {o e : Expr} {es : List Expr} {ta : TE} {t : TA} {pl : Sem Bool}
theorem pe_calM (C : CalM X.prog X.w X.K X.mg X.base CX k m ps sp) (c : Cls X.K (He.ga X.K "Arms")) (hm : Meth X.K (He.ga X.K "Arms") m (He.ma X.K (He.ga X.K "Arms") m)) (he : PE X o ta) (hr : Room k X.A) (hx : Passes CX X E) (ha : PA X (e :: es) t)
    (hst : starEach (e :: es) X.env = (false, eval e X.env) :: starEach es X.env := by rfl) (hpl : (backTo pos (starEach es X.env)).any (·.1) = false := by rfl)
    (ht : eval (.Call (.Attribute o m apos) (e :: es) [] pos) X.env = (do
      let v ← eval o X.env
      standAt apos.atName
      let (f, first) ← holding [v] (getMethod v m pl)
      callWith pos f first (backTo pos (starEach (e :: es) X.env)) (backToKw pos (keywordEach [] X.env))) := by rfl) :
    PE X (.Call (.Attribute o m apos) (e :: es) [] pos) (tMeth (He.ga X.K "Arms") m sp [] E ta t) := by
  obtain ⟨fd, F, b⟩ := C.fn
  exact pe_meth he c hm F hr b .nil hx ha hst hpl ht
end
/-! ### directions -/
theorem sc_square_sum : FnScope ["spot", "x", "y"] ["spot"] (defScope s_square_sum) := ⟨rfl, rfl, rfl, by decide +kernel, rfl, by decide +kernel, by decide +kernel⟩
theorem bd_square_sum : Bnd "square_sum" "square_sum" s_square_sum ["spot"] := fun _ _ _ _ _ _ us hl => match us, hl with | [_], _ => rfl
theorem sc_is_spot : FnScope ["thing"] ["thing"] (defScope s_is_spot) := ⟨rfl, rfl, rfl, by decide +kernel, rfl, by decide +kernel, by decide +kernel⟩
theorem bd_is_spot : Bnd "is_spot" "is_spot" s_is_spot ["thing"] := fun _ _ _ _ _ _ us hl => match us, hl with | [_], _ => rfl
theorem sc_is_direction : FnScope ["thing"] ["thing"] (defScope s_is_direction) := ⟨rfl, rfl, rfl, by decide +kernel, rfl, by decide +kernel, by decide +kernel⟩
theorem bd_is_direction : Bnd "is_direction" "is_direction" s_is_direction ["thing"] := fun _ _ _ _ _ _ us hl => match us, hl with | [_], _ => rfl
def Sq (u : Uv) : Prop := 2 * (bt u.1 + bt u.2) ≤ 9000
def r_sq : Hp → List D → D → Prop := fun _ ds d => ∃ u, ds = [dUv u] ∧ Sq u ∧ d = dq (sqU u)
theorem sq_bd {u : Uv} (h : Sq u) : Bd u.1 u.1 ∧ Bd u.2 u.2 ∧ Bd (u.1 * u.1) (u.2 * u.2) := by
  unfold Sq at h
  have a := bt_mul u.1 u.1
  have b := bt_mul u.2 u.2
  unfold Bd
  refine ⟨by omega, by omega, by omega⟩
theorem ok_square_sum (T : TX K mg) : Cal P w K mg base CX0 3 "square_sum" ["spot"] (spP K r_sq) := by
  refine cal_pure (f_square_sum T) (g_square_sum T) sc_square_sum bd_square_sum (fun H ds d ⟨_, e, _⟩ => by rw [e]; rfl) fun cdv A outer s H E hr => ⟨_, (pss_cons (ps_asg (pv 0) (pg_tup (n := 2) rfl (pgs_cons (pg_name (i := 1) sc_square_sum.nd rfl (by first | exact Or.inl rfl | exact Or.inr rfl)) (pgs_cons (pg_name (i := 2) sc_square_sum.nd rfl (by first | exact Or.inl rfl | exact Or.inr rfl)) pgs_nil))))
      (pss_one (ps_ret (pe_cal (ok_plus T) (hr.mono (by decide)) rfl pass0 (pa_cons (pe_cal (ok_times T) (hr.mono (by decide)) rfl pass0 (pa_cons (pv 1) (pa_cons (pv 1) pa_nil))) (pa_cons (pe_cal (ok_times T) (hr.mono (by decide)) rfl pass0 (pa_cons (pv 2) (pa_cons (pv 2) pa_nil))) pa_nil)))))), ?_⟩
  rintro H ds d ⟨u, rfl, hs, rfl⟩
  obtain ⟨a, b, c⟩ := sq_bd hs
  refine sd_seq (sd_tup2 (R := Same) (Same.refl _) (yd_var rfl) fun H1 e1 => ?_)
  exact sd_ret (R := Same) (Same.refl _) (yd_ar (yd_ar (yd_var rfl) (yd_var rfl) a) (yd_ar (yd_var rfl) (yd_var rfl) b) c) fun H2 e2 => ⟨rfl, e1.trans e2⟩
def r_spot : Hp → List D → D → Prop := fun _ ds d => ∃ u, ds = [dUv u] ∧ d = .bl true
theorem ok_is_spot (T : TX K mg) : Cal P w K mg base CX0 3 "is_spot" ["thing"] (spP K r_spot) := by
  refine cal_pure (f_is_spot T) (g_is_spot T) sc_is_spot bd_is_spot (fun H ds d ⟨_, e, _⟩ => by rw [e]; rfl) fun cdv A outer s H E hr => ⟨_, (pss_cons (ps_if (PW.pt (pw_or (pt_not (pt_val (pe_callB (r := rIsiT K) call_isiT rfl (n_isinstance T) bo_isinstance (pa_cons (pv 0) (pa_cons (pe_tup (pa_cons (pe_ty (n_list T) bo_list) (pa_cons (pe_ty (n_tuple T) bo_tuple) pa_nil))) pa_nil))))) (pw_or1 (pt_cmpR op_ne (pe_callB (r := rLenX K) call_len rfl (n_len T) bo_len (pa_cons (pv 0) pa_nil)) pe_int (nomark _))))) (pss_one (ps_ret pe_bl)) pss_nil)
      (pss_one (ps_ret (pe_and (pe_cal (ok_is_ratio T) (hr.mono (by decide)) rfl pass0 (pa_cons (pe_ix (r := rIxT K) ix_tup (pv 0) pe_int (fun _ _ => rfl)) pa_nil)) (pe_one (pe_cal (ok_is_ratio T) (hr.mono (by decide)) rfl pass0 (pa_cons (pe_ix (r := rIxT K) ix_tup (pv 0) pe_int (fun _ _ => rfl)) pa_nil))))))), ?_⟩
  rintro H ds d ⟨u, rfl, rfl⟩
  refine sd_seq (sd_ifF (R := Same) (Same.refl _) (yt_or0 (yt_not (yt_B (yd_isSeq (yd_var rfl)))) (yt_test (yd_neI (yd_lenT (yd_var rfl)) yd_int))) fun H1 e1 => sd_next ?_)
  exact sd_ret (R := Same) (Same.refl _) ((yd_and1 (yd_isRatio (yd_ixT (yd_var rfl) yd_int rfl)) (yd_isRatio (yd_ixT (yd_var rfl) yd_int rfl)) (ratio_dq u.1)).is (by rw [ratio_dq])) fun H2 e2 => ⟨rfl, e1.trans e2⟩
def Unit2 (u : Uv) : Prop := sqU u = 1
def r_dir : Hp → List D → D → Prop := fun _ ds d => ∃ u, ds = [dUv u] ∧ Sq u ∧ Unit2 u ∧ d = .bl true
theorem ok_is_direction (T : TX K mg) : Cal P w K mg base CX0 4 "is_direction" ["thing"] (spP K r_dir) := by
  refine cal_pure (f_is_direction T) (g_is_direction T) sc_is_direction bd_is_direction (fun H ds d ⟨_, e, _⟩ => by rw [e]; rfl) fun cdv A outer s H E hr => ⟨_, (pss_one (ps_ret (pe_and (pe_cal (ok_is_spot T) (hr.mono (by decide)) rfl pass0 (pa_cons (pv 0) pa_nil)) (pe_one (pe_cmpR (r := rEqD K) (op_eqD hr.units) (pe_cal (ok_square_sum T) (hr.mono (by decide)) rfl pass0 (pa_cons (pv 0) pa_nil)) (pe_glob (v := .ref (He.ga K "ONE")) rfl (g_ONE T) rfl) (nomark _)))))), ?_⟩
  rintro H ds d ⟨u, rfl, hs, hu, rfl⟩
  refine sd_ret (R := Same) (Same.refl _) ((yd_and1 (yd_call (d := .bl true) (ya_cons (yd_var rfl) ya_nil) fun _ _ => ⟨u, rfl, rfl⟩) (yd_eqQ (yd_call (d := dq (sqU u)) (ya_cons (yd_var rfl) ya_nil) fun _ _ => ⟨u, rfl, hs, rfl⟩) (yd_ONE T))).is ?_) fun H2 e2 => ⟨rfl, e2⟩
  rw [hu]
  rfl
/-! ### arms -/
theorem sc_is_row : FnScope ["thing", "least", "most"] ["thing", "least", "most"] (defScope s_is_row) := ⟨rfl, rfl, rfl, by decide +kernel, rfl, by decide +kernel, by decide +kernel⟩
theorem bd_is_row : Bnd "is_row" "is_row" s_is_row ["thing", "least", "most"] := fun _ _ _ _ _ _ us hl => match us, hl with | [_, _, _], _ => rfl
theorem sc_take_row : FnScope ["one", "other", "left", "right"] ["one", "other"] (defScope s_take_row) := ⟨rfl, rfl, rfl, by decide +kernel, rfl, by decide +kernel, by decide +kernel⟩
theorem bd_take_row : Bnd "take_row" "take_row" s_take_row ["one", "other"] := fun _ _ _ _ _ _ us hl => match us, hl with | [_, _], _ => rfl
theorem sc_is_place_form : FnScope ["thing", "many"] ["thing", "many"] (defScope s_is_place_form) := ⟨rfl, rfl, rfl, by decide +kernel, rfl, by decide +kernel, by decide +kernel⟩
theorem bd_is_place_form : Bnd "is_place_form" "is_place_form" s_is_place_form ["thing", "many"] := fun _ _ _ _ _ _ us hl => match us, hl with | [_, _], _ => rfl
theorem sc_bad_bar : FnScope ["number", "bar"] ["number", "bar"] (defScope s_bad_bar) := ⟨rfl, rfl, rfl, by decide +kernel, rfl, by decide +kernel, by decide +kernel⟩
theorem bd_bad_bar : Bnd "bad_bar" "bad_bar" s_bad_bar ["number", "bar"] := fun _ _ _ _ _ _ us hl => match us, hl with | [_, _], _ => rfl
theorem sc_Arms_line_row : FnScope ["self", "number", "mark", "found", "host", "place_mark", "letter"] ["self", "number", "mark"] (defScope s_Arms_line_row) := ⟨rfl, rfl, rfl, by decide +kernel, rfl, by decide +kernel, by decide +kernel⟩
theorem bd_Arms_line_row : Bnd "line_row" "Arms.line_row" s_Arms_line_row ["self", "number", "mark"] := fun _ _ _ _ _ _ us hl => match us, hl with | [_, _, _], _ => rfl
theorem sc_Arms_len : FnScope ["self"] ["self"] (defScope s_Arms_len) := ⟨rfl, rfl, rfl, by decide +kernel, rfl, by decide +kernel, by decide +kernel⟩
theorem bd_Arms_len : Bnd "__len__" "Arms.__len__" s_Arms_len ["self"] := fun _ _ _ _ _ _ us hl => match us, hl with | [_], _ => rfl
def isRow (n lo hi : Int) : Bool := decide (lo ≤ n) && decide (n ≤ hi)
def r_row : Hp → List D → D → Prop := fun H ds d => ∃ x lo hi, ds = [x, .int lo, .int hi] ∧ ((∃ l, x = .tup l ∧ d = .bl (isRow l.length lo hi)) ∨ (∃ a vs, x = .ref a ∧ H a = some (.lst vs) ∧ d = .bl (isRow vs.length lo hi)) ∨ (x = .non ∧ d = .bl false))
theorem ok_is_row (T : TX K mg) : Cal P w K mg base CX0 1 "is_row" ["thing", "least", "most"] (spP K r_row) := by
  refine cal_pure (f_is_row T) (g_is_row T) sc_is_row bd_is_row (fun H ds d ⟨_, _, _, e, _⟩ => by rw [e]; rfl) fun cdv A outer s H E hr => ⟨_, (pss_one (ps_ret (pe_and (pe_callB (r := rIsiT K) call_isiT rfl (n_isinstance T) bo_isinstance (pa_cons (pv 0) (pa_cons (pe_tup (pa_cons (pe_ty (n_list T) bo_list) (pa_cons (pe_ty (n_tuple T) bo_tuple) pa_nil))) pa_nil))) (pe_one (pe_chain op_le op_le (pv 1) (pe_callB (r := rLenX K) call_len rfl (n_len T) bo_len (pa_cons (pv 0) pa_nil)) (pv 2)))))), ?_⟩
  rintro H ds d ⟨x, lo, hi, rfl, ⟨l, rfl, rfl⟩ | ⟨a, vs, rfl, hl, rfl⟩ | ⟨rfl, rfl⟩⟩
  · exact sd_ret (R := Same) (Same.refl _) (yd_and1 (yd_isSeq (yd_var rfl)) (yd_chain (yd_var rfl) (yd_lenT (yd_var rfl)) (yd_var rfl))) fun H2 e2 => ⟨rfl, e2⟩
  · exact sd_ret (R := Same) (Same.refl _) (yd_and1 (yd_isSeqL (yd_var rfl) fun _ e => e _ _ hl) (yd_chain (yd_var rfl) (yd_lenL (yd_var rfl) fun _ e => e _ _ hl) (yd_var rfl))) fun H2 e2 => ⟨rfl, e2⟩
  · exact sd_ret (R := Same) (Same.refl _) (yd_and0 (yd_isSeq (yd_var rfl))) fun H2 e2 => ⟨rfl, e2⟩
def r_take : Hp → List D → D → Prop := fun _ ds d => ∃ p q, ds = [dqs p, dqs q] ∧ p.length = q.length ∧ p.length ≤ 1000 ∧ wtR p + wtR q ≤ 9000 ∧ d = dqs (subR p q)
theorem ok_take_row (T : TX K mg) : Cal P w K mg base CX0 3 "take_row" ["one", "other"] (spP K r_take) := by
  refine cal_pure (f_take_row T) (g_take_row T) sc_take_row bd_take_row (fun H ds d ⟨_, _, e, _⟩ => by rw [e]; rfl) fun cdv A outer s H E hr => ⟨_, (pss_one (ps_ret (pe_callTy (r := rTupOf K) call_tuple_of rfl (n_tuple T) bo_tuple (pa_cons (pe_lc (own := [("left", 2), ("right", 3)]) (g := gTup K 2 (gCons (gName 2) (gCons (gName 3) gNil))) rfl sc_take_row.nd (RZ.pi_zipA rfl (n_zip T) (pa_cons (pv 0) (pa_cons (pv 1) pa_nil))) (blkOk_by (own := [("left", 2), ("right", 3)]) (N := ["one", "other", "left", "right"]) (sc := defScope s_take_row) (by decide +kernel)) (fun _ _ _ _ _ => pg_tup (n := 2) rfl (pgs_cons (pg_name (i := 2) sc_take_row.nd rfl (Or.inl rfl)) (pgs_cons (pg_name (i := 3) sc_take_row.nd rfl (Or.inl rfl)) pgs_nil))) (fun _ _ _ _ _ => pts_nil) (fun _ _ _ _ _ => (pe_cal (ok_minus T) (hr.mono (by decide)) rfl pass0 (pa_cons (pv 2) (pa_cons (pv 3) pa_nil))))) pa_nil)))), ?_⟩
  rintro H ds d ⟨p, q, rfl, hn, hz, hw, rfl⟩
  have z : Yi Same K _ [some (dqs p), some (dqs q), none, none] H (p.map dq).length (fun i => .tup [(p.map dq).getD i .non, (q.map dq).getD i .non]) := yi_zip (yd_var (i := 0) rfl) (yd_var (i := 1) rfl) (by simpa using hn)
  refine sd_ret (R := Same) (Same.refl _) (yd_tupOf (yl_lc z (fun i hi => tg_two) (by rw [List.length_map]; omega) (by rw [List.length_map, List.length_map, subR_len hn]) ?_)) fun H2 e2 => ⟨rfl, e2⟩
  intro i d hd H1 e1
  obtain ⟨r, hr2, rfl⟩ := dqs_at hd
  have hi : i < p.length := by
    have := (List.getElem?_eq_some_iff.mp hr2).1
    rw [subR_len hn] at this
    exact this
  rw [subR_at hn hi] at hr2
  cases hr2
  have w1 := wt_mem (getD_mem hi)
  have w2 := wt_mem (getD_mem (l := q) (i := i) (by omega))
  exact yd_ar (q := p.getD i 0) (r := q.getD i 0) ((yd_var (d := (p.map dq).getD i .non) rfl).is (dqs_getD hi)) ((yd_var (d := (q.map dq).getD i .non) rfl).is (dqs_getD (by omega))) (show bt _ + bt _ ≤ 9000 by omega)
/-- a place that the program takes -/
def placeOk (x : D) (many : Int) : Bool := match x with
  | .tup [a, b] => isWhole a (.int (-1)) (.int (many - 1)) && isRatio b
  | _ => false
inductive PlOk (K : PySem.W.Frag) (bs : List Bar) (H : Hp) : D → Int → Rat → Prop
  | tup {k : Int} {m : Rat} (h : -1 ≤ k ∧ k < bs.length) : PlOk K bs H (.tup [.int k, dq m]) k m
  | lst {a : Addr} {vs : List V} {k : Int} {m : Rat} (h : -1 ≤ k ∧ k < bs.length) (hl : H a = some (.lst vs)) (hv : RpL K H vs [.int k, dq m]) : PlOk K bs H (.ref a) k m
inductive PlBad (many : Int) : D → Prop
  | non : PlBad many .non
  | tup {a b} (ha : a.cls.isSome = true) (hb : b.good = true) (h : placeOk (.tup [a, b]) many = false) : PlBad many (.tup [a, b])
theorem PlOk.mono {bs : List Bar} {H H' : Hp} {x : D} {k : Int} {m : Rat} (e : Same H H') (h : PlOk K bs H x k m) : PlOk K bs H' x k m := by
  cases h with
  | tup h => exact .tup h
  | lst h hl hv => exact .lst h (e _ _ hl) (hv.mono e)
def r_pform (K : PySem.W.Frag) : Hp → List D → D → Prop := fun H ds d => ∃ x many, ds = [x, .int many] ∧ ((PlBad many x ∧ d = .bl false) ∨ (∃ bs k m, PlOk K bs H x k m ∧ many = (bs.length : Int) ∧ d = .bl true))
theorem whole_in {k lo hi : Int} (h : lo ≤ k ∧ k ≤ hi) : isWhole (.int k) (.int lo) (.int hi) = true := by
  have h1 : ¬ k < lo := by omega
  have h2 : ¬ hi < k := by omega
  simp [isWhole, loOk, hiOk, h1, h2]
theorem ok_is_place_form (T : TX K mg) : Cal P w K mg base CX0 3 "is_place_form" ["thing", "many"] (spP K (r_pform K)) := by
  refine cal_pure (f_is_place_form T) (g_is_place_form T) sc_is_place_form bd_is_place_form (fun H ds d ⟨_, _, e, _⟩ => by rw [e]; rfl) fun cdv A outer s H E hr => ⟨_, (pss_cons (ps_if (pt_not (pt_val (pe_cal (ok_is_row T) (hr.mono (by decide)) rfl pass0 (pa_cons (pv 0) (pa_cons pe_int (pa_cons pe_int pa_nil)))))) (pss_one (ps_ret pe_bl)) pss_nil)
      (pss_one (ps_ret (pe_and (pe_whole3 T (hr.mono (by decide)) rfl (pa_cons (pe_ix (r := rIxS K) ix_seq (pv 0) pe_int (fun _ _ => rfl)) (pa_cons (pe_glob (v := .int (-1)) rfl (i_MAST T).choose_spec ⟨_, rfl⟩) (pa_cons (pe_op op_sub (pv 1) pe_int) pa_nil)))) (pe_one (pe_cal (ok_is_ratio T) (hr.mono (by decide)) rfl pass0 (pa_cons (pe_ix (r := rIxS K) ix_seq (pv 0) pe_int (fun _ _ => rfl)) pa_nil))))))), ?_⟩
  rintro H ds d ⟨x, many, rfl, ⟨hx, rfl⟩ | ⟨bs, k, m, hx, rfl, rfl⟩⟩
  · cases hx with
    | non => exact sd_seq (sd_ifT (R := Same) (Same.refl _) (yt_not (yt_B (yd_call (d := .bl false) (ya_cons (yd_var rfl) (ya_cons yd_int (ya_cons yd_int ya_nil))) fun _ _ => ⟨_, _, _, rfl, .inr (.inr ⟨rfl, rfl⟩)⟩))) fun H1 e1 => sd_ret (R := Same) (Same.refl _) yd_bl fun H2 e2 => ⟨rfl, e1.trans e2⟩)
    | tup ha hb h =>
      rename_i a b
      refine sd_seq (sd_ifF (R := Same) (Same.refl _) (yt_not (yt_B (yd_call (d := .bl true) (ya_cons (yd_var rfl) (ya_cons yd_int (ya_cons yd_int ya_nil))) fun _ _ => ⟨_, _, _, rfl, .inl ⟨_, rfl, rfl⟩⟩))) fun H1 e1 => sd_next ?_)
      exact sd_ret (R := Same) (Same.refl _) ((yd_and (yd_whole3 (yd_ixST (yd_var rfl) yd_int rfl) yd_int (yd_I0 (yd_var rfl) yd_int) ha) fun _ => yd_isRatio (yd_ixST (yd_var rfl) yd_int rfl) hb).is (congrArg D.bl h)) fun H2 e2 => ⟨rfl, e1.trans e2⟩
  · cases hx with
    | tup h =>
      refine sd_seq (sd_ifF (R := Same) (Same.refl _) (yt_not (yt_B (yd_call (d := .bl true) (ya_cons (yd_var rfl) (ya_cons yd_int (ya_cons yd_int ya_nil))) fun _ _ => ⟨_, _, _, rfl, .inl ⟨_, rfl, rfl⟩⟩))) fun H1 e1 => sd_next ?_)
      exact sd_ret (R := Same) (Same.refl _) ((yd_and1 (yd_whole3 (yd_ixST (yd_var rfl) yd_int rfl) yd_int (yd_I0 (yd_var rfl) yd_int)) (yd_isRatio (yd_ixST (yd_var rfl) yd_int rfl)) (whole_in (by omega))).is (by rw [ratio_dq])) fun H2 e2 => ⟨rfl, e1.trans e2⟩
    | lst h hl hv =>
      have hn := hv.length
      refine sd_seq (sd_ifF (R := Same) (Same.refl _) (yt_not (yt_B (yd_call (d := .bl true) (ya_cons (yd_var rfl) (ya_cons yd_int (ya_cons yd_int ya_nil))) fun _ e => ⟨_, _, _, rfl, .inr (.inl ⟨_, _, rfl, e _ _ hl, by rw [hn]; rfl⟩)⟩))) fun H1 e1 => sd_next ?_)
      exact sd_ret (R := Same) (Same.refl _) ((yd_and1 (yd_whole3 (yd_ixSL (yd_var rfl) yd_int (fun H2 e2 => ⟨e2 _ _ (e1 _ _ hl), hv.mono (e1.trans e2)⟩) rfl) yd_int (yd_I0 (yd_var rfl) yd_int)) (yd_isRatio (yd_ixSL (yd_var rfl) yd_int (fun H2 e2 => ⟨e2 _ _ (e1 _ _ hl), hv.mono (e1.trans e2)⟩) rfl)) (whole_in (by omega))).is (by rw [ratio_dq])) fun H2 e2 => ⟨rfl, e1.trans e2⟩
def r_badbar : Hp → List D → D → Prop := fun _ ds d => ∃ (i : Int) (b : Bar), ds = [.int i, dBar b] ∧ -1 ≤ b.host ∧ b.host ≤ i - 1 ∧ b.letter ≤ 4 ∧ d = .non
theorem ok_bad_bar (T : TX K mg) : Cal P w K mg base CX0 3 "bad_bar" ["number", "bar"] (spP K r_badbar) := by
  refine cal_pure (f_bad_bar T) (g_bad_bar T) sc_bad_bar bd_bad_bar (fun H ds d ⟨_, _, e, _⟩ => by rw [e]; rfl) fun cdv A outer s H E hr => ⟨_, (pss_cons (ps_if (pt_not (pt_val (pe_cal (ok_is_row T) (hr.mono (by decide)) rfl pass0 (pa_cons (pv 1) (pa_cons pe_int (pa_cons pe_int pa_nil)))))) (pss_one (ps_ret pe_str)) pss_nil)
      (pss_cons (ps_if (pt_not (pt_val (pe_whole3 T (hr.mono (by decide)) rfl (pa_cons (pe_ix (r := rIxT K) ix_tup (pv 1) pe_int (fun _ _ => rfl)) (pa_cons (pe_glob (v := .int (-1)) rfl (i_MAST T).choose_spec ⟨_, rfl⟩) (pa_cons (pe_op op_sub (pv 0) pe_int) pa_nil)))))) (pss_one (ps_ret pe_str)) pss_nil)
      (pss_cons (ps_if (pt_not (pt_val (pe_cal (ok_is_ratio T) (hr.mono (by decide)) rfl pass0 (pa_cons (pe_ix (r := rIxT K) ix_tup (pv 1) pe_int (fun _ _ => rfl)) pa_nil)))) (pss_one (ps_ret pe_str)) pss_nil)
      (pss_cons (ps_if (pt_not (pt_val (pe_whole3 T (hr.mono (by decide)) rfl (pa_cons (pe_ix (r := rIxT K) ix_tup (pv 1) pe_int (fun _ _ => rfl)) (pa_cons pe_int (pa_cons (pe_glob (v := .int (4)) rfl (i_MOST_LETTERS T).choose_spec ⟨_, rfl⟩) pa_nil)))))) (pss_one (ps_ret pe_str)) pss_nil)
      (pss_one (ps_ret pe_non)))))), ?_⟩
  rintro H ds d ⟨i, b, rfl, h1, h2, h3, rfl⟩
  refine sd_seq (sd_ifF (R := Same) (Same.refl _) (yt_not (yt_B (yd_call (d := .bl true) (ya_cons (yd_var rfl) (ya_cons yd_int (ya_cons yd_int ya_nil))) fun _ _ => ⟨_, _, _, rfl, .inl ⟨_, rfl, rfl⟩⟩))) fun H1 e1 => sd_next ?_)
  refine sd_seq (sd_ifF (R := Same) (Same.refl _) (yt_not ((yt_B (yd_whole3 (yd_ixT (yd_var rfl) yd_int rfl) yd_int (yd_I0 (yd_var rfl) yd_int))).is (whole_in ⟨h1, h2⟩))) fun H2 e2 => sd_next ?_)
  refine sd_seq (sd_ifF (R := Same) (Same.refl _) (yt_not ((yt_B (yd_isRatio (yd_ixT (yd_var rfl) yd_int rfl))).is (ratio_dq b.mark))) fun H3 e3 => sd_next ?_)
  refine sd_seq (sd_ifF (R := Same) (Same.refl _) (yt_not ((yt_B (yd_whole3 (yd_ixT (yd_var rfl) yd_int rfl) yd_int yd_int)).is (whole_in (k := b.letter) (by omega)))) fun H4 e4 => sd_next ?_)
  exact sd_ret (R := Same) (Same.refl _) yd_non fun H5 e5 => ⟨rfl, e1.trans (e2.trans (e3.trans (e4.trans e5)))⟩
end K19
set_option maxHeartbeats 4000000
set_option exponentiation.threshold 20000
namespace K19
open PySem PySem.Spec PyProof.Rows L2
variable {P : Program} {w : World} {K : PySem.W.Frag} {mg : Str → Option Value} {base : Heap}
section
variable {R : Hp → Hp → Prop} [Rl R] {g : Gm} {H : Hp} {te : TE} {ds : List D}
/-- tuple(a list that stands) -/
theorem yd_tupL {a : Addr} {vs : List V} (h : Yd R K te g H (.ref a)) (hl : ∀ H1, R H H1 → H1 a = some (.lst vs) ∧ RpL K H1 vs ds) : Yd R K (tCB (rTupOf K) (tCons te tNil)) g H (.tup ds) :=
  yd_cb (ya_cons h ya_nil) fun us H1 e rs Q q => by
    cases rs with
    | cons r1 l =>
      cases l
      cases r1
      obtain ⟨h1, h2⟩ := hl H1 e
      exact ⟨_, vs, rfl, .inl ⟨SqL.of h1, fun p hp => q _ _ (Rl.same (Rl.self e) (Same.new hp)) (.tup (SqT.of upd_same) (h2.mono (Same.new hp)))⟩⟩
end
theorem ixN_nat {n k : Nat} (h : k < n) : ixN n (k : Int) = some k := by
  unfold ixN
  rw [if_pos (by omega), if_pos (by omega)]
  simp
theorem atI_nat {α : Type} {l : List α} {k : Nat} {d : α} (h : l[k]? = some d) : atI l (k : Int) = some d := by
  unfold atI
  rw [ixN_nat (List.getElem?_eq_some_iff.mp h).1]
  exact h
theorem dqs_get {r : List Rat} {i : Nat} (h : i < r.length) : (r.map dq)[i]? = some (dq (r.getD i 0)) := by
  rw [List.getElem?_map, List.getD_eq_getElem?_getD, List.getElem?_eq_getElem h]
  rfl
theorem map_set (r : List Rat) (i : Nat) (q : Rat) : (r.map dq).set i (dq q) = (r.set i q).map dq := by
  rw [List.map_set]
/-! ### line_row -/
theorem calM_pure {m q : Str} {st : Stmt} {N ps : List Str} {k : Nat} {rel : Hp → List D → D → Prop} (F : ∃ fd, FunD K m q (defArgs st) (defBody st) (defScope st) [] [] (He.ma K (He.ga K "Arms") m) fd) (S : FnScope N ps (defScope st)) (hb : Bnd m q st ps) (len : ∀ H ds d, rel H ds d → ds.length = ps.length)
    (body : ∀ (cdv : Value) (A : Around) (outer : List Env) (s : Shared) (H : Hp) (E : XK), Room k (A.deeper (envOfC q (defScope st) s.heap.objs.size (He.ma K (He.ga K "Arms") m) cdv)) →
      ∃ t, PSs (cxOf CX0 P w K mg base N q (defScope st) (He.ma K (He.ga K "Arms") m) cdv A outer s H E).nox (defBody st) t ∧ ∀ H ds d, rel H ds d → Sd K t (gm0 N ds) H (enP d H)) : CalM P w K mg base CX0 (k + 1) m ps (spP K rel) := by
  obtain ⟨fd, F⟩ := F
  exact ⟨⟨fd, fn_pure F S len body, F.bindsN hb⟩⟩
theorem calM_exc {m q : Str} {st : Stmt} {N ps : List Str} {k : Nat} {rel : Hp → List D → D → Prop} {bad : Hp → List D → Prop} {C : Addr} (F : ∃ fd, FunD K m q (defArgs st) (defBody st) (defScope st) [] [] (He.ma K (He.ga K "Arms") m) fd) (S : FnScope N ps (defScope st)) (hb : Bnd m q st ps) (len : ∀ H ds d, rel H ds d → ds.length = ps.length)
    (lenb : ∀ H ds, bad H ds → ds.length = ps.length)
    (body : ∀ (cdv : Value) (A : Around) (outer : List Env) (s : Shared) (H : Hp) (E : XK), Room k (A.deeper (envOfC q (defScope st) s.heap.objs.size (He.ma K (He.ga K "Arms") m) cdv)) →
      ∃ t, PSs (cxOf (L2.CX P w) P w K mg base N q (defScope st) (He.ma K (He.ga K "Arms") m) cdv A outer s H E) (defBody st) t ∧ (∀ H ds d, rel H ds d → Sd K t (gm0 N ds) H (enP d H)) ∧
        ∀ H ds, bad H ds → (∀ dd H', Same H H' → E (.ref C) dd H') → Sx K t (gm0 N ds) H) : CalM P w K mg base (L2.CX P w) (k + 1) m ps (spE K rel bad C) := by
  obtain ⟨fd, F⟩ := F
  exact ⟨⟨fd, fn_exc F S len lenb body, F.bindsN hb⟩⟩
def r_line : Hp → List D → D → Prop := fun _ ds d => ∃ bs n k m, ds = [dA bs n, .int k, dq m] ∧ GoodBars bs n ∧ -1 ≤ k ∧ k < bs.length ∧ wtS (steps bs k m) ≤ 3000 ∧ d = dqs (rowOf n (steps bs k m))
theorem ok_Arms_line_row (T : TX K mg) : CalM P w K mg base CX0 3 "line_row" ["self", "number", "mark"] (spP K r_line) := by
  refine calM_pure (f_Arms_line_row T) sc_Arms_line_row bd_Arms_line_row (fun H ds d ⟨_, _, _, _, e, _⟩ => by rw [e]; rfl) fun cdv A outer s H E hr => ⟨_, (pss_cons (ps_set (i := 3) sc_Arms_line_row.nd rfl (by first | exact Or.inl rfl | exact Or.inr rfl) (pe_op op_rep (pe_lst (pa_cons (pe_glob (v := .ref (He.ga K "ZERO")) rfl (g_ZERO T) rfl) pa_nil)) (pe_op op_add (pe_fld (pv 0) rfl) pe_int)))
      (pss_cons (ps_while PassesOwn.never (pt_cmpR op_ge (pv 1) pe_int (nomark _)) (pss_cons (ps_asg (pe_ix (r := rIxT K) ix_tup (pe_fld (pv 0) rfl) (pv 1) (fun _ _ => rfl)) (pg_tup (n := 3) rfl (pgs_cons (pg_name (i := 4) sc_Arms_line_row.nd rfl (by first | exact Or.inl rfl | exact Or.inr rfl)) (pgs_cons (pg_name (i := 5) sc_Arms_line_row.nd rfl (by first | exact Or.inl rfl | exact Or.inr rfl)) (pgs_cons (pg_name (i := 6) sc_Arms_line_row.nd rfl (by first | exact Or.inl rfl | exact Or.inr rfl)) pgs_nil)))))
      (pss_cons (ps_asg (pe_cal (ok_plus T) (hr.mono (by decide)) rfl pass0 (pa_cons (pe_ix (r := rIxL K) ix_list (pv 3) (pv 6) (fun _ _ => rfl)) (pa_cons (pv 2) pa_nil))) (pg_sub (pv 3) (pv 6) set_list))
      (pss_one (ps_par (i := 1) (j := 2) (by rfl) sc_Arms_line_row.nd rfl rfl (by decide) rfl rfl (pa_cons (pv 4) (pa_cons (pv 5) pa_nil)) (by rfl))))))
      (pss_cons (ps_asg (pe_cal (ok_plus T) (hr.mono (by decide)) rfl pass0 (pa_cons (pe_ix (r := rIxL K) ix_list (pv 3) pe_int (fun _ _ => rfl)) (pa_cons (pv 2) pa_nil))) (pg_sub (pv 3) pe_int set_list))
      (pss_one (ps_ret (pe_callTy (r := rTupOf K) call_tuple_of rfl (n_tuple T) bo_tuple (pa_cons (pv 3) pa_nil))))))), ?_⟩
  rintro H ds d ⟨bs, n, k, m, rfl, G, h1, h2, hw, rfl⟩
  have n4 := G.n4
  refine sd_seq (sd_asgN (yl_rep (yl_lst (ya_cons (yd_ZERO T) ya_nil)) (yd_I0 (yd_letters (c_Arms T) (a_letters T) (yd_var rfl)) yd_int) (by omega)) fun a us H1 hn e1 hl hv => ?_)
  have e0 : List.replicate ((n : Int) + 1).toNat (dq 0) = (List.replicate (n + 1) 0).map dq := by
    rw [List.map_replicate, show ((n : Int) + 1).toNat = n + 1 by omega]
  rw [e0] at hv
  refine sd_seq (sd_while (fun c g' H' => ∃ (k2 : Int) (m2 : Rat) (row : List Rat) (o4 o5 o6 : Option D) (vs : List V), g' = [some (dA bs n), some (.int k2), some (dq m2), some (.ref a), o4, o5, o6] ∧ c = (k2 + 1).toNat ∧ -1 ≤ k2 ∧ k2 < bs.length ∧ H' a = some (.lst vs) ∧ RpL K H' vs (row.map dq) ∧
    row.length = n + 1 ∧ (steps bs k2 m2).foldl addAt row = rowOf n (steps bs k m) ∧ wtR row + wtS (steps bs k2 m2) ≤ 4000 ∧ Mu a H1 H') _ ⟨k, m, _, none, none, none, us, rfl, rfl, h1, h2, hl, hv, List.length_replicate, rfl, ?_, Mu.refl⟩ ?_)
  · rw [wtR_zeros]
    omega
  generalize rowOf n (steps bs k m) = goal
  rintro c g' H' ⟨k, m, row, o4, o5, o6, vs, rfl, rfl, h1, h2, hl, hv, hrl, hf, hw, mu⟩
  refine ⟨Same, inferInstance, Same.refl _, _, yt_test (yd_cmp (yd_var rfl) yd_int), fun q H2 e2 => ?_, fun q H2 e2 => ?_⟩
  · have q := of_decide_eq_true q
    obtain ⟨b, hb⟩ : ∃ b, bs[k.toNat]? = some b := ⟨bs[k.toNat]'(by omega), List.getElem?_eq_getElem (by omega)⟩
    have hh := G.host _ _ hb
    have hlt := G.let_ b (List.mem_of_getElem? hb)
    have hst := steps_pos G (m := m) (by omega) hb
    have hk : ((k.toNat : Nat) : Int) = k := by omega
    rw [hst, wtS_cons] at hw
    replace hw : wtR row + ((bt m + 1) + wtS (steps bs b.host b.mark)) ≤ 4000 := hw
    have w1 := wt_mem (getD_mem (l := row) (i := b.letter) (by omega))
    refine sd_seq (sd_tup3 (R := Same) (Same.refl _) (yd_ixT (d := dBar b) (yd_bars (c_Arms T) (a_bars T) (yd_var rfl)) (yd_var rfl) (by rw [← hk]; exact atI_nat (by rw [List.getElem?_map, hb]; rfl))) fun H3 e3 => ?_)
    refine sd_seq (sd_setL (vs := vs) (ds := row.map dq) (j := b.letter) (yd_ar (q := row.getD b.letter 0) (yd_ixL (yd_var rfl) (yd_var rfl) (fun H4 e4 => ⟨e4 _ _ (e3 _ _ (e2 _ _ hl)), hv.mono (e2.trans (e3.trans e4))⟩) (atI_nat (dqs_get (by omega)))) (yd_var rfl) (show bt _ + bt _ ≤ 9000 by omega)) (yd_var rfl) (yd_var rfl) (e3 _ _ (e2 _ _ hl)) (hv.mono (e2.trans e3)) (ixN_nat (by rw [List.length_map]; omega)) fun H5 us5 mu5 hl5 hv5 => ?_)
    refine sd_par (R := Same) (Same.refl _) (ya_cons (yd_var rfl) (ya_cons (yd_var rfl) ya_nil)) fun H6 e6 => ⟨_, ?_, b.host, b.mark, addAt row (b.letter, m), _, _, _, us5, rfl, rfl, hh.1, by omega, e6 _ _ hl5, ?_, ?_, ?_, ?_, mu.trans ((Mu.of (e2.trans e3)).trans (mu5.trans (Mu.of e6)))⟩
    · omega
    · rw [map_set] at hv5
      exact hv5.mono e6
    · rw [addAt_len]; exact hrl
    · rw [hst] at hf
      exact hf
    · have := wtR_addAt row (b.letter, m)
      have e : bt (b.letter, m).2 = bt m := rfl
      rw [e] at this
      omega
  · have q := of_decide_eq_false q
    have hst := steps_neg (bs := bs) (m := m) (by omega : k < 0)
    rw [hst, wtS_cons] at hw
    replace hw : wtR row + ((bt m + 1) + wtS []) ≤ 4000 := hw
    rw [hst] at hf
    have w1 := wt_mem (getD_mem (l := row) (i := 0) (by omega))
    refine sd_seq (sd_setL (vs := vs) (ds := row.map dq) (j := 0) (yd_ar (q := row.getD 0 0) (yd_ixL (yd_var rfl) yd_int (fun H4 e4 => ⟨e4 _ _ (e2 _ _ hl), hv.mono (e2.trans e4)⟩) (atI_nat (k := 0) (dqs_get (by omega)))) (yd_var rfl) (show bt _ + bt _ ≤ 9000 by omega)) (yd_var rfl) yd_int (e2 _ _ hl) (hv.mono e2) (ixN_nat (k := 0) (by rw [List.length_map]; omega)) fun H5 us5 mu5 hl5 hv5 => ?_)
    rw [map_set] at hv5
    refine sd_ret (R := Same) (Same.refl _) (yd_tupL (yd_var rfl) fun H6 e6 => ⟨e6 _ _ hl5, hv5.mono e6⟩) fun H6 e6 => ⟨?_, ((mu.trans ((Mu.of e2).trans mu5)).same e1 hn).trans e6⟩
    show dqs (addAt row (0, m)) = _
    rw [← hf]
    rfl
def r_lenA : Hp → List D → D → Prop := fun _ ds d => ∃ bs n, ds = [dA bs n] ∧ d = .int (bs.length : Nat)
theorem ok_Arms_len (T : TX K mg) : CalM P w K mg base CX0 1 "__len__" ["self"] (spP K r_lenA) := by
  refine calM_pure (f_Arms_len T) sc_Arms_len bd_Arms_len (fun H ds d ⟨_, _, e, _⟩ => by rw [e]; rfl) fun cdv A outer s H E hr => ⟨_, (pss_one (ps_ret (pe_callB (r := rLenX K) call_len rfl (n_len T) bo_len (pa_cons (pe_fld (pv 0) rfl) pa_nil)))), ?_⟩
  rintro H ds d ⟨bs, n, rfl, rfl⟩
  exact sd_ret (R := Same) (Same.refl _) ((yd_lenT (yd_bars (c_Arms T) (a_bars T) (yd_var rfl))).is (by rw [List.length_map])) fun _ e => ⟨rfl, e⟩
end K19
set_option maxHeartbeats 4000000
set_option exponentiation.threshold 20000
namespace K19
open PySem PySem.Spec PyProof.Rows L2
variable {P : Program} {w : World} {K : PySem.W.Frag} {mg : Str → Option Value} {base : Heap}
theorem bo_range : bootBuiltins "range" = some (.type "range") := by decide +kernel
/-! lists of ints, compared -/
theorem eqv_ints : ∀ ns ms : List Int, PyData.eqvAll (ns.map PyData.int) (ms.map PyData.int) = decide (ns = ms)
  | [], [] => rfl
  | [], _ :: _ => rfl
  | _ :: _, [] => rfl
  | a :: ns, b :: ms => by
    show (PyData.eqv (.int a) (.int b) && PyData.eqvAll (ns.map PyData.int) (ms.map PyData.int)) = _
    rw [eqv_ints ns ms]
    show ((a == b) && decide (ns = ms)) = _
    rw [Bool.eq_iff_iff]
    simp
theorem lay_ints : ∀ ns : List Int, PyData.canLayAll0 (ns.map PyData.int) = true
  | [] => rfl
  | a :: ns => by
    show (PyData.canLay0 (.int a) && PyData.canLayAll0 (ns.map PyData.int)) = true
    rw [lay_ints ns]
    rfl
theorem depth_ints : ∀ ns : List Int, PyData.depthAll (ns.map PyData.int) ≤ 1
  | [] => Nat.zero_le _
  | a :: ns => by
    have h1 : PyData.depth (.int a) ≤ 1 := by simp [PyData.depth]
    have h2 := depth_ints ns
    show max (PyData.depth (.int a)) (PyData.depthAll (ns.map PyData.int)) ≤ 1
    omega
theorem sh_ints (ns : List Int) : SeqAt.shaped (.list (ns.map PyData.int)) = true := by
  have h := depth_ints ns
  unfold SeqAt.shaped
  rw [Bool.and_eq_true]
  refine ⟨lay_ints ns, ?_⟩
  rw [decide_eq_true_eq]
  simp only [PyData.depth]
  omega
theorem dp_ints {H : Hp} : ∀ ns : List Int, DpAll K H (ns.map V.int) (ns.map PyData.int)
  | [] => .nil
  | a :: ns => .cons (.int a) (dp_ints ns)
section
variable {g : Gm} {H : Hp} {ta tb te : TE} {ns ms : List Int} {a : Addr}
theorem yd_eqLL (ha : Yd Same K ta g H (.ref a)) (hl : H a = some (.lst (ns.map V.int))) (hb : Yl Same K tb g H (ms.map D.int)) : Yd Same K (tOp (rEqD K) ta tb) g H (.bl (decide (ns = ms))) := fun s H1 e ty Q q =>
  ha s H1 e ty _ fun v H2 e2 rv => hb s H2 (e.trans e2) (ty.mono e2) _ fun p us H3 hp e3 hl3 hv => by
    cases rv
    have hu := RpL.ints hv
    subst hu
    refine ⟨_, _, .lst (SqL.of (e3 _ _ (e2 _ _ (e _ _ hl)))) (dp_ints ns), .lst (SqL.of hl3) (dp_ints ms), sh_ints _, sh_ints _, ?_⟩
    show Q (.bl (PyData.eqvAll _ _)) H3
    rw [eqv_ints]
    exact q _ H3 (e2.trans e3) .bl
theorem yd_neLL (ha : Yd Same K ta g H (.ref a)) (hl : H a = some (.lst (ns.map V.int))) (hb : Yl Same K tb g H (ms.map D.int)) : Yd Same K (tOp (rNeD K) ta tb) g H (.bl (!decide (ns = ms))) := fun s H1 e ty Q q =>
  ha s H1 e ty _ fun v H2 e2 rv => hb s H2 (e.trans e2) (ty.mono e2) _ fun p us H3 hp e3 hl3 hv => by
    cases rv
    have hu := RpL.ints hv
    subst hu
    refine ⟨_, _, .lst (SqL.of (e3 _ _ (e2 _ _ (e _ _ hl)))) (dp_ints ns), .lst (SqL.of hl3) (dp_ints ms), sh_ints _, sh_ints _, ?_⟩
    show Q (.bl (!PyData.eqvAll _ _)) H3
    rw [eqv_ints]
    exact q _ H3 (e2.trans e3) .bl
theorem yd_maxL {m : Int} (h : Yl Same K te g H (ns.map D.int)) (hm : m ∈ ns) (hx : ∀ y ∈ ns, y ≤ m) : Yd Same K (tCB (rMax K) (tCons te tNil)) g H (.int m) := fun s H1 e ty Q q =>
  h s H1 e ty _ fun p us H2 hp e2 hl hv => by
    have hu := RpL.ints hv
    subst hu
    refine ⟨p, ns, rfl, SqL.of hl, List.length_pos_of_mem hm, fun m2 hm2 hx2 => ?_⟩
    have e : m2 = m := Int.le_antisymm (hx m2 hm2) (hx2 m hm)
    subst e
    exact q _ H2 e2 .int
end
/-! ### check_bars -/
theorem sc_check_bars : FnScope ["bars", "number", "bar", "word", "found"] ["bars"] (defScope s_check_bars) := ⟨rfl, rfl, rfl, by decide +kernel, rfl, by decide +kernel, by decide +kernel⟩
theorem bd_check_bars : Bnd "check_bars" "check_bars" s_check_bars ["bars"] := fun _ _ _ _ _ _ us hl => match us, hl with | [_], _ => rfl
theorem dBars_at {bs : List Bar} {i : Nat} {b : Bar} (h : bs[i]? = some b) : (bs.map dBar).getD i .non = dBar b := by
  rw [List.getD_eq_getElem?_getD, List.getElem?_map, h]
  rfl
def r_bars : Hp → List D → D → Prop := fun _ ds d => ∃ bs n, ds = [dBars bs] ∧ GoodBars bs n ∧ d = dBars bs
theorem upTo_asc (n : Nat) : (upTo 1 ((n : Int) + 1)).Pairwise (· < ·) := by
  unfold upTo
  rw [List.pairwise_map]
  refine List.Pairwise.imp ?_ List.pairwise_lt_range
  intro a b h
  omega
theorem upTo_mem (n : Nat) (k : Int) : k ∈ upTo 1 ((n : Int) + 1) ↔ 1 ≤ k ∧ k ≤ n := by
  unfold upTo
  rw [List.mem_map]
  constructor
  · rintro ⟨a, ha, rfl⟩
    have := List.mem_range.mp ha
    omega
  · intro h
    exact ⟨(k - 1).toNat, List.mem_range.mpr (by omega), by omega⟩
theorem upTo_len (n : Nat) : (upTo 1 ((n : Int) + 1)).length = n := by
  unfold upTo
  rw [List.length_map, List.length_range]
  omega
theorem ok_check_bars (T : TX K mg) : Cal P w K mg base CX0 4 "check_bars" ["bars"] (spP K r_bars) := by
  refine cal_pure (f_check_bars T) (g_check_bars T) sc_check_bars bd_check_bars (fun H ds d ⟨_, _, e, _⟩ => by rw [e]; rfl) fun cdv A outer s H E hr => ⟨_, (pss_cons (ps_if (pt_not (pt_val (pe_cal (ok_is_row T) (hr.mono (by decide)) rfl pass0 (pa_cons (pv 0) (pa_cons pe_int (pa_cons (pe_glob (v := .int (6)) rfl (i_MOST_BARS T).choose_spec ⟨_, rfl⟩) pa_nil)))))) (pss_one ps_never) pss_nil)
      (pss_cons (ps_for PassesOwn.never rfl (pi_enumT rfl (n_enumerate T) (pa_cons (pv 0) pa_nil)) (pg_tup (n := 2) rfl (pgs_cons (pg_name (i := 1) sc_check_bars.nd rfl (by first | exact Or.inl rfl | exact Or.inr rfl)) (pgs_cons (pg_name (i := 2) sc_check_bars.nd rfl (by first | exact Or.inl rfl | exact Or.inr rfl)) pgs_nil))) (pss_cons (ps_set (i := 3) sc_check_bars.nd rfl (by first | exact Or.inl rfl | exact Or.inr rfl) (pe_cal (ok_bad_bar T) (hr.mono (by decide)) rfl pass0 (pa_cons (pv 1) (pa_cons (pv 2) pa_nil))))
      (pss_one (ps_if (pt_cmpR op_notN (pv 3) pe_non (nomark _)) (pss_one ps_never) pss_nil))))
      (pss_cons (ps_set (i := 4) sc_check_bars.nd rfl (by first | exact Or.inl rfl | exact Or.inr rfl) (pe_callB (cr_sortedSet rfl) rfl (n_sorted T) bo_sorted (pa_cons (pe_scI (own := [("bar", 2)]) rfl sc_check_bars.nd (pi_tup (pv 0)) (blkOk_by (own := [("bar", 2)]) (N := ["bars", "number", "bar", "word", "found"]) (sc := defScope s_check_bars) (by decide +kernel)) (fun _ _ _ _ _ => pg_name (i := 2) sc_check_bars.nd rfl (Or.inl rfl)) (fun _ _ _ _ _ => (pts_one (pt_cmpR op_gt (pe_ix (r := rIxT K) ix_tup (pv 2) pe_int (fun _ _ => rfl)) pe_int (nomark _)))) (fun _ _ _ _ _ => (pe_ix (r := rIxT K) ix_tup (pv 2) pe_int (fun _ _ => rfl)))) pa_nil)))
      (pss_cons (ps_if (PW.pt (pw_or (pt_cmpR (r := rEqD K) (op_eqD hr.units) (pv 4) (pe_lst pa_nil) (nomark _)) (pw_or1 (pt_cmpR (r := rNeD K) (op_neD hr.units) (pv 4) (pe_callTy (call_listRg rfl) rfl (n_list T) bo_list (pa_cons (pe_callTy cr_range2 rfl (n_range T) bo_range (pa_cons pe_int (pa_cons (pe_op op_add (pe_callB (r := rLenX K) call_len rfl (n_len T) bo_len (pa_cons (pv 4) pa_nil)) pe_int) pa_nil))) pa_nil)) (nomark _))))) (pss_one ps_never) pss_nil)
      (pss_one (ps_ret (pe_callTy (r := rTupOf K) call_tuple_of rfl (n_tuple T) bo_tuple (pa_cons (pe_lc (own := [("bar", 2)]) rfl sc_check_bars.nd (pi_tup (pv 0)) (blkOk_by (own := [("bar", 2)]) (N := ["bars", "number", "bar", "word", "found"]) (sc := defScope s_check_bars) (by decide +kernel)) (fun _ _ _ _ _ => pg_name (i := 2) sc_check_bars.nd rfl (Or.inl rfl)) (fun _ _ _ _ _ => pts_nil) (fun _ _ _ _ _ => (pe_callTy (r := rTupOf K) call_tuple_of rfl (n_tuple T) bo_tuple (pa_cons (pv 2) pa_nil)))) pa_nil)))))))), ?_⟩
  rintro H ds d ⟨bs, n, rfl, G, rfl⟩
  have hlen : (bs.map dBar).length = bs.length := List.length_map ..
  have few := G.few
  have n1 := G.n1
  have n4 := G.n4
  refine sd_seq (sd_ifF (R := Same) (Same.refl _) (yt_not (yt_B (yd_call (d := .bl true) (ya_cons (yd_var rfl) (ya_cons yd_int (ya_cons yd_int ya_nil))) fun _ _ => ⟨_, _, _, rfl, .inl ⟨_, rfl, by
    have := G.some_
    have e1 : decide ((1 : Int) ≤ ((bs.map dBar).length : Nat)) = true := decide_eq_true (by rw [hlen]; omega)
    have e2 : decide ((((bs.map dBar).length : Nat) : Int) ≤ 6) = true := decide_eq_true (by rw [hlen]; omega)
    unfold isRow
    rw [e1, e2]
    rfl⟩⟩))) fun H1 e1 => sd_next ?_)
  refine sd_seq (sd_for (vs := [1, 2]) (R := Same) (Same.refl _) (yi_enumT (yd_var (i := 0) rfl)) (fun i hi => tg_two) (fun H2 i g' H' => (∃ o1 o2 o3, g' = [some (dBars bs), o1, o2, o3, none]) ∧ Same H2 H') (fun _ _ _ _ h => h.2) (fun H2 e2 => ⟨⟨none, none, none, rfl⟩, Same.refl _⟩) ?_ ?_)
  · rintro H2 i g' H' e2 hi ⟨⟨o1, o2, o3, rfl⟩, e3⟩ H3 e4
    obtain ⟨b, hb⟩ : ∃ b, bs[i]? = some b := ⟨bs[i]'(by omega), List.getElem?_eq_getElem (by omega)⟩
    have hh := G.host _ _ hb
    have hl := G.let_ b (List.mem_of_getElem? hb)
    rw [dBars_at hb]
    refine sd_seq (sd_asg (R := Same) (Same.refl _) (yd_call (d := .non) (ya_cons (yd_var (d := .int (i : Int)) rfl) (ya_cons (yd_var (d := dBar b) rfl) ya_nil)) fun _ _ => ⟨_, b, rfl, hh.1, hh.2, by omega, rfl⟩) fun H4 e5 => ?_)
    exact sd_ifF (R := Same) (Same.refl _) (yt_test (yd_notN (yd_var (d := .non) rfl))) fun H5 e6 => sd_next ⟨⟨_, _, _, rfl⟩, e3.trans (e4.trans (e5.trans e6))⟩
  · rintro H2 g' H' e2 ⟨⟨o1, o2, o3, rfl⟩, e3⟩
    refine sd_seq (sd_asgN (yl_sortSet (ns := upTo 1 ((n : Int) + 1)) (b := fun i => decide (0 < ((bs.getD i ⟨0, 0, 0⟩).letter : Int))) (c := fun i => (bs.getD i ⟨0, 0, 0⟩).letter) (yi_tup (yd_var (i := 0) rfl)) (by omega) (fun i hi => tg_name) ?_ ?_ (upTo_asc n) ?_) fun p us H3 hp e4 hl hv => ?_)
    · intro i hi H4 e4
      obtain ⟨b, hb⟩ : ∃ b, bs[i]? = some b := ⟨bs[i]'(by omega), List.getElem?_eq_getElem (by omega)⟩
      have e5 : bs.getD i ⟨0, 0, 0⟩ = b := by rw [List.getD_eq_getElem?_getD, hb]; rfl
      rw [dBars_at hb]
      simp only [e5]
      exact yt_test (yd_cmp (yd_ixT (d := .int b.letter) (yd_var (d := dBar b) rfl) yd_int rfl) yd_int)
    · intro i hi H4 e4
      obtain ⟨b, hb⟩ : ∃ b, bs[i]? = some b := ⟨bs[i]'(by omega), List.getElem?_eq_getElem (by omega)⟩
      have e5 : bs.getD i ⟨0, 0, 0⟩ = b := by rw [List.getD_eq_getElem?_getD, hb]; rfl
      rw [dBars_at hb]
      simp only [e5]
      exact yd_ixT (yd_var (d := dBar b) rfl) yd_int rfl
    · intro k
      rw [upTo_mem]
      constructor
      · intro hk
        obtain ⟨b, hb, e⟩ := G.all k.toNat (by omega) (by omega)
        obtain ⟨i, hi, ei⟩ := List.getElem_of_mem hb
        have e5 : bs.getD i ⟨0, 0, 0⟩ = b := by rw [List.getD_eq_getElem?_getD, List.getElem?_eq_getElem hi, ei]; rfl
        refine ⟨i, by omega, ?_, ?_⟩
        · rw [e5]; exact decide_eq_true (by omega)
        · rw [e5]; omega
      · rintro ⟨i, hi, q1, q2⟩
        have q1 := of_decide_eq_true q1
        have e5 : bs.getD i ⟨0, 0, 0⟩ = bs[i]'(by omega) := by rw [List.getD_eq_getElem?_getD, List.getElem?_eq_getElem (by omega)]; rfl
        rw [e5] at q1 q2
        have := G.let_ _ (List.getElem_mem (l := bs) (n := i) (by omega))
        omega
    have hu := RpL.ints hv
    subst hu
    have hne : decide (upTo 1 ((n : Int) + 1) = []) = false := decide_eq_false fun z => by
      have := upTo_len n
      rw [z] at this
      simp at this
      omega
    refine sd_seq (sd_ifF (R := Same) (Same.refl _) (yt_or0 (yt_test (yd_eqLL (ms := []) (yd_var rfl) hl (yl_lst ya_nil))) (yt_test (yd_neLL (yd_var rfl) hl (yl_listRg yd_int (yd_I0 (yd_lenL (yd_var rfl) fun _ e => e _ _ hl) yd_int) ?_))) hne) (fun H4 e5 => sd_next ?_) ?_)
    · rw [List.length_map, upTo_len]; omega
    · refine sd_ret (R := Same) (Same.refl _) (yd_tupOf (yl_lc (yi_tup (yd_var (i := 0) rfl)) (fun i hi => tg_name) (by omega) rfl ?_)) fun H5 e6 => ⟨rfl, e1.trans (e2.trans (e3.trans (e4.trans (e5.trans e6))))⟩
      intro i d hd H6 e7
      obtain ⟨b, hb, rfl⟩ : ∃ b, bs[i]? = some b ∧ d = dBar b := by
        rw [List.getElem?_map] at hd
        obtain ⟨b, h1, h2⟩ := Option.map_eq_some_iff.mp hd
        exact ⟨b, h1, h2.symm⟩
      rw [dBars_at hb]
      exact yd_tupT (yd_var (d := dBar b) rfl)
    · rw [List.length_map, upTo_len]
      simp
end K19
set_option maxHeartbeats 4000000
set_option exponentiation.threshold 20000
namespace K19
open PySem PySem.Spec PyProof.Rows L2
variable {P : Program} {w : World} {K : PySem.W.Frag} {mg : Str → Option Value} {base : Heap}
/-! ### Arms(bars) -/
theorem sc_Arms_init : FnScope ["self", "bars", "bar"] ["self", "bars"] (defScope s_Arms_init) := ⟨rfl, rfl, rfl, by decide +kernel, rfl, by decide +kernel, by decide +kernel⟩
theorem bd_Arms_init : Bnd "__init__" "Arms.__init__" s_Arms_init ["self", "bars"] := fun _ _ _ _ _ _ us hl => match us, hl with | [_, _], _ => rfl
mutual
def D.flat : D → Bool
  | .arms _ _ => false
  | .tup l => flatAll l
  | _ => true
def flatAll : List D → Bool
  | [] => true
  | d :: l => d.flat && flatAll l
end
mutual
theorem Rp.mu {a : Addr} {H H' : Hp} (m : Mu a H H') (ha : ∀ vs, H a ≠ some (.tup vs)) (hf : ∀ o u, H a ≠ some (.frz o u)) : ∀ {v : V} {d : D}, d.flat = true → Rp K H v d → Rp K H' v d
  | _, _, _, .non => .non
  | _, _, _, .bl => .bl
  | _, _, _, .int => .int
  | _, _, _, .str => .str
  | _, _, _, .ty => .ty
  | _, _, _, .ref => .ref
  | _, _, q, .tup h l => .tup (by
      rcases h with (h | ⟨o, h⟩) | h
      · exact .inl (.inl (m _ _ (fun z => ha _ (z ▸ h)) h))
      · exact .inl (.inr ⟨o, m _ _ (fun z => hf _ _ (z ▸ h)) h⟩)
      · exact .inr h) (RpL.mu m ha hf q l)
theorem RpL.mu {a : Addr} {H H' : Hp} (m : Mu a H H') (ha : ∀ vs, H a ≠ some (.tup vs)) (hf : ∀ o u, H a ≠ some (.frz o u)) : ∀ {vs : List V} {ds : List D}, flatAll ds = true → RpL K H vs ds → RpL K H' vs ds
  | _, _, _, .nil => .nil
  | _, _, q, .cons h t => .cons (Rp.mu m ha hf (Bool.and_eq_true_iff.mp q).1 h) (RpL.mu m ha hf (Bool.and_eq_true_iff.mp q).2 t)
end
theorem flat_dq (q : Rat) : (dq q).flat = true := rfl
theorem flat_bars : ∀ bs : List Bar, flatAll (bs.map dBar) = true
  | [] => rfl
  | _ :: bs => flat_bars bs
section
variable {R : Hp → Hp → Prop} [Rl R] {g : Gm} {H : Hp} {d x : D} {ta te to : TE} {E : En} {a C dx : Addr} {fs : List (Str × V)} {f : Str}
/-- self.f = e -/
theorem sd_fldW (c : Cls K C) (na : NoAttr K C f) (h : Yd Same K te g H d) (hf : Yd Same K to g H (.ref a)) (ha : H a = some (.ins C dx fs)) (hz : fs.length < 1000) (hg : ∀ (i : Nat) (e : D), g[i]? = some (some e) → e.flat = true) (hd : d.flat = true)
    (q : ∀ H' y, Mu a H H' → H' a = some (.ins C dx (putF f y fs)) → Rp K H' y d → E.nx g H') : Sd K (sFld K to te f) g H E := fun s Z ty fz =>
  h s H (Same.refl _) ty _ fun y H1 e1 ry => hf s H1 e1 (ty.mono e1) _ fun o H2 e2 ro => by
    cases ro
    have ha2 := e2 _ _ (e1 _ _ ha)
    have n1 : ∀ vs, H2 a ≠ some (.tup vs) := fun vs z => by rw [ha2] at z; cases z
    have n2 : ∀ o u, H2 a ≠ some (.frz o u) := fun o u z => by rw [ha2] at z; cases z
    have m : Mu a H2 (upd H2 a (.ins C dx (putF f y fs))) := Mu.upd
    have ty2 := ty.mono (e1.trans e2)
    refine ⟨a, C, dx, fs, rfl, ha2, c, na, hz, fz.nx g _ _ ⟨ty2.1, fun i e ie => ?_⟩ (q _ y ((Mu.of (e1.trans e2)).trans m) upd_same ((ry.mono e2).mu m n1 n2 hd))⟩
    obtain ⟨v, h1, h2⟩ := ty2.2 i e ie
    exact ⟨v, h1, h2.mu m n1 n2 (hg i e ie)⟩
/-- self.f of an instance that is being made -/
theorem yd_fldI {v : V} (c : Cls K C) (na : NoAttr K C f) (h : Yd R K te g H (.ref a)) (hl : ∀ H1, R H H1 → H1 a = some (.ins C dx fs) ∧ Rp K H1 v d) (hv : fs.lookup f = some v) : Yd R K (tFld K te f) g H d := fun s H1 e ty Q q =>
  h s H1 e ty _ fun o H2 e2 ro => by
    cases ro
    obtain ⟨h1, h2⟩ := hl H2 (Rl.trans e e2)
    exact ⟨a, C, dx, fs, v, rfl, h1, c, na, hv, q v H2 e2 h2⟩
end
theorem sd_go {t : TS} {g : Gm} {s : L2.St} {H : Hp} {E : En} {Z : Ends} (ty : Ty K g s H) (f : Fits K E Z) (h : Sd K t g H E) : t Z s H := h s Z ty f
/-- what __init__ keeps -/
def spInit (K : PySem.W.Frag) : Sp := fun vs H Q _ => ∃ a dx v bs n, vs = [.ref a, v] ∧ H a = some (.ins (He.ga K "Arms") dx []) ∧ GoodBars bs n ∧ Rp K H v (dBars bs) ∧
  ∀ H' vb, Mu a H H' → H' a = some (.ins (He.ga K "Arms") dx (fldsA vb n)) → Rp K H' vb (dBars bs) → Q .non H'
theorem ok_Arms_init (T : TX K mg) : CalM P w K mg base CX0 5 "__init__" ["self", "bars"] (spInit K) := by
  obtain ⟨fd, F⟩ := f_Arms_init T
  refine ⟨⟨fd, F.ok sc_Arms_init (fun vs H Q E ⟨_, _, _, _, _, e, _⟩ => by rw [e]; rfl) fun cdv A outer s H vs Q E hr hsp => ?_, F.bindsN bd_Arms_init⟩⟩
  obtain ⟨a, dx, v, bs, n, rfl, ha, G, rv, hQ⟩ := hsp
  refine ⟨_, (show PSs (cxOf CX0 P w K mg base ["self", "bars", "bar"] "Arms.__init__" (defScope s_Arms_init) (He.ma K (He.ga K "Arms") "__init__") cdv A outer s H E).nox (defBody s_Arms_init) _ from (pss_cons (ps_fld (pv 0) (pe_cal (ok_check_bars T) (hr.mono (by decide)) rfl pass0 (pa_cons (pv 1) pa_nil)) rfl)
      (pss_one (ps_fld (pv 0) (pe_callB (r := rMax K) (cr_max rfl) rfl (n_max T) bo_max (pa_cons (pe_lc (own := [("bar", 2)]) rfl sc_Arms_init.nd (pi_tup (pe_fld (pv 0) rfl)) (blkOk_by (own := [("bar", 2)]) (N := ["self", "bars", "bar"]) (sc := defScope s_Arms_init) (by decide +kernel)) (fun _ _ _ _ _ => pg_name (i := 2) sc_Arms_init.nd rfl (Or.inl rfl)) (fun _ _ _ _ _ => pts_nil) (fun _ _ _ _ _ => (pe_ix (r := rIxT K) ix_tup (pv 2) pe_int (fun _ _ => rfl)))) pa_nil)) rfl)))).nox, ?_⟩
  have ty : Ty K (gm0 ["self", "bars", "bar"] [.ref a, dBars bs]) (start ["self", "bars", "bar"] [.ref a, v]) H := Ty.start (.cons .ref (.cons rv .nil))
  refine sd_go (E := { nx := fun _ H' => ∃ vb, Mu a H H' ∧ H' a = some (.ins (He.ga K "Arms") dx (fldsA vb n)) ∧ Rp K H' vb (dBars bs), rt := fun _ _ => False }) ty ⟨fun g s' H' _ ⟨vb, h1, h2, h3⟩ => hQ H' vb h1 h2 h3, fun _ _ _ _ q => q.elim, fun _ _ _ _ q => q.elim, fun _ _ _ _ q => q.elim⟩ ?_
  · skip
    have fl : ∀ (i : Nat) (e : D), (gm0 ["self", "bars", "bar"] [.ref a, dBars bs])[i]? = some (some e) → e.flat = true := by
      intro i e h
      match i, h with
      | 0, h => cases h; rfl
      | 1, h => cases h; exact flat_bars bs
      | 2, h => cases h
    refine sd_seq (sd_fldW (c_Arms T) (a_bars T) (yd_call (d := dBars bs) (ya_cons (yd_var rfl) ya_nil) fun _ _ => ⟨bs, n, rfl, G, rfl⟩) (yd_var rfl) ha (by decide) fl (flat_bars bs) fun H1 y mu1 ha1 ry => ?_)
    refine sd_fldW (c_Arms T) (a_letters T) (yd_maxL (ns := bs.map fun b => (b.letter : Int)) (m := n) (yl_lc (n := (bs.map dBar).length) (yi_tup (yd_fldI (c_Arms T) (a_bars T) (yd_var rfl) (fun H2 e2 => ⟨e2 _ _ ha1, ry.mono e2⟩) rfl)) (fun i hi => tg_name) (by
      have := G.few
      rw [List.length_map]; omega) (by rw [List.length_map, List.length_map, List.length_map]) ?_) ?_ ?_) (yd_var rfl) ha1 (show 1 < 1000 by decide) fl rfl fun H2 z mu2 ha2 rz => ?_
    · intro i d hd H2 e2
      obtain ⟨b, hb, rfl⟩ : ∃ b, bs[i]? = some b ∧ d = .int b.letter := by
        rw [List.getElem?_map, List.getElem?_map] at hd
        cases q : bs[i]? with
        | none => rw [q] at hd; cases hd
        | some b => rw [q] at hd; cases hd; exact ⟨b, rfl, rfl⟩
      rw [dBars_at hb]
      exact yd_ixT (yd_var (d := dBar b) rfl) yd_int rfl
    · obtain ⟨b, hb, e⟩ := G.all n G.n1 (Nat.le_refl _)
      exact List.mem_map.mpr ⟨b, hb, by rw [e]⟩
    · intro y hy
      obtain ⟨b, hb, rfl⟩ := List.mem_map.mp hy
      have := G.let_ b hb
      omega
    · cases rz
      refine ⟨y, mu1.trans mu2, ha2, ?_⟩
      exact ry.mu mu2 (fun vs z => by rw [ha1] at z; cases z) (fun o u z => by rw [ha1] at z; cases z) (flat_bars bs)
section
variable {X : Cx} {p pos : Pos} {e : Expr} {es : List Expr} {t : TA}
theorem pe_arms (T : TX X.K X.mg) (hr : Room 6 X.A) (hg : Gl X "Arms") (ha : PA X (e :: es) t) (he : starEach (e :: es) X.env = (false, eval e X.env) :: starEach es X.env := by rfl) (hpl : (backTo pos (starEach es X.env)).any (·.1) = false := by rfl) :
    PE X (.Call (.Name "Arms" p) (e :: es) [] pos) (tMake (He.ga X.K "Arms") (spInit X.K) [] E0 t) := by
  obtain ⟨fd, F, b⟩ := (ok_Arms_init (P := X.prog) (w := X.w) (base := X.base) T).fn
  exact pe_make (k_Arms T) F hr hg (g_Arms T) b .nil pass0 ha (by decide) he hpl
end
section
variable {R : Hp → Hp → Prop} [Rl R] {g : Gm} {H : Hp} {ta : TE} {W : XK} {bs : List Bar} {n : Nat}
theorem yd_arms (h : Yd R K ta g H (dBars bs)) (G : GoodBars bs n) : Yd R K (tMake (He.ga K "Arms") (spInit K) [] W (tCons ta tNil)) g H (dA bs n) := fun s H1 e ty Q q =>
  h s H1 e ty _ fun v H2 e2 rv => fun x dx hx hdx ne => by
    have m1 : Same H2 (upd (upd H2 dx (.own x)) x (.ins (He.ga K "Arms") dx [])) := (Same.new hdx).trans (Same.new (by rw [upd_ne (Ne.symm ne)]; exact hx))
    refine ⟨x, dx, v, bs, n, rfl, upd_same, G, rv.mono m1, fun H' vb mu ha rb => ⟨rfl, ?_⟩⟩
    have m2 : Same H2 H' := mu.same m1 hx
    exact q _ H' (Rl.trans e2 (Rl.same (Rl.self e2) m2)) (.arms ha rb)
end
end K19
set_option maxHeartbeats 4000000
set_option exponentiation.threshold 20000
namespace K19
open PySem PySem.Spec PyProof.Rows L2
variable {P : Program} {w : World} {K : PySem.W.Frag} {mg : Str → Option Value} {base : Heap}
/-! ### the errors, as the defs lean on them -/
abbrev tBad (C : Addr) : L2.St → Hp → XK → Prop := fun _ H Q => ∀ H', Same H H' → Q (.ref C) none H'
structure BX (P : Program) (w : World) (K : PySem.W.Frag) (mg : Str → Option Value) (base : Heap) : Prop where
  place : ∀ X : Cx, X.prog = P → X.w = w → X.K = K → X.mg = mg → X.base = base → X.calm = true → Room 3 X.A → Gl X "BadPlace" → ∀ p pos, PMk X (.Call (.Name "BadPlace" p) [] [] pos) (tBad (He.ga K "BadPlace"))
  length : ∀ X : Cx, X.prog = P → X.w = w → X.K = K → X.mg = mg → X.base = base → X.calm = true → Room 3 X.A → Gl X "BadLength" → ∀ p pos, PMk X (.Call (.Name "BadLength" p) [] [] pos) (tBad (He.ga K "BadLength"))
  pp : PySem.W.exmOne K (.ref (He.ga K "BadPlace")) (.ref (He.ga K "BadPlace")) = some true
  ll : PySem.W.exmOne K (.ref (He.ga K "BadLength")) (.ref (He.ga K "BadLength")) = some true
  pl : PySem.W.exmOne K (.ref (He.ga K "BadPlace")) (.ref (He.ga K "BadLength")) = some false
theorem pmk_place {X : Cx} {p pos : Pos} (B : BX X.prog X.w X.K X.mg X.base) (hc : X.calm = true) (hr : Room 3 X.A) (hg : Gl X "BadPlace") : PMk X (.Call (.Name "BadPlace" p) [] [] pos) (tBad (He.ga X.K "BadPlace")) := B.place X rfl rfl rfl rfl rfl hc hr hg p pos
theorem pmk_length {X : Cx} {p pos : Pos} (B : BX X.prog X.w X.K X.mg X.base) (hc : X.calm = true) (hr : Room 3 X.A) (hg : Gl X "BadLength") : PMk X (.Call (.Name "BadLength" p) [] [] pos) (tBad (He.ga X.K "BadLength")) := B.length X rfl rfl rfl rfl rfl hc hr hg p pos
abbrev CP (K : PySem.W.Frag) : Addr := He.ga K "BadPlace"
abbrev CL (K : PySem.W.Frag) : Addr := He.ga K "BadLength"
theorem sx_raise {g : Gm} {H : Hp} {C : Addr} {E : XK} (h : ∀ dd H', Same H H' → E (.ref C) dd H') : Sx K (fun _ σ H => tBad C σ H fun cls d H' => (fun (cls : Value) (d : Option Addr) (_ : L2.St) H => E cls d H) cls d σ H') g H := fun s Z ty H' e => h none H' e
theorem call_lenArms {X : Cx} (T : TX X.K X.mg) (hr : Room 2 X.A) : CallR X (.builtin "len") (rLenI (He.ga X.K "Arms") (spP X.K r_lenA) E0) := by
  obtain ⟨fd, F, b⟩ := (ok_Arms_len (P := X.prog) (w := X.w) (base := X.base) T).fn
  exact call_lenI (m_len T) F hr b pass0
section
variable {R : Hp → Hp → Prop} [Rl R] {g : Gm} {H H' : Hp} {c : TT} {t u : TS}
theorem sx_ifT {b : Bool} (e : R H H) (h : Yt R K c g H b) (h1 : ∀ H', R H H' → Sx K t g H') (hb : b = true := by rfl) : Sx K (tIfS c t u) g H := fun s Z ty =>
  (h.is hb) s H e ty _ fun H1 e1 => h1 H1 e1 s Z (ty.mono e1)
theorem sx_ifF {b : Bool} (e : R H H) (h : Yt R K c g H b) (h1 : ∀ H', R H H' → Sx K u g H') (hb : b = false := by rfl) : Sx K (tIfS c t u) g H := fun s Z ty =>
  (h.is hb) s H e ty _ fun H1 e1 => h1 H1 e1 s Z (ty.mono e1)
end
/-! ### check_place, row_of, difference_row -/
theorem sc_check_place : FnScope ["arms", "place"] ["arms", "place"] (defScope s_check_place) := ⟨rfl, rfl, rfl, by decide +kernel, rfl, by decide +kernel, by decide +kernel⟩
theorem bd_check_place : Bnd "check_place" "check_place" s_check_place ["arms", "place"] := fun _ _ _ _ _ _ us hl => match us, hl with | [_, _], _ => rfl
theorem sc_Arms_row_of : FnScope ["self", "place", "number", "mark"] ["self", "place"] (defScope s_Arms_row_of) := ⟨rfl, rfl, rfl, by decide +kernel, rfl, by decide +kernel, by decide +kernel⟩
theorem bd_Arms_row_of : Bnd "row_of" "Arms.row_of" s_Arms_row_of ["self", "place"] := fun _ _ _ _ _ _ us hl => match us, hl with | [_, _], _ => rfl
theorem sc_Arms_difference_row : FnScope ["self", "one", "other"] ["self", "one", "other"] (defScope s_Arms_difference_row) := ⟨rfl, rfl, rfl, by decide +kernel, rfl, by decide +kernel, by decide +kernel⟩
theorem bd_Arms_difference_row : Bnd "difference_row" "Arms.difference_row" s_Arms_difference_row ["self", "one", "other"] := fun _ _ _ _ _ _ us hl => match us, hl with | [_, _, _], _ => rfl
def r_cplace (K : PySem.W.Frag) : Hp → List D → D → Prop := fun H ds d => ∃ bs n x k m, ds = [dA bs n, x] ∧ bs.length ≤ 6 ∧ PlOk K bs H x k m ∧ d = .tup [.int k, dq m]
def b_cplace : Hp → List D → Prop := fun _ ds => ∃ bs n x, ds = [dA bs n, x] ∧ bs.length ≤ 6 ∧ PlBad bs.length x
theorem ok_check_place (T : TX K mg) (B : BX P w K mg base) : Cal P w K mg base (L2.CX P w) 4 "check_place" ["arms", "place"] (spE K (r_cplace K) b_cplace (CP K)) := by
  refine cal_exc (f_check_place T) (g_check_place T) sc_check_place bd_check_place (fun H ds d ⟨_, _, _, _, _, e, _⟩ => by rw [e]; rfl) (fun H ds ⟨_, _, _, e, _⟩ => by rw [e]; rfl) fun cdv A outer s H E hr => ⟨_, (pss_cons (ps_if (pt_not (pt_val (pe_cal (ok_is_place_form T) (hr.mono (by decide)) rfl pass0 (pa_cons (pv 1) (pa_cons (pe_callB (r := rLenI (He.ga K "Arms") (spP K r_lenA) E0) (call_lenArms T (hr.mono (by decide))) rfl (n_len T) bo_len (pa_cons (pv 0) pa_nil)) pa_nil))))) (pss_one (ps_raise rfl (takes_of rfl rfl rfl rfl) (pmk_place B rfl (hr.mono (by decide)) rfl))) pss_nil)
      (pss_one (ps_ret (pe_callTy (r := rTupOf K) call_tuple_of rfl (n_tuple T) bo_tuple (pa_cons (pv 1) pa_nil))))), ?_, ?_⟩
  · rintro H ds d ⟨bs, n, x, k, m, rfl, hz, hx, rfl⟩
    refine sd_seq (sd_ifF (R := Same) (Same.refl _) (yt_not (yt_B (yd_call (d := .bl true) (ya_cons (yd_var rfl) (ya_cons (yd_lenA (m := bs.length) (yd_var rfl) (fun _ _ => ⟨bs, n, rfl, rfl⟩) (by omega)) ya_nil)) fun H1 e1 => ⟨x, _, rfl, .inr ⟨bs, k, m, hx.mono e1, rfl, rfl⟩⟩))) fun H1 e1 => sd_next ?_)
    cases hx with
    | tup h => exact sd_ret (R := Same) (Same.refl _) (yd_tupT (yd_var rfl)) fun H2 e2 => ⟨rfl, e1.trans e2⟩
    | lst h hl hv => exact sd_ret (R := Same) (Same.refl _) (yd_tupL (yd_var rfl) fun H2 e2 => ⟨e2 _ _ (e1 _ _ hl), hv.mono (e1.trans e2)⟩) fun H2 e2 => ⟨rfl, e1.trans e2⟩
  · rintro H ds ⟨bs, n, x, rfl, hz, hx⟩ hE
    exact sx_seq1 (sx_ifT (R := Same) (Same.refl _) (yt_not (yt_B (yd_call (d := .bl false) (ya_cons (yd_var rfl) (ya_cons (yd_lenA (m := bs.length) (yd_var rfl) (fun _ _ => ⟨bs, n, rfl, rfl⟩) (by omega)) ya_nil)) fun H1 e1 => ⟨x, _, rfl, .inl ⟨hx, rfl⟩⟩))) fun H1 e1 => sx_raise fun dd H2 e2 => hE dd H2 (e1.trans e2))
def r_rowof (K : PySem.W.Frag) : Hp → List D → D → Prop := fun H ds d => ∃ bs n x k m, ds = [dA bs n, x] ∧ GoodBars bs n ∧ PlOk K bs H x k m ∧ wtS (steps bs k m) ≤ 3000 ∧ d = dqs (rowOf n (steps bs k m))
theorem PlOk.in_ {bs : List Bar} {H : Hp} {x : D} {k : Int} {m : Rat} (h : PlOk K bs H x k m) : -1 ≤ k ∧ k < bs.length := by
  cases h with
  | tup h => exact h
  | lst h _ _ => exact h
theorem ok_Arms_row_of (T : TX K mg) (B : BX P w K mg base) : CalM P w K mg base (L2.CX P w) 5 "row_of" ["self", "place"] (spE K (r_rowof K) b_cplace (CP K)) := by
  refine calM_exc (f_Arms_row_of T) sc_Arms_row_of bd_Arms_row_of (fun H ds d ⟨_, _, _, _, _, e, _⟩ => by rw [e]; rfl) (fun H ds ⟨_, _, _, e, _⟩ => by rw [e]; rfl) fun cdv A outer s H E hr => ⟨_, (pss_cons (ps_asg (pe_cal (ok_check_place T B) (hr.mono (by decide)) rfl (passes_call (takes_of rfl rfl rfl rfl) (fun _ _ _ _ q => q)) (pa_cons (pv 0) (pa_cons (pv 1) pa_nil))) (pg_tup (n := 2) rfl (pgs_cons (pg_name (i := 2) sc_Arms_row_of.nd rfl (by first | exact Or.inl rfl | exact Or.inr rfl)) (pgs_cons (pg_name (i := 3) sc_Arms_row_of.nd rfl (by first | exact Or.inl rfl | exact Or.inr rfl)) pgs_nil))))
      (pss_one (ps_ret (pe_calM (ok_Arms_line_row T) (c_Arms T) (m_line_row T) (pv 0) (hr.mono (by decide)) pass0 (pa_cons (pv 2) (pa_cons (pv 3) pa_nil)))))), ?_, ?_⟩
  · rintro H ds d ⟨bs, n, x, k, m, rfl, G, hx, hw, rfl⟩
    refine sd_seq (sd_tup2 (R := Same) (Same.refl _) (yd_callE (d := .tup [.int k, dq m]) (ya_cons (yd_var rfl) (ya_cons (yd_var rfl) ya_nil)) fun H1 e1 => ⟨bs, n, x, k, m, rfl, G.few, hx.mono e1, rfl⟩) fun H1 e1 => ?_)
    exact sd_ret (R := Same) (Same.refl _) (yd_meth (yd_var rfl) (ya_cons (yd_var (d := .int k) rfl) (ya_cons (yd_var (d := dq m) rfl) ya_nil)) fun _ _ => ⟨bs, n, k, m, rfl, G, hx.in_.1, hx.in_.2, hw, rfl⟩) fun H2 e2 => ⟨rfl, e1.trans e2⟩
  · rintro H ds ⟨bs, n, x, rfl, hz, hx⟩ hE
    exact sx_seq1 (sx_asg (R := Same) (Same.refl _) (yx_callE (ya_cons (yd_var rfl) (ya_cons (yd_var rfl) ya_nil)) (fun H1 e1 => ⟨bs, n, x, rfl, hz, hx⟩) fun dd H1 e1 => hE dd H1 e1))
def r_diff (K : PySem.W.Frag) : Hp → List D → D → Prop := fun H ds d => ∃ bs n x k m y j l, ds = [dA bs n, x, y] ∧ GoodBars bs n ∧ PlOk K bs H x k m ∧ PlOk K bs H y j l ∧ wtS (steps bs k m) + wtS (steps bs j l) ≤ 3000 ∧ d = dqs (subR (rowOf n (steps bs k m)) (rowOf n (steps bs j l)))
def b_diff (K : PySem.W.Frag) : Hp → List D → Prop := fun H ds => ∃ bs n x y, ds = [dA bs n, x, y] ∧ GoodBars bs n ∧ (PlBad bs.length x ∨ (PlBad bs.length y ∧ ∃ k m, PlOk K bs H x k m ∧ wtS (steps bs k m) ≤ 3000))
theorem ok_Arms_difference_row (T : TX K mg) (B : BX P w K mg base) : CalM P w K mg base (L2.CX P w) 6 "difference_row" ["self", "one", "other"] (spE K (r_diff K) (b_diff K) (CP K)) := by
  refine calM_exc (f_Arms_difference_row T) sc_Arms_difference_row bd_Arms_difference_row (fun H ds d ⟨_, _, _, _, _, _, _, _, e, _⟩ => by rw [e]; rfl) (fun H ds ⟨_, _, _, _, e, _⟩ => by rw [e]; rfl) fun cdv A outer s H E hr => ⟨_, (pss_one (ps_ret (pe_cal (ok_take_row T) (hr.mono (by decide)) rfl pass0 (pa_cons (pe_calM (ok_Arms_row_of T B) (c_Arms T) (m_row_of T) (pv 0) (hr.mono (by decide)) (passes_call (takes_of rfl rfl rfl rfl) (fun _ _ _ _ q => q)) (pa_cons (pv 1) pa_nil)) (pa_cons (pe_calM (ok_Arms_row_of T B) (c_Arms T) (m_row_of T) (pv 0) (hr.mono (by decide)) (passes_call (takes_of rfl rfl rfl rfl) (fun _ _ _ _ q => q)) (pa_cons (pv 2) pa_nil)) pa_nil))))), ?_, ?_⟩
  · rintro H ds d ⟨bs, n, x, k, m, y, j, l, rfl, G, hx, hy, hw, rfl⟩
    have n4 := G.n4
    have w1 := wtR_row n (steps bs k m)
    have w2 := wtR_row n (steps bs j l)
    refine sd_ret (R := Same) (Same.refl _) (yd_call (ya_cons (yd_methE (yd_var rfl) (ya_cons (yd_var rfl) ya_nil) fun H1 e1 => ⟨bs, n, x, k, m, rfl, G, hx.mono e1, by omega, rfl⟩) (ya_cons (yd_methE (yd_var rfl) (ya_cons (yd_var rfl) ya_nil) fun H1 e1 => ⟨bs, n, y, j, l, rfl, G, hy.mono e1, by omega, rfl⟩) ya_nil)) fun _ _ => ⟨_, _, rfl, by rw [rowOf_len, rowOf_len], by rw [rowOf_len]; omega, by omega, rfl⟩) fun H2 e2 => ⟨rfl, e2⟩
  · rintro H ds ⟨bs, n, x, y, rfl, G, hx | ⟨hy, k, m, hx, hw⟩⟩ hE
    · exact sx_ret (R := Same) (Same.refl _) (yx_call (yax_1 (yx_methE (yd_var rfl) (ya_cons (yd_var rfl) ya_nil) (fun H1 e1 => ⟨bs, n, x, rfl, G.few, hx⟩) fun dd H1 e1 => hE dd H1 e1)))
    · exact sx_ret (R := Same) (Same.refl _) (yx_call (yax_2 (yd_methE (yd_var rfl) (ya_cons (yd_var rfl) ya_nil) fun H1 e1 => ⟨bs, n, x, k, m, rfl, G, hx.mono e1, hw, rfl⟩) (yax_1 (yx_methE (yd_var rfl) (ya_cons (yd_var rfl) ya_nil) (fun H1 e1 => ⟨bs, n, y, rfl, G.few, hy⟩) fun dd H1 e1 => hE dd H1 e1))))
end K19
set_option maxHeartbeats 4000000
set_option exponentiation.threshold 20000
namespace K19
open PySem PySem.Spec PyProof.Rows L2
variable {P : Program} {w : World} {K : PySem.W.Frag} {mg : Str → Option Value} {base : Heap}
theorem pass1 {X : Cx} : Passes (L2.CX X.prog X.w) X E0 := fun _ _ _ _ _ _ _ h => by obtain ⟨_, _, _, _, _, _, _, _, _, _, _, _, h⟩ := h; exact h.elim
/-! ### far_ends and what asks it -/
theorem sc_far_ends : FnScope ["row", "sizes", "number", "high", "longest", "low"] ["row"] (defScope s_far_ends) := ⟨rfl, rfl, rfl, by decide +kernel, rfl, by decide +kernel, by decide +kernel⟩
theorem bd_far_ends : Bnd "far_ends" "far_ends" s_far_ends ["row"] := fun _ _ _ _ _ _ us hl => match us, hl with | [_], _ => rfl
theorem sc_greatest_distance : FnScope ["arms", "one", "other"] ["arms", "one", "other"] (defScope s_greatest_distance) := ⟨rfl, rfl, rfl, by decide +kernel, rfl, by decide +kernel, by decide +kernel⟩
theorem bd_greatest_distance : Bnd "greatest_distance" "greatest_distance" s_greatest_distance ["arms", "one", "other"] := fun _ _ _ _ _ _ us hl => match us, hl with | [_, _, _], _ => rfl
theorem sc_least_distance : FnScope ["arms", "one", "other"] ["arms", "one", "other"] (defScope s_least_distance) := ⟨rfl, rfl, rfl, by decide +kernel, rfl, by decide +kernel, by decide +kernel⟩
theorem bd_least_distance : Bnd "least_distance" "least_distance" s_least_distance ["arms", "one", "other"] := fun _ _ _ _ _ _ us hl => match us, hl with | [_, _, _], _ => rfl
theorem sc_can_meet : FnScope ["arms", "one", "other"] ["arms", "one", "other"] (defScope s_can_meet) := ⟨rfl, rfl, rfl, by decide +kernel, rfl, by decide +kernel, by decide +kernel⟩
theorem bd_can_meet : Bnd "can_meet" "can_meet" s_can_meet ["arms", "one", "other"] := fun _ _ _ _ _ _ us hl => match us, hl with | [_, _, _], _ => rfl
theorem getD_abs (r : List Rat) (i : Nat) (h : i < r.length) : (absR r)[i]? = some ((r.getD i 0).abs) := by
  unfold absR
  rw [List.getElem?_map, List.getD_eq_getElem?_getD, List.getElem?_eq_getElem h]
  rfl
def r_far : Hp → List D → D → Prop := fun _ ds d => ∃ r, ds = [dqs r] ∧ r ≠ [] ∧ r.length ≤ 1000 ∧ wtR r ≤ 2500 ∧ d = .tup [dq (loR r), dq (hiR r)]
theorem num_pos (q : Rat) : decide (0 < q.num) = decide (0 < q) := by
  rw [decide_eq_decide, Rat.lt_iff]
  simp
theorem ok_far_ends (T : TX K mg) : Cal P w K mg base CX0 4 "far_ends" ["row"] (spP K r_far) := by
  refine cal_pure (f_far_ends T) (g_far_ends T) sc_far_ends bd_far_ends (fun H ds d ⟨_, e, _⟩ => by rw [e]; rfl) fun cdv A outer s H E hr => ⟨_, (pss_cons (ps_setLc (i := 1) (own := [("number", 2)]) rfl sc_far_ends.nd rfl rfl (sw_true rfl rfl rfl (by decide +kernel)) (pi_tup (pv 0)) (blkOk_by (own := [("number", 2)]) (N := ["row", "sizes", "number", "high", "longest", "low"]) (sc := defScope s_far_ends) (by decide +kernel)) (fun _ _ _ _ _ => pg_name (i := 2) sc_far_ends.nd rfl (Or.inl rfl)) (fun _ _ _ _ _ => pts_nil) (fun _ _ _ _ _ => (pe_cal (ok_size_of T) (hr.mono (by decide)) rfl pass0 (pa_cons (pv 2) pa_nil))))
      (pss_cons (ps_set (i := 3) sc_far_ends.nd rfl (by first | exact Or.inl rfl | exact Or.inr rfl) (pe_cal (ok_sum_of T) (hr.mono (by decide)) rfl pass0 (pa_cons (pv 1) pa_nil)))
      (pss_cons (ps_set (i := 4) sc_far_ends.nd rfl (by first | exact Or.inl rfl | exact Or.inr rfl) (pe_cal (ok_greatest_of T) (hr.mono (by decide)) rfl pass0 (pa_cons (pv 1) pa_nil)))
      (pss_cons (ps_set (i := 5) sc_far_ends.nd rfl (by first | exact Or.inl rfl | exact Or.inr rfl) (pe_cal (ok_minus T) (hr.mono (by decide)) rfl pass0 (pa_cons (pe_cal (ok_plus T) (hr.mono (by decide)) rfl pass0 (pa_cons (pv 4) (pa_cons (pv 4) pa_nil))) (pa_cons (pv 3) pa_nil))))
      (pss_one (ps_ret (pe_tup (pa_cons (pe_ifExp (pt_cmpR op_gt (pe_ix (r := rIxT K) ix_tup (pv 5) pe_int (fun _ _ => rfl)) pe_int (nomark _)) (pv 5) (pe_glob (v := .ref (He.ga K "ZERO")) rfl (g_ZERO T) rfl)) (pa_cons (pv 3) pa_nil))))))))), ?_⟩
  rintro H ds d ⟨r, rfl, hne, hz, hw, rfl⟩
  refine sd_seq (sd_asgN (yl_lc (n := (r.map dq).length) (es := (absR r).map dq) (yi_tup (yd_var (i := 0) rfl)) (fun i hi => tg_name) (by rw [List.length_map]; omega) (by unfold absR; simp) ?_) fun p us H1 hp e1 hl hv => ?_)
  · intro i d hd H1 e1
    obtain ⟨q, hq, rfl⟩ := dqs_at hd
    have hi : i < r.length := by
      have := (List.getElem?_eq_some_iff.mp hq).1
      unfold absR at this
      simpa using this
    rw [getD_abs r i hi] at hq
    cases hq
    exact yd_call (ya_cons ((yd_var (d := (r.map dq).getD i .non) rfl).is (dqs_getD hi)) ya_nil) fun _ _ => ⟨_, rfl, rfl⟩
  have ha : absR r ≠ [] := by
    unfold absR
    simpa using hne
  have wa := wtR_abs r
  have b1 := wt_mem (gmax_mem ha (absR r).length)
  rw [gmax_all] at b1
  have b2 := bt_sumq (absR r)
  have b3 := bt_add (gmax (absR r)) (gmax (absR r))
  refine sd_seq (sd_asg (R := Same) (Same.refl _) (yd_call (d := dq (hiR r)) (ya_cons (yd_var (d := .ref p) rfl) ya_nil) fun H2 e2 => ⟨p, us, absR r, rfl, e2 _ _ hl, hv.mono e2, by omega, rfl⟩) fun H2 e2 => ?_)
  refine sd_seq (sd_asg (R := Same) (Same.refl _) (yd_call (d := dq (gmax (absR r))) (ya_cons (yd_var (d := .ref p) rfl) ya_nil) fun H3 e3 => ⟨p, us, absR r, rfl, e3 _ _ (e2 _ _ hl), hv.mono (e2.trans e3), ha, by omega, rfl⟩) fun H3 e3 => ?_)
  refine sd_seq (sd_asg (R := Same) (Same.refl _) (yd_ar (yd_ar (yd_var (d := dq (gmax (absR r))) rfl) (yd_var (d := dq (gmax (absR r))) rfl) (show bt _ + bt _ ≤ 9000 by omega)) (yd_var (d := dq (hiR r)) rfl) (show bt _ + bt (sumq (absR r)) ≤ 9000 by omega)) fun H4 e4 => ?_)
  refine sd_ret (R := Same) (Same.refl _) (yd_tup (ya_cons (yd_if (d := dq (loR r)) ((yt_test (yd_cmp (yd_ixT (yd_var (d := dq (gmax (absR r) + gmax (absR r) - hiR r)) rfl) yd_int rfl) yd_int)).is (num_pos _)) (fun z => (yd_var (d := dq (gmax (absR r) + gmax (absR r) - hiR r)) rfl).is ?_) fun z => (yd_ZERO T).is ?_) (ya_cons (yd_var (d := dq (hiR r)) rfl) ya_nil))) fun H5 e5 => ⟨rfl, e1.trans (e2.trans (e3.trans (e4.trans e5)))⟩
  · have z := of_decide_eq_true z
    unfold loR
    rw [if_pos z]
  · have z := of_decide_eq_false z
    unfold loR
    rw [if_neg z]
abbrev drow (bs : List Bar) (n : Nat) (k : Int) (m : Rat) (j : Int) (l : Rat) : List Rat := subR (rowOf n (steps bs k m)) (rowOf n (steps bs j l))
theorem drow_len (bs : List Bar) (n : Nat) (k : Int) (m : Rat) (j : Int) (l : Rat) : (drow bs n k m j l).length = n + 1 := by
  unfold drow
  rw [subR_len (by rw [rowOf_len, rowOf_len]), rowOf_len]
theorem drow_wt (bs : List Bar) (n : Nat) (k : Int) (m : Rat) (j : Int) (l : Rat) : wtR (drow bs n k m j l) ≤ 4 * (n + 1) + (wtS (steps bs k m) + wtS (steps bs j l)) := by
  have h := wtR_sub (rowOf n (steps bs k m)) (rowOf n (steps bs j l)) (by rw [rowOf_len, rowOf_len])
  have w1 := wtR_row n (steps bs k m)
  have w2 := wtR_row n (steps bs j l)
  unfold drow
  omega
/-- two places of one Arms -/
structure Two (K : PySem.W.Frag) (H : Hp) (bs : List Bar) (n : Nat) (x : D) (k : Int) (m : Rat) (y : D) (j : Int) (l : Rat) : Prop where
  G : GoodBars bs n
  x : PlOk K bs H x k m
  y : PlOk K bs H y j l
  w : wtS (steps bs k m) + wtS (steps bs j l) ≤ 2400
theorem Two.mono {H H' : Hp} {bs : List Bar} {n : Nat} {x : D} {k : Int} {m : Rat} {y : D} {j : Int} {l : Rat} (h : Two K H bs n x k m y j l) (e : Same H H') : Two K H' bs n x k m y j l := ⟨h.G, h.x.mono e, h.y.mono e, h.w⟩
def r_two (K : PySem.W.Frag) (f : List Rat → D) : Hp → List D → D → Prop := fun H ds d => ∃ bs n x k m y j l, ds = [dA bs n, x, y] ∧ Two K H bs n x k m y j l ∧ d = f (drow bs n k m j l)
theorem Two.diff {H : Hp} {bs : List Bar} {n : Nat} {x : D} {k : Int} {m : Rat} {y : D} {j : Int} {l : Rat} (h : Two K H bs n x k m y j l) : r_diff K H [dA bs n, x, y] (dqs (drow bs n k m j l)) := ⟨bs, n, x, k, m, y, j, l, rfl, h.G, h.x, h.y, Nat.le_trans h.w (by decide), rfl⟩
theorem Two.far {H H2 : Hp} {bs : List Bar} {n : Nat} {x : D} {k : Int} {m : Rat} {y : D} {j : Int} {l : Rat} (h : Two K H bs n x k m y j l) : r_far H2 [dqs (drow bs n k m j l)] (.tup [dq (loR (drow bs n k m j l)), dq (hiR (drow bs n k m j l))]) := by
  have n4 := h.G.n4
  have w1 := h.w
  have w2 := drow_wt bs n k m j l
  have w3 := drow_len bs n k m j l
  exact ⟨_, rfl, fun z => by rw [z] at w3; simp at w3, by omega, by omega, rfl⟩
theorem ok_greatest_distance (T : TX K mg) (B : BX P w K mg base) : Cal P w K mg base (L2.CX P w) 7 "greatest_distance" ["arms", "one", "other"] (spE K (r_two K fun r => dq (hiR r)) (b_diff K) (CP K)) := by
  refine cal_exc (f_greatest_distance T) (g_greatest_distance T) sc_greatest_distance bd_greatest_distance (fun H ds d ⟨_, _, _, _, _, _, _, _, e, _⟩ => by rw [e]; rfl) (fun H ds ⟨_, _, _, _, e, _⟩ => by rw [e]; rfl) fun cdv A outer s H E hr => ⟨_, (pss_one (ps_ret (pe_ix (r := rIxT K) ix_tup (pe_cal (ok_far_ends T) (hr.mono (by decide)) rfl pass0 (pa_cons (pe_calM (ok_Arms_difference_row T B) (c_Arms T) (m_difference_row T) (pv 0) (hr.mono (by decide)) (passes_call (takes_of rfl rfl rfl rfl) (fun _ _ _ _ q => q)) (pa_cons (pv 1) (pa_cons (pv 2) pa_nil))) pa_nil)) pe_int (fun _ _ => rfl)))), ?_, ?_⟩
  · rintro H ds d ⟨bs, n, x, k, m, y, j, l, rfl, h, rfl⟩
    exact sd_ret (R := Same) (Same.refl _) (yd_ixT (yd_call (ya_cons (yd_methE (yd_var rfl) (ya_cons (yd_var rfl) (ya_cons (yd_var rfl) ya_nil)) fun H1 e1 => (h.mono e1).diff) ya_nil) fun _ _ => h.far) yd_int rfl) fun H2 e2 => ⟨rfl, e2⟩
  · rintro H ds ⟨bs, n, x, y, rfl, G, hb⟩ hE
    exact sx_ret (R := Same) (Same.refl _) (yx_op1 (yx_call (yax_1 (yx_methE (yd_var rfl) (ya_cons (yd_var rfl) (ya_cons (yd_var rfl) ya_nil)) (fun H1 e1 => ⟨bs, n, x, y, rfl, G, hb.imp id fun ⟨q, k, m, h1, h2⟩ => ⟨q, k, m, h1.mono e1, h2⟩⟩) fun dd H1 e1 => hE dd H1 e1))))
theorem ok_least_distance (T : TX K mg) (B : BX P w K mg base) : Cal P w K mg base (L2.CX P w) 7 "least_distance" ["arms", "one", "other"] (spE K (r_two K fun r => dq (loR r)) (b_diff K) (CP K)) := by
  refine cal_exc (f_least_distance T) (g_least_distance T) sc_least_distance bd_least_distance (fun H ds d ⟨_, _, _, _, _, _, _, _, e, _⟩ => by rw [e]; rfl) (fun H ds ⟨_, _, _, _, e, _⟩ => by rw [e]; rfl) fun cdv A outer s H E hr => ⟨_, (pss_one (ps_ret (pe_ix (r := rIxT K) ix_tup (pe_cal (ok_far_ends T) (hr.mono (by decide)) rfl pass0 (pa_cons (pe_calM (ok_Arms_difference_row T B) (c_Arms T) (m_difference_row T) (pv 0) (hr.mono (by decide)) (passes_call (takes_of rfl rfl rfl rfl) (fun _ _ _ _ q => q)) (pa_cons (pv 1) (pa_cons (pv 2) pa_nil))) pa_nil)) pe_int (fun _ _ => rfl)))), ?_, ?_⟩
  · rintro H ds d ⟨bs, n, x, k, m, y, j, l, rfl, h, rfl⟩
    exact sd_ret (R := Same) (Same.refl _) (yd_ixT (yd_call (ya_cons (yd_methE (yd_var rfl) (ya_cons (yd_var rfl) (ya_cons (yd_var rfl) ya_nil)) fun H1 e1 => (h.mono e1).diff) ya_nil) fun _ _ => h.far) yd_int rfl) fun H2 e2 => ⟨rfl, e2⟩
  · rintro H ds ⟨bs, n, x, y, rfl, G, hb⟩ hE
    exact sx_ret (R := Same) (Same.refl _) (yx_op1 (yx_call (yax_1 (yx_methE (yd_var rfl) (ya_cons (yd_var rfl) (ya_cons (yd_var rfl) ya_nil)) (fun H1 e1 => ⟨bs, n, x, y, rfl, G, hb.imp id fun ⟨q, k, m, h1, h2⟩ => ⟨q, k, m, h1.mono e1, h2⟩⟩) fun dd H1 e1 => hE dd H1 e1))))
theorem ok_can_meet (T : TX K mg) (B : BX P w K mg base) : Cal P w K mg base (L2.CX P w) 8 "can_meet" ["arms", "one", "other"] (spE K (r_two K fun r => .bl (decide (loR r = 0))) (b_diff K) (CP K)) := by
  refine cal_exc (f_can_meet T) (g_can_meet T) sc_can_meet bd_can_meet (fun H ds d ⟨_, _, _, _, _, _, _, _, e, _⟩ => by rw [e]; rfl) (fun H ds ⟨_, _, _, _, e, _⟩ => by rw [e]; rfl) fun cdv A outer s H E hr => ⟨_, (pss_one (ps_ret (pe_cmpR (r := rEqD K) (op_eqD hr.units) (pe_cal (ok_least_distance T B) (hr.mono (by decide)) rfl (passes_call (takes_of rfl rfl rfl rfl) (fun _ _ _ _ q => q)) (pa_cons (pv 0) (pa_cons (pv 1) (pa_cons (pv 2) pa_nil)))) (pe_glob (v := .ref (He.ga K "ZERO")) rfl (g_ZERO T) rfl) (nomark _)))), ?_, ?_⟩
  · rintro H ds d ⟨bs, n, x, k, m, y, j, l, rfl, h, rfl⟩
    exact sd_ret (R := Same) (Same.refl _) (yd_eqQ (yd_callE (ya_cons (yd_var rfl) (ya_cons (yd_var rfl) (ya_cons (yd_var rfl) ya_nil))) fun H1 e1 => ⟨bs, n, x, k, m, y, j, l, rfl, h.mono e1, rfl⟩) (yd_ZERO T)) fun H2 e2 => ⟨rfl, e2⟩
  · rintro H ds ⟨bs, n, x, y, rfl, G, hb⟩ hE
    exact sx_ret (R := Same) (Same.refl _) (yx_op1 (yx_callE (ya_cons (yd_var rfl) (ya_cons (yd_var rfl) (ya_cons (yd_var rfl) ya_nil))) (fun H1 e1 => ⟨bs, n, x, y, rfl, G, hb.imp id fun ⟨q, k, m, h1, h2⟩ => ⟨q, k, m, h1.mono e1, h2⟩⟩) fun dd H1 e1 => hE dd H1 e1))
/-! ### first_wrong .. square_between -/
theorem sc_first_wrong : FnScope ["letters", "entries", "fits", "number", "entry"] ["letters", "entries", "fits"] (defScope s_first_wrong) := ⟨rfl, rfl, rfl, by decide +kernel, rfl, by decide +kernel, by decide +kernel⟩
theorem bd_first_wrong : Bnd "first_wrong" "first_wrong" s_first_wrong ["letters", "entries", "fits"] := fun _ _ _ _ _ _ us hl => match us, hl with | [_, _, _], _ => rfl
theorem sc_check_pose : FnScope ["arms", "pose", "wrong", "direction"] ["arms", "pose"] (defScope s_check_pose) := ⟨rfl, rfl, rfl, by decide +kernel, rfl, by decide +kernel, by decide +kernel⟩
theorem bd_check_pose : Bnd "check_pose" "check_pose" s_check_pose ["arms", "pose"] := fun _ _ _ _ _ _ us hl => match us, hl with | [_, _], _ => rfl
theorem sc_all_directions : FnScope ["arms", "pose"] ["arms", "pose"] (defScope s_all_directions) := ⟨rfl, rfl, rfl, by decide +kernel, rfl, by decide +kernel, by decide +kernel⟩
theorem bd_all_directions : Bnd "all_directions" "all_directions" s_all_directions ["arms", "pose"] := fun _ _ _ _ _ _ us hl => match us, hl with | [_, _], _ => rfl
theorem sc_spot_of : FnScope ["directions", "row", "x", "y", "direction", "number"] ["directions", "row"] (defScope s_spot_of) := ⟨rfl, rfl, rfl, by decide +kernel, rfl, by decide +kernel, by decide +kernel⟩
theorem bd_spot_of : Bnd "spot_of" "spot_of" s_spot_of ["directions", "row"] := fun _ _ _ _ _ _ us hl => match us, hl with | [_, _], _ => rfl
theorem sc_square_between : FnScope ["arms", "pose", "one", "other", "directions"] ["arms", "pose", "one", "other"] (defScope s_square_between) := ⟨rfl, rfl, rfl, by decide +kernel, rfl, by decide +kernel, by decide +kernel⟩
theorem bd_square_between : Bnd "square_between" "square_between" s_square_between ["arms", "pose", "one", "other"] := fun _ _ _ _ _ _ us hl => match us, hl with | [_, _, _, _], _ => rfl
abbrev dUs (us : List Uv) : D := .tup (us.map dUv)
theorem dUs_at {us : List Uv} {i : Nat} {u : Uv} (h : us[i]? = some u) : (us.map dUv).getD i .non = dUv u := by
  rw [List.getD_eq_getElem?_getD, List.getElem?_map, h]
  rfl
/-- directions of one pose -/
def PoseOk (us : List Uv) : Prop := ∀ u ∈ us, Sq u ∧ Unit2 u
section
variable {X : Cx} {i : Nat} {x : Str} {p pos : Pos} {e : Expr} {es : List Expr} {t : TA}
theorem pe_fits (T : TX X.K X.mg) (hr : Room 4 X.A) (hN : X.N[i]? = some x) (hv : Vis X.env.scope x) (ha : PA X (e :: es) t) (hdb : (x == ("__debug__" : Str)) = false := by decide) (hcd : (x == ("__classdict__" : Str)) = false := by decide)
    (he : starEach (e :: es) X.env = (false, eval e X.env) :: starEach es X.env := by rfl) (hpl : (backTo pos (starEach es X.env)).any (·.1) = false := by rfl) : PE X (.Call (.Name x p) (e :: es) [] pos) (tCallL i (He.ga X.K "is_direction") (spP X.K r_dir) [] E0 t) := by
  have C := ok_is_direction (P := X.prog) (w := X.w) (base := X.base) T
  obtain ⟨fd, F, b⟩ := C.fn
  exact pe_callL F hr hN hv C.kp b .nil pass0 ha hdb hcd he hpl
end
section
variable {R : Hp → Hp → Prop} [Rl R] {g : Gm} {H : Hp} {ta : TA} {ds : List D} {d : D} {W : XK} {i : Nat} {f : Addr} {rel : Hp → List D → D → Prop}
theorem yd_callV (hi : g[i]? = some (some (.ref f))) (h : Ya R K ta g H ds) (hr : ∀ H1, R H H1 → rel H1 ds d) : Yd R K (tCallL i f (spP K rel) [] W ta) g H d := fun s H1 e ty Q q => by
  obtain ⟨v, h1, h2⟩ := ty.2 i _ hi
  cases h2
  exact ⟨h1, (yd_call (W := W) h hr) s H1 e ty Q q⟩
end
def r_first (K : PySem.W.Frag) : Hp → List D → D → Prop := fun _ ds d => ∃ us : List Uv, ds = [.int (us.length : Nat), dUs us, .ref (He.ga K "is_direction")] ∧ us.length ≤ 1000 ∧ PoseOk us ∧ d = .non
theorem ok_first_wrong (T : TX K mg) : Cal P w K mg base CX0 5 "first_wrong" ["letters", "entries", "fits"] (spP K (r_first K)) := by
  refine cal_pure (f_first_wrong T) (g_first_wrong T) sc_first_wrong bd_first_wrong (fun H ds d ⟨_, e, _⟩ => by rw [e]; rfl) fun cdv A outer s H E hr => ⟨_, (pss_cons (ps_if (pt_not (pt_val (pe_callB (r := rIsiT K) call_isiT rfl (n_isinstance T) bo_isinstance (pa_cons (pv 1) (pa_cons (pe_tup (pa_cons (pe_ty (n_list T) bo_list) (pa_cons (pe_ty (n_tuple T) bo_tuple) pa_nil))) pa_nil))))) (pss_one (ps_ret pe_int)) pss_nil)
      (pss_cons (ps_for PassesOwn.never rfl (pi_enumT rfl (n_enumerate T) (pa_cons (pv 1) pa_nil)) (pg_tup (n := 2) rfl (pgs_cons (pg_name (i := 3) sc_first_wrong.nd rfl (by first | exact Or.inl rfl | exact Or.inr rfl)) (pgs_cons (pg_name (i := 4) sc_first_wrong.nd rfl (by first | exact Or.inl rfl | exact Or.inr rfl)) pgs_nil))) (pss_one (ps_if (PW.pt (pw_or (pt_cmpR op_ge (pv 3) (pv 0) (nomark _)) (pw_or1 (pt_not (pt_val (pe_fits (i := 2) T (hr.mono (by decide)) rfl (by first | exact Or.inl rfl | exact Or.inr (Or.inl rfl) | exact Or.inr (Or.inr rfl)) (pa_cons (pv 4) pa_nil))))))) (pss_one (ps_ret (pv 3))) pss_nil)))
      (pss_one (ps_ret (pe_ifExp (pt_cmpR op_eq (pe_callB (r := rLenX K) call_len rfl (n_len T) bo_len (pa_cons (pv 1) pa_nil)) (pv 0) (nomark _)) pe_non (pe_callB (r := rLenX K) call_len rfl (n_len T) bo_len (pa_cons (pv 1) pa_nil))))))), ?_⟩
  rintro H ds d ⟨us, rfl, hz, hp, rfl⟩
  have hlen : (us.map dUv).length = us.length := List.length_map ..
  refine sd_seq (sd_ifF (R := Same) (Same.refl _) (yt_not (yt_B (yd_isSeq (yd_var rfl)))) fun H1 e1 => sd_next ?_)
  refine sd_seq (sd_for (vs := [3, 4]) (R := Same) (Same.refl _) (yi_enumT (yd_var (i := 1) rfl)) (fun i hi => tg_two) (fun H2 i g' H' => (∃ o1 o2, g' = [some (.int (us.length : Nat)), some (dUs us), some (.ref (He.ga K "is_direction")), o1, o2]) ∧ Same H2 H') (fun _ _ _ _ h => h.2) (fun H2 e2 => ⟨⟨none, none, rfl⟩, Same.refl _⟩) ?_ ?_)
  · rintro H2 i g' H' e2 hi ⟨⟨o1, o2, rfl⟩, e3⟩ H3 e4
    obtain ⟨u, hu⟩ : ∃ u, us[i]? = some u := ⟨us[i]'(by omega), List.getElem?_eq_getElem (by omega)⟩
    obtain ⟨p1, p2⟩ := hp u (List.mem_of_getElem? hu)
    rw [dUs_at hu]
    refine sd_ifF (R := Same) (Same.refl _) (yt_or0 (yt_test (yd_cmp (yd_var (d := .int (i : Int)) rfl) (yd_var (d := .int (us.length : Nat)) rfl))) (yt_not (yt_B (yd_callV (d := .bl true) rfl (ya_cons (yd_var (d := dUv u) rfl) ya_nil) fun _ _ => ⟨u, rfl, p1, p2, rfl⟩))) ?_) fun H5 e6 => sd_next ⟨⟨_, _, rfl⟩, e3.trans (e4.trans e6)⟩
    exact decide_eq_false (by omega)
  · rintro H2 g' H' e2 ⟨⟨o1, o2, rfl⟩, e3⟩
    refine sd_ret (R := Same) (Same.refl _) (d := .non) (yd_ifT (yt_test (yd_eqI (yd_lenT (yd_var (d := dUs us) rfl)) (yd_var (d := .int (us.length : Nat)) rfl))) yd_non (decide_eq_true (by rw [hlen]))) fun H5 e5 => ⟨rfl, e1.trans (e2.trans (e3.trans e5))⟩
def r_pose : Hp → List D → D → Prop := fun _ ds d => ∃ bs us, ds = [dA bs us.length, dUs us] ∧ us.length ≤ 1000 ∧ PoseOk us ∧ d = dUs us
theorem ok_check_pose (T : TX K mg) : Cal P w K mg base CX0 6 "check_pose" ["arms", "pose"] (spP K r_pose) := by
  refine cal_pure (f_check_pose T) (g_check_pose T) sc_check_pose bd_check_pose (fun H ds d ⟨_, _, e, _⟩ => by rw [e]; rfl) fun cdv A outer s H E hr => ⟨_, (pss_cons (ps_set (i := 2) sc_check_pose.nd rfl (by first | exact Or.inl rfl | exact Or.inr rfl) (pe_cal (ok_first_wrong T) (hr.mono (by decide)) rfl pass0 (pa_cons (pe_fld (pv 0) rfl) (pa_cons (pv 1) (pa_cons (pe_glob (v := .ref (He.ga K "is_direction")) rfl (g_is_direction T) rfl) pa_nil)))))
      (pss_cons (ps_if (pt_cmpR op_notN (pv 2) pe_non (nomark _)) (pss_one ps_never) pss_nil)
      (pss_one (ps_ret (pe_callTy (r := rTupOf K) call_tuple_of rfl (n_tuple T) bo_tuple (pa_cons (pe_lc (own := [("direction", 3)]) rfl sc_check_pose.nd (pi_tup (pv 1)) (blkOk_by (own := [("direction", 3)]) (N := ["arms", "pose", "wrong", "direction"]) (sc := defScope s_check_pose) (by decide +kernel)) (fun _ _ _ _ _ => pg_name (i := 3) sc_check_pose.nd rfl (Or.inl rfl)) (fun _ _ _ _ _ => pts_nil) (fun _ _ _ _ _ => (pe_callTy (r := rTupOf K) call_tuple_of rfl (n_tuple T) bo_tuple (pa_cons (pv 3) pa_nil)))) pa_nil)))))), ?_⟩
  rintro H ds d ⟨bs, us, rfl, hz, hp, rfl⟩
  refine sd_seq (sd_asg (R := Same) (Same.refl _) (yd_call (d := .non) (ya_cons (yd_letters (c_Arms T) (a_letters T) (yd_var rfl)) (ya_cons (yd_var (d := dUs us) rfl) (ya_cons yd_ref ya_nil))) fun _ _ => ⟨us, rfl, hz, hp, rfl⟩) fun H1 e1 => ?_)
  refine sd_seq (sd_ifF (R := Same) (Same.refl _) (yt_test (yd_notN (yd_var (d := .non) rfl))) fun H2 e2 => sd_next ?_)
  refine sd_ret (R := Same) (Same.refl _) (yd_tupOf (yl_lc (yi_tup (yd_var (i := 1) rfl)) (fun i hi => tg_name) (by rw [List.length_map]; omega) rfl ?_)) fun H5 e6 => ⟨rfl, e1.trans (e2.trans e6)⟩
  intro i d hd H6 e7
  obtain ⟨u, hu, rfl⟩ : ∃ u, us[i]? = some u ∧ d = dUv u := by
    rw [List.getElem?_map] at hd
    obtain ⟨b, h1, h2⟩ := Option.map_eq_some_iff.mp hd
    exact ⟨b, h1, h2.symm⟩
  rw [dUs_at hu]
  exact yd_tupT (yd_var (d := dUv u) rfl)
def r_alld : Hp → List D → D → Prop := fun _ ds d => ∃ bs us, ds = [dA bs us.length, dUs us] ∧ us.length ≤ 1000 ∧ PoseOk us ∧ d = dUs (upU :: us)
theorem ok_all_directions (T : TX K mg) : Cal P w K mg base CX0 7 "all_directions" ["arms", "pose"] (spP K r_alld) := by
  refine cal_pure (f_all_directions T) (g_all_directions T) sc_all_directions bd_all_directions (fun H ds d ⟨_, _, e, _⟩ => by rw [e]; rfl) fun cdv A outer s H E hr => ⟨_, (pss_one (ps_ret (pe_op (r := rCatA K) op_catA (pe_tup (pa_cons (pe_glob (v := .ref (He.ga K "UP")) rfl (g_UP T) rfl) pa_nil)) (pe_cal (ok_check_pose T) (hr.mono (by decide)) rfl pass0 (pa_cons (pv 0) (pa_cons (pv 1) pa_nil)))))), ?_⟩
  rintro H ds d ⟨bs, us, rfl, hz, hp, rfl⟩
  exact sd_ret (R := Same) (Same.refl _) (yd_cat (yd_tup (ya_cons (yd_UP T) ya_nil)) (yd_call (d := dUs us) (ya_cons (yd_var rfl) (ya_cons (yd_var rfl) ya_nil)) fun _ _ => ⟨bs, us, rfl, hz, hp, rfl⟩) (by simp; omega)) fun H2 e2 => ⟨rfl, e2⟩
def wtP (us : List Uv) (r : List Rat) : Nat := ((List.zip us r).map fun p => bt p.2 + bt p.1.1 + bt p.1.2 + 1).sum
def spotTo (us : List Uv) (r : List Rat) (i : Nat) : Uv := ((List.zip us r).take i).foldl (fun s p => (s.1 + p.2 * p.1.1, s.2 + p.2 * p.1.2)) (0, 0)
theorem spotTo_step {us : List Uv} {r : List Rat} {i : Nat} {p : Uv × Rat} (h : (List.zip us r)[i]? = some p) : spotTo us r (i + 1) = ((spotTo us r i).1 + p.2 * p.1.1, (spotTo us r i).2 + p.2 * p.1.2) := by
  unfold spotTo
  rw [List.take_add_one, h, Option.toList_some, List.foldl_append]
  rfl
theorem spotTo_bt (l : List (Uv × Rat)) (s : Uv) : bt (l.foldl (fun s p => (s.1 + p.2 * p.1.1, s.2 + p.2 * p.1.2)) s).1 ≤ bt s.1 + (l.map fun p => bt p.2 + bt p.1.1 + bt p.1.2 + 1).sum ∧
    bt (l.foldl (fun s p => (s.1 + p.2 * p.1.1, s.2 + p.2 * p.1.2)) s).2 ≤ bt s.2 + (l.map fun p => bt p.2 + bt p.1.1 + bt p.1.2 + 1).sum := by
  induction l generalizing s with
  | nil => simp
  | cons p l ih =>
    have h := ih (s.1 + p.2 * p.1.1, s.2 + p.2 * p.1.2)
    have a1 := bt_add s.1 (p.2 * p.1.1)
    have a2 := bt_add s.2 (p.2 * p.1.2)
    have a3 := bt_mul p.2 p.1.1
    have a4 := bt_mul p.2 p.1.2
    rw [List.foldl_cons, List.map_cons, List.sum_cons]
    refine ⟨Nat.le_trans h.1 ?_, Nat.le_trans h.2 ?_⟩
    · show bt (s.1 + p.2 * p.1.1) + _ ≤ _; omega
    · show bt (s.2 + p.2 * p.1.2) + _ ≤ _; omega
theorem sum_take (l : List Nat) (i : Nat) : (l.take i).sum ≤ l.sum := by
  conv => rhs; rw [← List.take_append_drop i l]
  rw [List.sum_append]
  omega
theorem sum_mem {l : List Nat} {a : Nat} (h : a ∈ l) : a ≤ l.sum := by
  induction l with
  | nil => cases h
  | cons b l ih =>
    rw [List.sum_cons]
    rcases List.mem_cons.mp h with h | h
    · omega
    · have := ih h; omega
theorem spot_bt (us : List Uv) (r : List Rat) (i : Nat) : bt (spotTo us r i).1 ≤ 1 + wtP us r ∧ bt (spotTo us r i).2 ≤ 1 + wtP us r := by
  obtain ⟨h1, h2⟩ := spotTo_bt ((List.zip us r).take i) (0, 0)
  replace h1 : bt (spotTo us r i).1 ≤ bt (0 : Rat) + _ := h1
  replace h2 : bt (spotTo us r i).2 ≤ bt (0 : Rat) + _ := h2
  have t := sum_take ((List.zip us r).map fun p => bt p.2 + bt p.1.1 + bt p.1.2 + 1) i
  rw [← List.map_take] at t
  rw [bt0] at h1 h2
  have e : wtP us r = ((List.zip us r).map fun p => bt p.2 + bt p.1.1 + bt p.1.2 + 1).sum := rfl
  omega
theorem spotTo_all (us : List Uv) (r : List Rat) (h : us.length = r.length) : spotTo us r us.length = spotR us r := by
  unfold spotTo spotR
  rw [List.take_of_length_le (by rw [List.length_zip]; omega)]
def r_spotof : Hp → List D → D → Prop := fun _ ds d => ∃ us r, ds = [dUs us, dqs r] ∧ us.length = r.length ∧ us.length ≤ 1000 ∧ wtP us r ≤ 4000 ∧ d = dUv (spotR us r)
theorem ok_spot_of (T : TX K mg) : Cal P w K mg base CX0 3 "spot_of" ["directions", "row"] (spP K r_spotof) := by
  refine cal_pure (f_spot_of T) (g_spot_of T) sc_spot_of bd_spot_of (fun H ds d ⟨_, _, e, _⟩ => by rw [e]; rfl) fun cdv A outer s H E hr => ⟨_, (pss_cons (ps_set (i := 2) sc_spot_of.nd rfl (by first | exact Or.inl rfl | exact Or.inr rfl) (pe_glob (v := .ref (He.ga K "ZERO")) rfl (g_ZERO T) rfl))
      (pss_cons (ps_set (i := 3) sc_spot_of.nd rfl (by first | exact Or.inl rfl | exact Or.inr rfl) (pe_glob (v := .ref (He.ga K "ZERO")) rfl (g_ZERO T) rfl))
      (pss_cons (ps_for PassesOwn.never rfl (RZ.pi_zipA rfl (n_zip T) (pa_cons (pv 0) (pa_cons (pv 1) pa_nil))) (pg_tup (n := 2) rfl (pgs_cons (pg_name (i := 4) sc_spot_of.nd rfl (by first | exact Or.inl rfl | exact Or.inr rfl)) (pgs_cons (pg_name (i := 5) sc_spot_of.nd rfl (by first | exact Or.inl rfl | exact Or.inr rfl)) pgs_nil))) (pss_cons (ps_set (i := 2) sc_spot_of.nd rfl (by first | exact Or.inl rfl | exact Or.inr rfl) (pe_cal (ok_plus T) (hr.mono (by decide)) rfl pass0 (pa_cons (pv 2) (pa_cons (pe_cal (ok_times T) (hr.mono (by decide)) rfl pass0 (pa_cons (pv 5) (pa_cons (pe_ix (r := rIxT K) ix_tup (pv 4) pe_int (fun _ _ => rfl)) pa_nil))) pa_nil))))
      (pss_one (ps_set (i := 3) sc_spot_of.nd rfl (by first | exact Or.inl rfl | exact Or.inr rfl) (pe_cal (ok_plus T) (hr.mono (by decide)) rfl pass0 (pa_cons (pv 3) (pa_cons (pe_cal (ok_times T) (hr.mono (by decide)) rfl pass0 (pa_cons (pv 5) (pa_cons (pe_ix (r := rIxT K) ix_tup (pv 4) pe_int (fun _ _ => rfl)) pa_nil))) pa_nil)))))))
      (pss_one (ps_ret (pe_tup (pa_cons (pv 2) (pa_cons (pv 3) pa_nil)))))))), ?_⟩
  rintro H ds d ⟨us, r, rfl, hn, hz, hw, rfl⟩
  refine sd_seq (sd_asg (R := Same) (Same.refl _) (yd_ZERO T) fun H1 e1 => ?_)
  refine sd_seq (sd_asg (R := Same) (Same.refl _) (yd_ZERO T) fun H2 e2 => ?_)
  refine sd_seq (sd_for (vs := [4, 5]) (R := Same) (Same.refl _) (yi_zip (yd_var (i := 0) (d := dUs us) rfl) (yd_var (i := 1) (d := dqs r) rfl) (by rw [List.length_map, List.length_map]; exact hn)) (fun i hi => tg_two) (fun H3 i g' H' => (∃ o1 o2, g' = [some (dUs us), some (dqs r), some (dq (spotTo us r i).1), some (dq (spotTo us r i).2), o1, o2]) ∧ Same H3 H') (fun _ _ _ _ h => h.2) (fun H3 e3 => ⟨⟨none, none, rfl⟩, Same.refl _⟩) ?_ ?_)
  · rintro H3 i g' H' e3 hi ⟨⟨o1, o2, rfl⟩, e4⟩ H4 e5
    rw [List.length_map] at hi
    obtain ⟨u, hu⟩ : ∃ u, us[i]? = some u := ⟨us[i]'(by omega), List.getElem?_eq_getElem (by omega)⟩
    have hi2 : i < r.length := by omega
    have hzip : (List.zip us r)[i]? = some (u, r.getD i 0) := by
      rw [List.zip, List.getElem?_zipWith, hu, List.getD_eq_getElem?_getD, List.getElem?_eq_getElem hi2]
      rfl
    have b1 := spot_bt us r i
    have b2 : bt (r.getD i 0) + bt u.1 + bt u.2 + 1 ≤ wtP us r := sum_mem (List.mem_map.mpr ⟨_, List.mem_of_getElem? hzip, rfl⟩)
    have m1 := bt_mul (r.getD i 0) u.1
    have m2 := bt_mul (r.getD i 0) u.2
    rw [dUs_at hu, dqs_getD hi2]
    refine sd_seq (sd_asg (R := Same) (Same.refl _) (yd_ar (yd_var (d := dq (spotTo us r i).1) rfl) (yd_ar (yd_var (d := dq (r.getD i 0)) rfl) (yd_ixT (d := dq u.1) (yd_var (d := dUv u) rfl) yd_int rfl) (show bt _ + bt _ ≤ 9000 by omega)) (show bt _ + bt (r.getD i 0 * u.1) ≤ 9000 by omega)) fun H5 e6 => ?_)
    refine sd_asg (R := Same) (Same.refl _) (yd_ar (yd_var (d := dq (spotTo us r i).2) rfl) (yd_ar (yd_var (d := dq (r.getD i 0)) rfl) (yd_ixT (d := dq u.2) (yd_var (d := dUv u) rfl) yd_int rfl) (show bt _ + bt _ ≤ 9000 by omega)) (show bt _ + bt (r.getD i 0 * u.2) ≤ 9000 by omega)) fun H6 e7 => ⟨⟨some (dUv u), some (dq (r.getD i 0)), ?_⟩, e4.trans (e5.trans (e6.trans e7))⟩
    rw [spotTo_step hzip]
    rfl
  · rintro H3 g' H' e3 ⟨⟨o1, o2, rfl⟩, e4⟩
    rw [List.length_map, spotTo_all us r hn]
    exact sd_ret (R := Same) (Same.refl _) (yd_tup (ya_cons (yd_var (d := dq (spotR us r).1) rfl) (ya_cons (yd_var (d := dq (spotR us r).2) rfl) ya_nil))) fun H5 e5 => ⟨rfl, e1.trans (e2.trans (e3.trans (e4.trans e5)))⟩
def r_sqb (K : PySem.W.Frag) : Hp → List D → D → Prop := fun H ds d => ∃ bs us x k m y j l, ds = [dA bs us.length, dUs us, x, y] ∧ Two K H bs us.length x k m y j l ∧ PoseOk us ∧ wtP (upU :: us) (drow bs us.length k m j l) ≤ 2000 ∧ d = dq (sqU (spotR (upU :: us) (drow bs us.length k m j l)))
theorem ok_square_between (T : TX K mg) (B : BX P w K mg base) : Cal P w K mg base CX0 8 "square_between" ["arms", "pose", "one", "other"] (spP K (r_sqb K)) := by
  refine cal_pure (f_square_between T) (g_square_between T) sc_square_between bd_square_between (fun H ds d ⟨_, _, _, _, _, _, _, _, e, _⟩ => by rw [e]; rfl) fun cdv A outer s H E hr => ⟨_, (pss_cons (ps_set (i := 4) sc_square_between.nd rfl (by first | exact Or.inl rfl | exact Or.inr rfl) (pe_cal (ok_all_directions T) (hr.mono (by decide)) rfl pass0 (pa_cons (pv 0) (pa_cons (pv 1) pa_nil))))
      (pss_one (ps_ret (pe_cal (ok_square_sum T) (hr.mono (by decide)) rfl pass0 (pa_cons (pe_cal (ok_spot_of T) (hr.mono (by decide)) rfl pass0 (pa_cons (pv 4) (pa_cons (pe_calM (ok_Arms_difference_row T B) (c_Arms T) (m_difference_row T) (pv 0) (hr.mono (by decide)) pass1 (pa_cons (pv 2) (pa_cons (pv 3) pa_nil))) pa_nil))) pa_nil))))), ?_⟩
  rintro H ds d ⟨bs, us, x, k, m, y, j, l, rfl, h, hp, hw, rfl⟩
  have n4 := h.G.n4
  have b := spot_bt (upU :: us) (drow bs us.length k m j l) (upU :: us).length
  rw [spotTo_all _ _ (by rw [drow_len]; rfl)] at b
  refine sd_seq (sd_asg (R := Same) (Same.refl _) (yd_call (d := dUs (upU :: us)) (ya_cons (yd_var rfl) (ya_cons (yd_var rfl) ya_nil)) fun _ _ => ⟨bs, us, rfl, by omega, hp, rfl⟩) fun H1 e1 => ?_)
  refine sd_ret (R := Same) (Same.refl _) (yd_call (ya_cons (yd_call (d := dUv (spotR (upU :: us) (drow bs us.length k m j l))) (ya_cons (yd_var (d := dUs (upU :: us)) rfl) (ya_cons (yd_methE (yd_var rfl) (ya_cons (yd_var rfl) (ya_cons (yd_var rfl) ya_nil)) fun H2 e2 => (h.mono (e1.trans e2)).diff) ya_nil)) fun _ _ => ⟨_, _, rfl, by rw [drow_len]; rfl, by simp; omega, by omega, rfl⟩) ya_nil) fun _ _ => ⟨_, rfl, ?_, rfl⟩) fun H2 e2 => ⟨rfl, e1.trans e2⟩
  unfold Sq
  omega
end K19
set_option maxHeartbeats 4000000
set_option exponentiation.threshold 20000
namespace K19
open PySem PySem.Spec PyProof.Rows L2
variable {P : Program} {w : World} {K : PySem.W.Frag} {mg : Str → Option Value} {base : Heap}
/-! ### the law's own ratios -/
theorem sc_law_gcd : FnScope ["_law_one", "_law_other"] ["_law_one", "_law_other"] (defScope s_law_gcd) := ⟨rfl, rfl, rfl, by decide +kernel, rfl, by decide +kernel, by decide +kernel⟩
theorem bd_law_gcd : Bnd "_law_gcd" "_law_gcd" s_law_gcd ["_law_one", "_law_other"] := fun _ _ _ _ _ _ us hl => match us, hl with | [_, _], _ => rfl
theorem sc_law_ratio : FnScope ["_law_top", "_law_bottom", "_law_part"] ["_law_top", "_law_bottom"] (defScope s_law_ratio) := ⟨rfl, rfl, rfl, by decide +kernel, rfl, by decide +kernel, by decide +kernel⟩
theorem bd_law_ratio : Bnd "_law_ratio" "_law_ratio" s_law_ratio ["_law_top", "_law_bottom"] := fun _ _ _ _ _ _ us hl => match us, hl with | [_, _], _ => rfl
theorem sc_law_plus : FnScope ["_law_one", "_law_other"] ["_law_one", "_law_other"] (defScope s_law_plus) := ⟨rfl, rfl, rfl, by decide +kernel, rfl, by decide +kernel, by decide +kernel⟩
theorem bd_law_plus : Bnd "_law_plus" "_law_plus" s_law_plus ["_law_one", "_law_other"] := fun _ _ _ _ _ _ us hl => match us, hl with | [_, _], _ => rfl
theorem sc_law_less : FnScope ["_law_one", "_law_other"] ["_law_one", "_law_other"] (defScope s_law_less) := ⟨rfl, rfl, rfl, by decide +kernel, rfl, by decide +kernel, by decide +kernel⟩
theorem bd_law_less : Bnd "_law_less" "_law_less" s_law_less ["_law_one", "_law_other"] := fun _ _ _ _ _ _ us hl => match us, hl with | [_, _], _ => rfl
theorem sc_law_times : FnScope ["_law_one", "_law_other"] ["_law_one", "_law_other"] (defScope s_law_times) := ⟨rfl, rfl, rfl, by decide +kernel, rfl, by decide +kernel, by decide +kernel⟩
theorem bd_law_times : Bnd "_law_times" "_law_times" s_law_times ["_law_one", "_law_other"] := fun _ _ _ _ _ _ us hl => match us, hl with | [_, _], _ => rfl
theorem sc_law_over : FnScope ["_law_one", "_law_other"] ["_law_one", "_law_other"] (defScope s_law_over) := ⟨rfl, rfl, rfl, by decide +kernel, rfl, by decide +kernel, by decide +kernel⟩
theorem bd_law_over : Bnd "_law_over" "_law_over" s_law_over ["_law_one", "_law_other"] := fun _ _ _ _ _ _ us hl => match us, hl with | [_, _], _ => rfl
theorem sc_law_below : FnScope ["_law_one", "_law_other"] ["_law_one", "_law_other"] (defScope s_law_below) := ⟨rfl, rfl, rfl, by decide +kernel, rfl, by decide +kernel, by decide +kernel⟩
theorem bd_law_below : Bnd "_law_below" "_law_below" s_law_below ["_law_one", "_law_other"] := fun _ _ _ _ _ _ us hl => match us, hl with | [_, _], _ => rfl
theorem sc_law_size : FnScope ["_law_one"] ["_law_one"] (defScope s_law_size) := ⟨rfl, rfl, rfl, by decide +kernel, rfl, by decide +kernel, by decide +kernel⟩
theorem bd_law_size : Bnd "_law_size" "_law_size" s_law_size ["_law_one"] := fun _ _ _ _ _ _ us hl => match us, hl with | [_], _ => rfl
theorem sc_law_sum : FnScope ["_law_rows", "_law_total", "_law_entry"] ["_law_rows"] (defScope s_law_sum) := ⟨rfl, rfl, rfl, by decide +kernel, rfl, by decide +kernel, by decide +kernel⟩
theorem bd_law_sum : Bnd "_law_sum" "_law_sum" s_law_sum ["_law_rows"] := fun _ _ _ _ _ _ us hl => match us, hl with | [_], _ => rfl
theorem sc_law_is_ratio : FnScope ["_law_thing", "_law_part"] ["_law_thing"] (defScope s_law_is_ratio) := ⟨rfl, rfl, rfl, by decide +kernel, rfl, by decide +kernel, by decide +kernel⟩
theorem bd_law_is_ratio : Bnd "_law_is_ratio" "_law_is_ratio" s_law_is_ratio ["_law_thing"] := fun _ _ _ _ _ _ us hl => match us, hl with | [_], _ => rfl
theorem sc_law_square : FnScope ["_law_spot"] ["_law_spot"] (defScope s_law_square) := ⟨rfl, rfl, rfl, by decide +kernel, rfl, by decide +kernel, by decide +kernel⟩
theorem bd_law_square : Bnd "_law_square" "_law_square" s_law_square ["_law_spot"] := fun _ _ _ _ _ _ us hl => match us, hl with | [_], _ => rfl
theorem sc_law_same : FnScope ["_law_told", "_law_due", "_law_number"] ["_law_told", "_law_due"] (defScope s_law_same) := ⟨rfl, rfl, rfl, by decide +kernel, rfl, by decide +kernel, by decide +kernel⟩
theorem bd_law_same : Bnd "_law_same" "_law_same" s_law_same ["_law_told", "_law_due"] := fun _ _ _ _ _ _ us hl => match us, hl with | [_, _], _ => rfl
theorem sc_law_truth : FnScope ["_law_told", "_law_due"] ["_law_told", "_law_due"] (defScope s_law_truth) := ⟨rfl, rfl, rfl, by decide +kernel, rfl, by decide +kernel, by decide +kernel⟩
theorem bd_law_truth : Bnd "_law_truth" "_law_truth" s_law_truth ["_law_told", "_law_due"] := fun _ _ _ _ _ _ us hl => match us, hl with | [_, _], _ => rfl
theorem sc_law_is_pose : FnScope ["_law_told", "_law_n", "_law_direction_here"] ["_law_told", "_law_n"] (defScope s_law_is_pose) := ⟨rfl, rfl, rfl, by decide +kernel, rfl, by decide +kernel, by decide +kernel⟩
theorem bd_law_is_pose : Bnd "_law_is_pose" "_law_is_pose" s_law_is_pose ["_law_told", "_law_n"] := fun _ _ _ _ _ _ us hl => match us, hl with | [_, _], _ => rfl
def r_gcd : Hp → List D → D → Prop := fun _ ds d => ∃ a b : Int, ds = [.int a, .int b] ∧ d = .int ((Nat.gcd a.natAbs b.natAbs : Nat) : Int)
theorem abs_nat (a : Int) : (if a < 0 then -a else a) = ((a.natAbs : Nat) : Int) := by split <;> omega
theorem ok_law_gcd (T : TX K mg) : Cal P w K mg base CX0 1 "_law_gcd" ["_law_one", "_law_other"] (spP K r_gcd) := by
  refine cal_pure (f_law_gcd T) (g_law_gcd T) sc_law_gcd bd_law_gcd (fun H ds d ⟨_, _, e, _⟩ => by rw [e]; rfl) fun cdv A outer s H E hr => ⟨_, (pss_cons (ps_par (i := 0) (j := 1) (by rfl) sc_law_gcd.nd rfl rfl (by decide) rfl rfl (pa_cons (pe_callB call_abs rfl (n_abs T) bo_abs (pa_cons (pv 0) pa_nil)) (pa_cons (pe_callB call_abs rfl (n_abs T) bo_abs (pa_cons (pv 1) pa_nil)) pa_nil)) (by rfl))
      (pss_cons (ps_while PassesOwn.never (pt_truth (pv 1) (by intro _; rfl)) (pss_one (ps_par (i := 0) (j := 1) (by rfl) sc_law_gcd.nd rfl rfl (by decide) rfl rfl (pa_cons (pv 1) (pa_cons (pe_op op_mod (pe_callTy call_int1 rfl (n_int T) bo_int (pa_cons (pv 0) pa_nil)) (pv 1)) pa_nil)) (by rfl))))
      (pss_one (ps_ret (pv 0))))), ?_⟩
  rintro H ds d ⟨a, b, rfl, rfl⟩
  refine sd_seq (sd_par (R := Same) (Same.refl _) (ya_cons (yd_abs (yd_var rfl)) (ya_cons (yd_abs (yd_var rfl)) ya_nil)) fun H1 e1 => ?_)
  rw [abs_nat, abs_nat]
  refine sd_seq (sd_while (fun c g' H' => ∃ x y : Nat, g' = [some (.int (x : Int)), some (.int (y : Int))] ∧ c = y ∧ Nat.gcd x y = Nat.gcd a.natAbs b.natAbs ∧ Same H H') b.natAbs ⟨a.natAbs, b.natAbs, rfl, rfl, rfl, e1⟩ ?_)
  rintro c g' H' ⟨x, y, rfl, rfl, hg, e2⟩
  refine ⟨Same, inferInstance, Same.refl _, _, yt_truI (yd_var rfl), fun z H2 e3 => ?_, fun z H2 e3 => ?_⟩
  · have z2 : 0 < c := by
      have : (c : Int) ≠ 0 := by simpa using z
      omega
    refine sd_par (R := Same) (Same.refl _) (ya_cons (yd_var rfl) (ya_cons (yd_I (yd_toInt (yd_var rfl)) (yd_var rfl) (by omega)) ya_nil)) fun H3 e4 => ⟨x % c, Nat.mod_lt _ z2, c, x % c, ?_, rfl, ?_, e2.trans (e3.trans e4)⟩
    · rw [← Int.natCast_emod]
      rfl
    · rw [← hg, Nat.gcd_comm c, ← Nat.gcd_rec, Nat.gcd_comm]
  · have z2 : c = 0 := by
      have : (c : Int) = 0 := by simpa using z
      omega
    subst z2
    rw [Nat.gcd_zero_right] at hg
    exact sd_ret (R := Same) (Same.refl _) ((yd_var rfl).is (by rw [hg])) fun H3 e4 => ⟨rfl, e2.trans (e3.trans e4)⟩
theorem ok_law_ratio (T : TX K mg) : Cal P w K mg base CX0 2 "_law_ratio" ["_law_top", "_law_bottom"] (spP K r_low) := by
  refine cal_pure (f_law_ratio T) (g_law_ratio T) sc_law_ratio bd_law_ratio (fun H ds d ⟨_, _, e, _⟩ => by rw [e]; rfl) fun cdv A outer s H E hr => ⟨_, (pss_cons (ps_set (i := 2) sc_law_ratio.nd rfl (by first | exact Or.inl rfl | exact Or.inr rfl) (pe_cal (ok_law_gcd T) (hr.mono (by decide)) rfl pass0 (pa_cons (pv 0) (pa_cons (pv 1) pa_nil))))
      (pss_cons (ps_if (pt_cmpR op_lt (pv 1) pe_int (nomark _)) (pss_one (ps_set (i := 2) sc_law_ratio.nd rfl (by first | exact Or.inl rfl | exact Or.inr rfl) (pe_un un_neg (pv 2)))) pss_nil)
      (pss_one (ps_ret (pe_tup (pa_cons (pe_op op_fdivZ (pv 0) (pv 2)) (pa_cons (pe_op op_fdivZ (pv 1) (pv 2)) pa_nil))))))), ?_⟩
  rintro H ds d ⟨t, b, rfl, hb, hz, rfl⟩
  have gp := gcd_pos (t := t) hb
  have gl := gcd_le (t := t) hb
  refine sd_seq (sd_asg (R := Same) (Same.refl _) (yd_call (ya_cons (yd_var rfl) (ya_cons (yd_var rfl) ya_nil)) fun _ _ => ⟨t, b, rfl, rfl⟩) fun H1 e1 => ?_)
  refine sd_cut (fun g' H' => ∃ p : Int, g' = [some (.int t), some (.int b), some (.int p)] ∧ p = (if b < 0 then -((Nat.gcd t.natAbs b.natAbs : Nat) : Int) else ((Nat.gcd t.natAbs b.natAbs : Nat) : Int)) ∧ Same H H') ?_ ?_
  · refine sd_if (R := Same) (Same.refl _) (yt_test (yd_cmp (yd_var rfl) yd_int)) (fun q H2 e2 => sd_asg (R := Same) (Same.refl _) (yd_neg (yd_var rfl)) fun H3 e3 => ⟨_, rfl, ?_, e1.trans (e2.trans e3)⟩) fun q H2 e2 => sd_next ⟨_, rfl, ?_, e1.trans e2⟩
    · rw [if_pos (of_decide_eq_true q)]
    · rw [if_neg (of_decide_eq_false q)]
  · rintro g' H2 ⟨p, rfl, hp, e2⟩
    have hc : CDivZ t p := by
      refine ⟨by split at hp <;> omega, ?_⟩
      have : p.natAbs < 2 ^ 9000 := Nat.lt_of_le_of_lt (by split at hp <;> (subst hp; omega)) hz
      exact PySem.Flt.log2_lt_of (by decide) this
    refine sd_ret (R := Same) (Same.refl _) ((yd_tup (ya_cons (yd_I (C := CDivZ) (yd_var rfl) (yd_var rfl) hc) (ya_cons (yd_I (C := CDivZ) (yd_var rfl) (yd_var rfl) (show CDivZ b p from hc)) ya_nil))).is ?_) fun H5 e5 => ⟨rfl, e2.trans e5⟩
    by_cases h : b < 0
    · rw [if_pos h] at hp
      have en : Rat.divInt t b = Rat.divInt (-t) (-b) := (Rat.neg_divInt_neg t b).symm
      have g2 : Nat.gcd (-t).natAbs (-b).natAbs = Nat.gcd t.natAbs b.natAbs := by rw [Int.natAbs_neg, Int.natAbs_neg]
      have fd : ∀ x : Int, x.fdiv p = (-x) / ((Nat.gcd t.natAbs b.natAbs : Nat) : Int) := fun x => by
        rw [hp, ← Int.neg_fdiv_neg, Int.neg_neg, Int.fdiv_eq_ediv_of_nonneg _ (by omega)]
      rw [en, dq, low_num (by omega), low_den (by omega), g2, fd, fd]
    · rw [if_neg h] at hp
      rw [dq, low_num (by omega), low_den (by omega), hp, Int.fdiv_eq_ediv_of_nonneg _ (by omega), Int.fdiv_eq_ediv_of_nonneg _ (by omega)]
theorem ok_law_plus (T : TX K mg) : Cal P w K mg base CX0 3 "_law_plus" ["_law_one", "_law_other"] (spP K (r_ar fun q r => q + r)) := by
  refine cal_pure (f_law_plus T) (g_law_plus T) sc_law_plus bd_law_plus (fun H ds d ⟨_, _, e, _⟩ => by rw [e]; rfl) fun cdv A outer s H E hr => ⟨_, (pss_one (ps_ret (pe_cal (ok_law_ratio T) (hr.mono (by decide)) rfl pass0 (pa_cons (pe_op op_add (pe_op op_mulW (pe_ix (r := rIxT K) ix_tup (pv 0) pe_int (fun _ _ => rfl)) (pe_ix (r := rIxT K) ix_tup (pv 1) pe_int (fun _ _ => rfl))) (pe_op op_mulW (pe_ix (r := rIxT K) ix_tup (pv 1) pe_int (fun _ _ => rfl)) (pe_ix (r := rIxT K) ix_tup (pv 0) pe_int (fun _ _ => rfl)))) (pa_cons (pe_op op_mulW (pe_ix (r := rIxT K) ix_tup (pv 0) pe_int (fun _ _ => rfl)) (pe_ix (r := rIxT K) ix_tup (pv 1) pe_int (fun _ _ => rfl))) pa_nil))))), ?_⟩
  rintro H ds d ⟨q, r, rfl, hq, rfl⟩
  exact sd_ret (R := Same) (Same.refl _) ((yd_low (yd_I0 (yd_I (yd_ixT (yd_var rfl) yd_int rfl) (yd_ixT (yd_var rfl) yd_int rfl) hq.c.mulc.2.1) (yd_I (yd_ixT (yd_var rfl) yd_int rfl) (yd_ixT (yd_var rfl) yd_int rfl) hq.c.mulc.2.2.2.2))
    (yd_I (yd_ixT (yd_var rfl) yd_int rfl) (yd_ixT (yd_var rfl) yd_int rfl) hq.c.mulc.2.2.2.1) (Int.mul_ne_zero (den_ne q) (den_ne r)) hq.dens).is (by rw [add_eq])) fun H5 e5 => ⟨rfl, e5⟩
theorem ok_law_less (T : TX K mg) : Cal P w K mg base CX0 3 "_law_less" ["_law_one", "_law_other"] (spP K (r_ar fun q r => q - r)) := by
  refine cal_pure (f_law_less T) (g_law_less T) sc_law_less bd_law_less (fun H ds d ⟨_, _, e, _⟩ => by rw [e]; rfl) fun cdv A outer s H E hr => ⟨_, (pss_one (ps_ret (pe_cal (ok_law_ratio T) (hr.mono (by decide)) rfl pass0 (pa_cons (pe_op op_sub (pe_op op_mulW (pe_ix (r := rIxT K) ix_tup (pv 0) pe_int (fun _ _ => rfl)) (pe_ix (r := rIxT K) ix_tup (pv 1) pe_int (fun _ _ => rfl))) (pe_op op_mulW (pe_ix (r := rIxT K) ix_tup (pv 1) pe_int (fun _ _ => rfl)) (pe_ix (r := rIxT K) ix_tup (pv 0) pe_int (fun _ _ => rfl)))) (pa_cons (pe_op op_mulW (pe_ix (r := rIxT K) ix_tup (pv 0) pe_int (fun _ _ => rfl)) (pe_ix (r := rIxT K) ix_tup (pv 1) pe_int (fun _ _ => rfl))) pa_nil))))), ?_⟩
  rintro H ds d ⟨q, r, rfl, hq, rfl⟩
  exact sd_ret (R := Same) (Same.refl _) ((yd_low (yd_I0 (yd_I (yd_ixT (yd_var rfl) yd_int rfl) (yd_ixT (yd_var rfl) yd_int rfl) hq.c.mulc.2.1) (yd_I (yd_ixT (yd_var rfl) yd_int rfl) (yd_ixT (yd_var rfl) yd_int rfl) hq.c.mulc.2.2.2.2))
    (yd_I (yd_ixT (yd_var rfl) yd_int rfl) (yd_ixT (yd_var rfl) yd_int rfl) hq.c.mulc.2.2.2.1) (Int.mul_ne_zero (den_ne q) (den_ne r)) hq.dens).is (by rw [sub_eq])) fun H5 e5 => ⟨rfl, e5⟩
theorem ok_law_times (T : TX K mg) : Cal P w K mg base CX0 3 "_law_times" ["_law_one", "_law_other"] (spP K (r_ar fun q r => q * r)) := by
  refine cal_pure (f_law_times T) (g_law_times T) sc_law_times bd_law_times (fun H ds d ⟨_, _, e, _⟩ => by rw [e]; rfl) fun cdv A outer s H E hr => ⟨_, (pss_one (ps_ret (pe_cal (ok_law_ratio T) (hr.mono (by decide)) rfl pass0 (pa_cons (pe_op op_mulW (pe_ix (r := rIxT K) ix_tup (pv 0) pe_int (fun _ _ => rfl)) (pe_ix (r := rIxT K) ix_tup (pv 1) pe_int (fun _ _ => rfl))) (pa_cons (pe_op op_mulW (pe_ix (r := rIxT K) ix_tup (pv 0) pe_int (fun _ _ => rfl)) (pe_ix (r := rIxT K) ix_tup (pv 1) pe_int (fun _ _ => rfl))) pa_nil))))), ?_⟩
  rintro H ds d ⟨q, r, rfl, hq, rfl⟩
  exact sd_ret (R := Same) (Same.refl _) ((yd_low (yd_I (yd_ixT (yd_var rfl) yd_int rfl) (yd_ixT (yd_var rfl) yd_int rfl) hq.c.mulc.1)
    (yd_I (yd_ixT (yd_var rfl) yd_int rfl) (yd_ixT (yd_var rfl) yd_int rfl) hq.c.mulc.2.2.2.1) (Int.mul_ne_zero (den_ne q) (den_ne r)) hq.dens).is (by rw [mul_eq])) fun H5 e5 => ⟨rfl, e5⟩
def r_over : Hp → List D → D → Prop := fun _ ds d => ∃ q r, ds = [dq q, dq r] ∧ Bd q r ∧ r ≠ 0 ∧ d = dq (q / r)
theorem ok_law_over (T : TX K mg) : Cal P w K mg base CX0 3 "_law_over" ["_law_one", "_law_other"] (spP K r_over) := by
  refine cal_pure (f_law_over T) (g_law_over T) sc_law_over bd_law_over (fun H ds d ⟨_, _, e, _⟩ => by rw [e]; rfl) fun cdv A outer s H E hr => ⟨_, (pss_one (ps_ret (pe_cal (ok_law_ratio T) (hr.mono (by decide)) rfl pass0 (pa_cons (pe_op op_mulW (pe_ix (r := rIxT K) ix_tup (pv 0) pe_int (fun _ _ => rfl)) (pe_ix (r := rIxT K) ix_tup (pv 1) pe_int (fun _ _ => rfl))) (pa_cons (pe_op op_mulW (pe_ix (r := rIxT K) ix_tup (pv 0) pe_int (fun _ _ => rfl)) (pe_ix (r := rIxT K) ix_tup (pv 1) pe_int (fun _ _ => rfl))) pa_nil))))), ?_⟩
  rintro H ds d ⟨q, r, rfl, hq, h0, rfl⟩
  exact sd_ret (R := Same) (Same.refl _) ((yd_low (yd_I (yd_ixT (yd_var rfl) yd_int rfl) (yd_ixT (yd_var rfl) yd_int rfl) hq.c.mulc.2.1)
    (yd_I (yd_ixT (yd_var rfl) yd_int rfl) (yd_ixT (yd_var rfl) yd_int rfl) hq.c.mulc.2.2.1) (Int.mul_ne_zero (den_ne q) (num_ne h0)) hq.dnum).is (by rw [div_eq])) fun H5 e5 => ⟨rfl, e5⟩
def r_below : Hp → List D → D → Prop := fun _ ds d => ∃ q r, ds = [dq q, dq r] ∧ Bc q r ∧ d = .bl (decide (q < r))
theorem ok_law_below (T : TX K mg) : Cal P w K mg base CX0 1 "_law_below" ["_law_one", "_law_other"] (spP K r_below) := by
  refine cal_pure (f_law_below T) (g_law_below T) sc_law_below bd_law_below (fun H ds d ⟨_, _, e, _⟩ => by rw [e]; rfl) fun cdv A outer s H E hr => ⟨_, (pss_one (ps_ret (pe_cmpR op_lt (pe_op op_mulW (pe_ix (r := rIxT K) ix_tup (pv 0) pe_int (fun _ _ => rfl)) (pe_ix (r := rIxT K) ix_tup (pv 1) pe_int (fun _ _ => rfl))) (pe_op op_mulW (pe_ix (r := rIxT K) ix_tup (pv 1) pe_int (fun _ _ => rfl)) (pe_ix (r := rIxT K) ix_tup (pv 0) pe_int (fun _ _ => rfl))) (nomark _)))), ?_⟩
  rintro H ds d ⟨q, r, rfl, hq, rfl⟩
  exact sd_ret (R := Same) (Same.refl _) ((yd_cmp (yd_I (yd_ixT (yd_var rfl) yd_int rfl) (yd_ixT (yd_var rfl) yd_int rfl) hq.mulc.2.1) (yd_I (yd_ixT (yd_var rfl) yd_int rfl) (yd_ixT (yd_var rfl) yd_int rfl) hq.mulc.2.2.2.2)).is (by rw [lt_num])) fun H5 e5 => ⟨rfl, e5⟩
theorem ok_law_size (T : TX K mg) : Cal P w K mg base CX0 1 "_law_size" ["_law_one"] (spP K r_size) := by
  refine cal_pure (f_law_size T) (g_law_size T) sc_law_size bd_law_size (fun H ds d ⟨_, e, _⟩ => by rw [e]; rfl) fun cdv A outer s H E hr => ⟨_, (pss_one (ps_ret (pe_tup (pa_cons (pe_callB call_abs rfl (n_abs T) bo_abs (pa_cons (pe_ix (r := rIxT K) ix_tup (pv 0) pe_int (fun _ _ => rfl)) pa_nil)) (pa_cons (pe_ix (r := rIxT K) ix_tup (pv 0) pe_int (fun _ _ => rfl)) pa_nil))))), ?_⟩
  rintro H ds d ⟨q, rfl, rfl⟩
  exact sd_ret (R := Same) (Same.refl _) ((yd_tup (ya_cons (yd_abs (yd_ixT (yd_var rfl) yd_int rfl)) (ya_cons (yd_ixT (yd_var rfl) yd_int rfl) ya_nil))).is (dq_abs q).symm) fun H5 e5 => ⟨rfl, e5⟩
section
variable {R : Hp → Hp → Prop} [Rl R] {g : Gm} {H : Hp} {te ta tb : TE} {W : XK} {q r : Rat}
/-- a ratio as it is written -/
theorem yd_q {i j : Int} (e : dq q = .tup [.int i, .int j] := by rfl) : Yd R K (tTup (tCons (tC (.int i)) (tCons (tC (.int j)) tNil))) g H (dq q) := (yd_tup (ya_cons yd_int (ya_cons yd_int ya_nil))).is e.symm
/-- .. its top below 0 -/
theorem yd_qn {i i' j : Int} (e : dq q = .tup [.int i', .int j] := by rfl) (n : i' = -i := by rfl) : Yd R K (tTup (tCons (tUn (rU fun i => .int (-i)) (tC (.int i))) (tCons (tC (.int j)) tNil))) g H (dq q) := (yd_tup (ya_cons (yd_neg yd_int) (ya_cons yd_int ya_nil))).is (by rw [e, n])
theorem yd_below (h : Yd R K ta g H (dq q)) (h2 : Yd R K tb g H (dq r)) (hq : Bc q r) : Yd R K (tCall (spP K r_below) [] W (tCons ta (tCons tb tNil))) g H (.bl (decide (q < r))) := yd_call (ya_cons h (ya_cons h2 ya_nil)) fun _ _ => ⟨q, r, rfl, hq, rfl⟩
theorem yd_over (h : Yd R K ta g H (dq q)) (h2 : Yd R K tb g H (dq r)) (hq : Bd q r) (h0 : r ≠ 0) : Yd R K (tCall (spP K r_over) [] W (tCons ta (tCons tb tNil))) g H (dq (q / r)) := yd_call (ya_cons h (ya_cons h2 ya_nil)) fun _ _ => ⟨q, r, rfl, hq, h0, rfl⟩
theorem yd_size (h : Yd R K te g H (dq q)) : Yd R K (tCall (spP K r_size) [] W (tCons te tNil)) g H (dq q.abs) := yd_call (ya_cons h ya_nil) fun _ _ => ⟨q, rfl, rfl⟩
theorem yd_sq {u : Uv} (h : Yd R K te g H (dUv u)) (hs : Sq u) : Yd R K (tCall (spP K r_sq) [] W (tCons te tNil)) g H (dq (sqU u)) := yd_call (ya_cons h ya_nil) fun _ _ => ⟨u, rfl, hs, rfl⟩
end
theorem ok_law_sum (T : TX K mg) : Cal P w K mg base CX0 4 "_law_sum" ["_law_rows"] (spP K (r_sum K)) := by
  refine cal_pure (f_law_sum T) (g_law_sum T) sc_law_sum bd_law_sum (fun H ds d ⟨_, _, _, e, _⟩ => by rw [e]; rfl) fun cdv A outer s H E hr => ⟨_, (pss_cons (ps_set (i := 1) sc_law_sum.nd rfl (by first | exact Or.inl rfl | exact Or.inr rfl) (pe_tup (pa_cons pe_int (pa_cons pe_int pa_nil))))
      (pss_cons (ps_for PassesOwn.never rfl (pi_list (pv 0)) (pg_name (i := 2) sc_law_sum.nd rfl (by first | exact Or.inl rfl | exact Or.inr rfl)) (pss_one (ps_set (i := 1) sc_law_sum.nd rfl (by first | exact Or.inl rfl | exact Or.inr rfl) (pe_cal (ok_law_plus T) (hr.mono (by decide)) rfl pass0 (pa_cons (pv 1) (pa_cons (pv 2) pa_nil))))))
      (pss_one (ps_ret (pv 1))))), ?_⟩
  rintro H ds d ⟨a, vs, qs, rfl, hl, hv, hw, rfl⟩
  refine sd_seq (sd_asg (R := Same) (Same.refl _) (yd_q (q := 0)) fun H1 e1 => ?_)
  refine sd_seq (sd_forL (yd_var rfl) (e1 _ _ hl) (hv.mono e1) (fun i g' H' => (∃ o, g' = [some (.ref a), some (dq (sumq (qs.take i))), o]) ∧ Same H1 H') (fun _ _ _ h => h.2) (fun H2 e2 => ⟨⟨none, rfl⟩, e2⟩) ?_ ?_)
  · rintro i d g' H' hd ⟨⟨o, rfl⟩, e2⟩
    obtain ⟨q, hq, rfl⟩ := dqs_at hd
    have b1 := bt_sumq (qs.take i)
    have b2 := wt_take qs i
    have b3 := wt_mem (List.mem_of_getElem? hq)
    refine sd_asg (R := Same) (Same.refl _) (yd_ar (yd_var rfl) (yd_var rfl) (show bt _ + bt _ ≤ 9000 by omega)) fun H2 e3 => ⟨⟨some (dq q), ?_⟩, e2.trans e3⟩
    rw [sumq_take hq]
    rfl
  · rintro g' H' ⟨⟨o, rfl⟩, e2⟩
    rw [List.length_map, List.take_length]
    exact sd_ret (R := Same) (Same.refl _) (yd_var rfl) fun _ e3 => ⟨rfl, e1.trans (e2.trans e3)⟩
def r_isq : Hp → List D → D → Prop := fun _ ds d => ∃ q, ds = [dq q] ∧ d = .bl true
theorem ok_law_is_ratio (T : TX K mg) : Cal P w K mg base CX0 2 "_law_is_ratio" ["_law_thing"] (spP K r_isq) := by
  refine cal_pure (f_law_is_ratio T) (g_law_is_ratio T) sc_law_is_ratio bd_law_is_ratio (fun H ds d ⟨_, e, _⟩ => by rw [e]; rfl) fun cdv A outer s H E hr => ⟨_, (pss_cons (ps_if (PW.pt (pw_or (pt_not (pt_val (pe_callB (r := rIsi K) call_isi rfl (n_isinstance T) bo_isinstance (pa_cons (pv 0) (pa_cons (pe_ty (n_tuple T) bo_tuple) pa_nil))))) (pw_or1 (pt_cmpR op_ne (pe_callB (r := rLenX K) call_len rfl (n_len T) bo_len (pa_cons (pv 0) pa_nil)) pe_int (nomark _))))) (pss_one (ps_ret pe_bl)) pss_nil)
      (pss_cons (ps_for PassesOwn.never rfl (pi_tup (pv 0)) (pg_name (i := 1) sc_law_is_ratio.nd rfl (by first | exact Or.inl rfl | exact Or.inr rfl)) (pss_one (ps_if (PW.pt (pw_or (pt_not (pt_val (pe_callB (r := rIsi K) call_isi rfl (n_isinstance T) bo_isinstance (pa_cons (pv 1) (pa_cons (pe_ty (n_int T) bo_int) pa_nil))))) (pw_or1 (pt_val (pe_callB (r := rIsi K) call_isi rfl (n_isinstance T) bo_isinstance (pa_cons (pv 1) (pa_cons (pe_ty (n_bool T) bo_bool) pa_nil))))))) (pss_one (ps_ret pe_bl)) pss_nil)))
      (pss_one (ps_ret (pe_and (pe_cmpR op_ge (pe_ix (r := rIxT K) ix_tup (pv 0) pe_int (fun _ _ => rfl)) pe_int (nomark _)) (pe_one (pe_cmpR op_eq (pe_cal (ok_law_gcd T) (hr.mono (by decide)) rfl pass0 (pa_cons (pe_ix (r := rIxT K) ix_tup (pv 0) pe_int (fun _ _ => rfl)) (pa_cons (pe_ix (r := rIxT K) ix_tup (pv 0) pe_int (fun _ _ => rfl)) pa_nil))) pe_int (nomark _)))))))), ?_⟩
  rintro H ds d ⟨q, rfl, rfl⟩
  refine sd_seq (sd_ifF (R := Same) (Same.refl _) (yt_or0 (yt_not (yt_B (yd_isTup (yd_var rfl)))) (yt_test (yd_neI (yd_lenT (yd_var rfl)) yd_int))) fun H1 e1 => sd_next ?_)
  refine sd_seq (sd_forT (R := Same) (Same.refl _) (yd_var (d := dq q) rfl) (fun H2 i g' H' => (∃ o, g' = [some (dq q), o]) ∧ Same H2 H') (fun _ _ _ _ h => h.2) (fun H2 e2 => ⟨⟨none, rfl⟩, Same.refl _⟩) ?_ ?_)
  · rintro H2 i d g' H' e2 hd ⟨⟨o, rfl⟩, e3⟩
    obtain ⟨z, rfl⟩ : ∃ z, d = .int z := by
      match i, hd with
      | 0, hd => cases hd; exact ⟨_, rfl⟩
      | 1, hd => cases hd; exact ⟨_, rfl⟩
      | i + 2, hd => cases hd
    exact sd_ifF (R := Same) (Same.refl _) (yt_or0 (yt_not (yt_B (yd_isInt (yd_var (d := .int z) rfl)))) (yt_B (yd_isBool (yd_var (d := .int z) rfl)))) fun H3 e4 => sd_next ⟨⟨_, rfl⟩, e3.trans e4⟩
  · rintro H2 g' H' e2 ⟨⟨o, rfl⟩, e3⟩
    refine sd_ret (R := Same) (Same.refl _) ((yd_and1 (yd_cmp (yd_ixT (yd_var rfl) yd_int rfl) yd_int) (yd_eqI (yd_call (d := .int ((Nat.gcd q.num.natAbs ((q.den : Nat) : Int).natAbs : Nat) : Int)) (ya_cons (yd_ixT (d := .int q.num) (yd_var rfl) yd_int rfl) (ya_cons (yd_ixT (d := .int q.den) (yd_var rfl) yd_int rfl) ya_nil)) fun _ _ => ⟨_, _, rfl, rfl⟩) yd_int) (decide_eq_true (by have := q.den_pos; omega))).is ?_) fun H5 e5 => ⟨rfl, e1.trans (e2.trans (e3.trans e5))⟩
    have : Nat.gcd q.num.natAbs ((q.den : Nat) : Int).natAbs = 1 := q.reduced
    rw [this]
    rfl
theorem ok_law_square (T : TX K mg) : Cal P w K mg base CX0 4 "_law_square" ["_law_spot"] (spP K r_sq) := by
  refine cal_pure (f_law_square T) (g_law_square T) sc_law_square bd_law_square (fun H ds d ⟨_, e, _⟩ => by rw [e]; rfl) fun cdv A outer s H E hr => ⟨_, (pss_one (ps_ret (pe_cal (ok_law_plus T) (hr.mono (by decide)) rfl pass0 (pa_cons (pe_cal (ok_law_times T) (hr.mono (by decide)) rfl pass0 (pa_cons (pe_ix (r := rIxT K) ix_tup (pv 0) pe_int (fun _ _ => rfl)) (pa_cons (pe_ix (r := rIxT K) ix_tup (pv 0) pe_int (fun _ _ => rfl)) pa_nil))) (pa_cons (pe_cal (ok_law_times T) (hr.mono (by decide)) rfl pass0 (pa_cons (pe_ix (r := rIxT K) ix_tup (pv 0) pe_int (fun _ _ => rfl)) (pa_cons (pe_ix (r := rIxT K) ix_tup (pv 0) pe_int (fun _ _ => rfl)) pa_nil))) pa_nil))))), ?_⟩
  rintro H ds d ⟨u, rfl, hs, rfl⟩
  obtain ⟨a, b, c⟩ := sq_bd hs
  exact sd_ret (R := Same) (Same.refl _) (yd_ar (yd_ar (yd_ixT (d := dq u.1) (yd_var rfl) yd_int rfl) (yd_ixT (d := dq u.1) (yd_var rfl) yd_int rfl) a) (yd_ar (yd_ixT (d := dq u.2) (yd_var rfl) yd_int rfl) (yd_ixT (d := dq u.2) (yd_var rfl) yd_int rfl) b) c) fun H2 e2 => ⟨rfl, e2⟩
def r_same : Hp → List D → D → Prop := fun _ ds d => ∃ q, ds = [dq q, dq q] ∧ d = .bl true
theorem ok_law_same (T : TX K mg) : Cal P w K mg base CX0 1 "_law_same" ["_law_told", "_law_due"] (spP K r_same) := by
  refine cal_pure (f_law_same T) (g_law_same T) sc_law_same bd_law_same (fun H ds d ⟨_, e, _⟩ => by rw [e]; rfl) fun cdv A outer s H E hr => ⟨_, (pss_cons (ps_if (PW.pt (pw_or (pt_not (pt_val (pe_callB (r := rIsi K) call_isi rfl (n_isinstance T) bo_isinstance (pa_cons (pv 0) (pa_cons (pe_ty (n_tuple T) bo_tuple) pa_nil))))) (pw_or1 (pt_cmpR op_ne (pe_callB (r := rLenX K) call_len rfl (n_len T) bo_len (pa_cons (pv 0) pa_nil)) pe_int (nomark _))))) (pss_one (ps_ret pe_bl)) pss_nil)
      (pss_cons (ps_for PassesOwn.never rfl (pi_tup (pv 0)) (pg_name (i := 2) sc_law_same.nd rfl (by first | exact Or.inl rfl | exact Or.inr rfl)) (pss_one (ps_if (PW.pt (pw_or (pt_not (pt_val (pe_callB (r := rIsi K) call_isi rfl (n_isinstance T) bo_isinstance (pa_cons (pv 2) (pa_cons (pe_ty (n_int T) bo_int) pa_nil))))) (pw_or1 (pt_val (pe_callB (r := rIsi K) call_isi rfl (n_isinstance T) bo_isinstance (pa_cons (pv 2) (pa_cons (pe_ty (n_bool T) bo_bool) pa_nil))))))) (pss_one (ps_ret pe_bl)) pss_nil)))
      (pss_one (ps_ret (pe_and (pe_cmpR op_eq (pe_ix (r := rIxT K) ix_tup (pv 0) pe_int (fun _ _ => rfl)) (pe_ix (r := rIxT K) ix_tup (pv 1) pe_int (fun _ _ => rfl)) (nomark _)) (pe_one (pe_cmpR op_eq (pe_ix (r := rIxT K) ix_tup (pv 0) pe_int (fun _ _ => rfl)) (pe_ix (r := rIxT K) ix_tup (pv 1) pe_int (fun _ _ => rfl)) (nomark _)))))))), ?_⟩
  rintro H ds d ⟨q, rfl, rfl⟩
  refine sd_seq (sd_ifF (R := Same) (Same.refl _) (yt_or0 (yt_not (yt_B (yd_isTup (yd_var rfl)))) (yt_test (yd_neI (yd_lenT (yd_var rfl)) yd_int))) fun H1 e1 => sd_next ?_)
  refine sd_seq (sd_forT (R := Same) (Same.refl _) (yd_var (d := dq q) rfl) (fun H2 i g' H' => (∃ o, g' = [some (dq q), some (dq q), o]) ∧ Same H2 H') (fun _ _ _ _ h => h.2) (fun H2 e2 => ⟨⟨none, rfl⟩, Same.refl _⟩) ?_ ?_)
  · rintro H2 i d g' H' e2 hd ⟨⟨o, rfl⟩, e3⟩
    obtain ⟨z, rfl⟩ : ∃ z, d = .int z := by
      match i, hd with
      | 0, hd => cases hd; exact ⟨_, rfl⟩
      | 1, hd => cases hd; exact ⟨_, rfl⟩
      | i + 2, hd => cases hd
    exact sd_ifF (R := Same) (Same.refl _) (yt_or0 (yt_not (yt_B (yd_isInt (yd_var (d := .int z) rfl)))) (yt_B (yd_isBool (yd_var (d := .int z) rfl)))) fun H3 e4 => sd_next ⟨⟨_, rfl⟩, e3.trans e4⟩
  · rintro H2 g' H' e2 ⟨⟨o, rfl⟩, e3⟩
    exact sd_ret (R := Same) (Same.refl _) ((yd_and1 (yd_eqI (yd_ixT (d := .int q.num) (yd_var rfl) yd_int rfl) (yd_ixT (d := .int q.num) (yd_var rfl) yd_int rfl)) (yd_eqI (yd_ixT (d := .int q.den) (yd_var rfl) yd_int rfl) (yd_ixT (d := .int q.den) (yd_var rfl) yd_int rfl)) (by simp)).is (by simp)) fun H5 e5 => ⟨rfl, e1.trans (e2.trans (e3.trans e5))⟩
section
variable {R : Hp → Hp → Prop} [Rl R] {g : Gm} {H : Hp} {ta tb : TE} {a b : Bool}
theorem yd_isB (ha : Yd R K ta g H (.bl a)) (hb : Yd R K tb g H (.bl b)) : Yd R K (tOp (fun x y H Q => ∃ a b, x = .bl a ∧ y = .bl b ∧ Q (.bl (decide (a = b))) H) ta tb) g H (.bl (decide (a = b))) :=
  yd_op ha hb fun vx vy H1 e rx ry Q q => by
    cases rx; cases ry
    exact ⟨a, b, rfl, rfl, q _ H1 (Rl.self e) .bl⟩
theorem yd_notB (ha : Yd R K ta g H (.bl a)) (hb : Yd R K tb g H (.bl b)) : Yd R K (tOp (fun x y H Q => ∃ a b, x = .bl a ∧ y = .bl b ∧ Q (.bl (!decide (a = b))) H) ta tb) g H (.bl (!decide (a = b))) :=
  yd_op ha hb fun vx vy H1 e rx ry Q q => by
    cases rx; cases ry
    exact ⟨a, b, rfl, rfl, q _ H1 (Rl.self e) .bl⟩
end
def r_truth : Hp → List D → D → Prop := fun _ ds d => ∃ b, ds = [.bl b, .bl b] ∧ d = .bl true
theorem ok_law_truth (T : TX K mg) : Cal P w K mg base CX0 1 "_law_truth" ["_law_told", "_law_due"] (spP K r_truth) := by
  refine cal_pure (f_law_truth T) (g_law_truth T) sc_law_truth bd_law_truth (fun H ds d ⟨_, e, _⟩ => by rw [e]; rfl) fun cdv A outer s H E hr => ⟨_, (pss_one (ps_ret (pe_or (pe_and (pe_cmpR op_is_bl (pv 0) pe_bl (nomark _)) (pe_one (pv 1))) (pe_one (pe_and (pe_cmpR op_is_bl (pv 0) pe_bl (nomark _)) (pe_one (pe_not (pv 1)))))))), ?_⟩
  rintro H ds d ⟨b, rfl, rfl⟩
  cases b with
  | true => exact sd_ret (R := Same) (Same.refl _) (yd_or1 (b := true) (yd_and1 (yd_isB (yd_var rfl) yd_bl) (yd_var rfl))) fun H5 e5 => ⟨rfl, e5⟩
  | false => exact sd_ret (R := Same) (Same.refl _) (yd_or0 (b := false) (yd_and0 (yd_isB (yd_var rfl) yd_bl)) (yd_and1 (yd_isB (yd_var rfl) yd_bl) (yd_notV (yd_var rfl)))) fun H5 e5 => ⟨rfl, e5⟩
def r_ispose : Hp → List D → D → Prop := fun _ ds d => ∃ us : List Uv, ds = [dUs us, .int (us.length : Nat)] ∧ us.length ≤ 1000 ∧ PoseOk us ∧ d = .bl true
theorem ok_law_is_pose (T : TX K mg) : Cal P w K mg base CX0 5 "_law_is_pose" ["_law_told", "_law_n"] (spP K r_ispose) := by
  refine cal_pure (f_law_is_pose T) (g_law_is_pose T) sc_law_is_pose bd_law_is_pose (fun H ds d ⟨_, e, _⟩ => by rw [e]; rfl) fun cdv A outer s H E hr => ⟨_, (pss_cons (ps_if (PW.pt (pw_or (pt_not (pt_val (pe_callB (r := rIsi K) call_isi rfl (n_isinstance T) bo_isinstance (pa_cons (pv 0) (pa_cons (pe_ty (n_tuple T) bo_tuple) pa_nil))))) (pw_or1 (pt_cmpR op_ne (pe_callB (r := rLenX K) call_len rfl (n_len T) bo_len (pa_cons (pv 0) pa_nil)) (pv 1) (nomark _))))) (pss_one (ps_ret pe_bl)) pss_nil)
      (pss_cons (ps_for PassesOwn.never rfl (pi_tup (pv 0)) (pg_name (i := 2) sc_law_is_pose.nd rfl (by first | exact Or.inl rfl | exact Or.inr rfl)) (pss_cons (ps_if (PW.pt (pw_or (pt_not (pt_val (pe_callB (r := rIsi K) call_isi rfl (n_isinstance T) bo_isinstance (pa_cons (pv 2) (pa_cons (pe_ty (n_tuple T) bo_tuple) pa_nil))))) (pw_or1 (pt_cmpR op_ne (pe_callB (r := rLenX K) call_len rfl (n_len T) bo_len (pa_cons (pv 2) pa_nil)) pe_int (nomark _))))) (pss_one (ps_ret pe_bl)) pss_nil)
      (pss_one (ps_if (PW.pt (pw_or (pt_not (pt_val (pe_cal (ok_law_is_ratio T) (hr.mono (by decide)) rfl pass0 (pa_cons (pe_ix (r := rIxT K) ix_tup (pv 2) pe_int (fun _ _ => rfl)) pa_nil)))) (pw_or (pt_not (pt_val (pe_cal (ok_law_is_ratio T) (hr.mono (by decide)) rfl pass0 (pa_cons (pe_ix (r := rIxT K) ix_tup (pv 2) pe_int (fun _ _ => rfl)) pa_nil)))) (pw_or1 (pt_cmpR (r := rNeD K) (op_neD hr.units) (pe_cal (ok_law_square T) (hr.mono (by decide)) rfl pass0 (pa_cons (pv 2) pa_nil)) (pe_tup (pa_cons pe_int (pa_cons pe_int pa_nil))) (nomark _)))))) (pss_one (ps_ret pe_bl)) pss_nil))))
      (pss_one (ps_ret pe_bl)))), ?_⟩
  rintro H ds d ⟨us, rfl, hz, hp, rfl⟩
  have hlen : (us.map dUv).length = us.length := List.length_map ..
  refine sd_seq (sd_ifF (R := Same) (Same.refl _) (yt_or0 (yt_not (yt_B (yd_isTup (yd_var rfl)))) ((yt_test (yd_neI (yd_lenT (yd_var rfl)) (yd_var rfl))).is (c := false) (by rw [hlen]; simp))) fun H1 e1 => sd_next ?_)
  refine sd_seq (sd_forT (R := Same) (Same.refl _) (yd_var (d := dUs us) rfl) (fun H2 i g' H' => (∃ o, g' = [some (dUs us), some (.int (us.length : Nat)), o]) ∧ Same H2 H') (fun _ _ _ _ h => h.2) (fun H2 e2 => ⟨⟨none, rfl⟩, Same.refl _⟩) ?_ ?_)
  · rintro H2 i d g' H' e2 hd ⟨⟨o, rfl⟩, e3⟩
    obtain ⟨u, hu, rfl⟩ : ∃ u, us[i]? = some u ∧ d = dUv u := by
      rw [List.getElem?_map] at hd
      obtain ⟨b, h1, h2⟩ := Option.map_eq_some_iff.mp hd
      exact ⟨b, h1, h2.symm⟩
    obtain ⟨p1, p2⟩ := hp u (List.mem_of_getElem? hu)
    refine sd_seq (sd_ifF (R := Same) (Same.refl _) (yt_or0 (yt_not (yt_B (yd_isTup (yd_var (d := dUv u) rfl)))) (yt_test (yd_neI (yd_lenT (yd_var (d := dUv u) rfl)) yd_int))) fun H3 e4 => sd_next ?_)
    refine sd_ifF (R := Same) (Same.refl _) (yt_or0 (yt_not (yt_B (yd_call (d := .bl true) (ya_cons (yd_ixT (d := dq u.1) (yd_var (d := dUv u) rfl) yd_int rfl) ya_nil) fun _ _ => ⟨_, rfl, rfl⟩))) (yt_or0 (yt_not (yt_B (yd_call (d := .bl true) (ya_cons (yd_ixT (d := dq u.2) (yd_var (d := dUv u) rfl) yd_int rfl) ya_nil) fun _ _ => ⟨_, rfl, rfl⟩))) ((yt_test (yd_neQ (yd_sq (yd_var (d := dUv u) rfl) p1) (yd_q (q := 1)))).is (c := false) ?_))) fun H4 e5 => sd_next ⟨⟨_, rfl⟩, e3.trans (e4.trans e5)⟩
    rw [p2]
    rfl
  · rintro H2 g' H' e2 ⟨⟨o, rfl⟩, e3⟩
    exact sd_ret (R := Same) (Same.refl _) yd_bl fun H5 e5 => ⟨rfl, e1.trans (e2.trans (e3.trans e5))⟩
end K19
set_option maxHeartbeats 4000000
set_option exponentiation.threshold 20000
namespace K19
open PySem PySem.Spec PyProof.Rows L2
variable {P : Program} {w : World} {K : PySem.W.Frag} {mg : Str → Option Value} {base : Heap}
/-! ### the law's own rows and stands -/
theorem sc_law_most : FnScope ["_law_bars", "_law_bar"] ["_law_bars"] (defScope s_law_most) := ⟨rfl, rfl, rfl, by decide +kernel, rfl, by decide +kernel, by decide +kernel⟩
theorem bd_law_most : Bnd "_law_most" "_law_most" s_law_most ["_law_bars"] := fun _ _ _ _ _ _ us hl => match us, hl with | [_], _ => rfl
theorem sc_law_row : FnScope ["_law_bars", "_law_place", "_law_row_here", "_law_k", "_law_number", "_law_mark_here", "_law_turn", "_law_letter"] ["_law_bars", "_law_place"] (defScope s_law_row) := ⟨rfl, rfl, rfl, by decide +kernel, rfl, by decide +kernel, by decide +kernel⟩
theorem bd_law_row : Bnd "_law_row" "_law_row" s_law_row ["_law_bars", "_law_place"] := fun _ _ _ _ _ _ us hl => match us, hl with | [_, _], _ => rfl
theorem sc_law_apart : FnScope ["_law_bars", "_law_one", "_law_other", "_law_left", "_law_right", "_law_k"] ["_law_bars", "_law_one", "_law_other"] (defScope s_law_apart) := ⟨rfl, rfl, rfl, by decide +kernel, rfl, by decide +kernel, by decide +kernel⟩
theorem bd_law_apart : Bnd "_law_apart" "_law_apart" s_law_apart ["_law_bars", "_law_one", "_law_other"] := fun _ _ _ _ _ _ us hl => match us, hl with | [_, _, _], _ => rfl
theorem sc_law_direction : FnScope ["_law_half_here", "_law_square_here", "_law_bottom"] ["_law_half_here"] (defScope s_law_direction) := ⟨rfl, rfl, rfl, by decide +kernel, rfl, by decide +kernel, by decide +kernel⟩
theorem bd_law_direction : Bnd "_law_direction" "_law_direction" s_law_direction ["_law_half_here"] := fun _ _ _ _ _ _ us hl => match us, hl with | [_], _ => rfl
theorem sc_law_sine : FnScope ["_law_pose", "_law_j", "_law_k", "_law_directions", "_law_one", "_law_other"] ["_law_pose", "_law_j", "_law_k"] (defScope s_law_sine) := ⟨rfl, rfl, rfl, by decide +kernel, rfl, by decide +kernel, by decide +kernel⟩
theorem bd_law_sine : Bnd "_law_sine" "_law_sine" s_law_sine ["_law_pose", "_law_j", "_law_k"] := fun _ _ _ _ _ _ us hl => match us, hl with | [_, _, _], _ => rfl
theorem sc_law_stand : FnScope ["_law_bars", "_law_pose", "_law_place", "_law_number", "_law_mark_here", "_law_x", "_law_y", "_law_turn", "_law_letter", "_law_direction_here"] ["_law_bars", "_law_pose", "_law_place"] (defScope s_law_stand) := ⟨rfl, rfl, rfl, by decide +kernel, rfl, by decide +kernel, by decide +kernel⟩
theorem bd_law_stand : Bnd "_law_stand" "_law_stand" s_law_stand ["_law_bars", "_law_pose", "_law_place"] := fun _ _ _ _ _ _ us hl => match us, hl with | [_, _, _], _ => rfl
theorem sc_law_gap : FnScope ["_law_bars", "_law_pose", "_law_one", "_law_other", "_law_left", "_law_right"] ["_law_bars", "_law_pose", "_law_one", "_law_other"] (defScope s_law_gap) := ⟨rfl, rfl, rfl, by decide +kernel, rfl, by decide +kernel, by decide +kernel⟩
theorem bd_law_gap : Bnd "_law_gap" "_law_gap" s_law_gap ["_law_bars", "_law_pose", "_law_one", "_law_other"] := fun _ _ _ _ _ _ us hl => match us, hl with | [_, _, _, _], _ => rfl
def r_most : Hp → List D → D → Prop := fun _ ds d => ∃ bs n, ds = [dBars bs] ∧ GoodBars bs n ∧ d = .int (n : Nat)
theorem ok_law_most (T : TX K mg) : Cal P w K mg base CX0 1 "_law_most" ["_law_bars"] (spP K r_most) := by
  refine cal_pure (f_law_most T) (g_law_most T) sc_law_most bd_law_most (fun H ds d ⟨_, _, e, _⟩ => by rw [e]; rfl) fun cdv A outer s H E hr => ⟨_, (pss_one (ps_ret (pe_callB (r := rMax K) (cr_max rfl) rfl (n_max T) bo_max (pa_cons (pe_lc (own := [("_law_bar", 1)]) rfl sc_law_most.nd (pi_tup (pv 0)) (blkOk_by (own := [("_law_bar", 1)]) (N := ["_law_bars", "_law_bar"]) (sc := defScope s_law_most) (by decide +kernel)) (fun _ _ _ _ _ => pg_name (i := 1) sc_law_most.nd rfl (Or.inl rfl)) (fun _ _ _ _ _ => pts_nil) (fun _ _ _ _ _ => (pe_ix (r := rIxT K) ix_tup (pv 1) pe_int (fun _ _ => rfl)))) pa_nil)))), ?_⟩
  rintro H ds d ⟨bs, n, rfl, G, rfl⟩
  refine sd_ret (R := Same) (Same.refl _) (yd_maxL (ns := bs.map fun b => (b.letter : Int)) (m := n) (yl_lc (n := (bs.map dBar).length) (yi_tup (yd_var (i := 0) rfl)) (fun i hi => tg_name) (by
      have := G.few
      rw [List.length_map]; omega) (by rw [List.length_map, List.length_map, List.length_map]) ?_) ?_ ?_) fun H2 e2 => ⟨rfl, e2⟩
  · intro i d hd H2 e2
    obtain ⟨b, hb, rfl⟩ : ∃ b, bs[i]? = some b ∧ d = .int b.letter := by
      rw [List.getElem?_map, List.getElem?_map] at hd
      cases q : bs[i]? with
      | none => rw [q] at hd; cases hd
      | some b => rw [q] at hd; cases hd; exact ⟨b, rfl, rfl⟩
    rw [dBars_at hb]
    exact yd_ixT (yd_var (d := dBar b) rfl) yd_int rfl
  · obtain ⟨b, hb, e⟩ := G.all n G.n1 (Nat.le_refl _)
    exact List.mem_map.mpr ⟨b, hb, by rw [e]⟩
  · intro y hy
    obtain ⟨b, hb, rfl⟩ := List.mem_map.mp hy
    have := G.let_ b hb
    omega
section
variable {R : Hp → Hp → Prop} [Rl R] {g : Gm} {H : Hp} {te : TE} {W : XK} {bs : List Bar} {n : Nat}
theorem yd_most (h : Yd R K te g H (dBars bs)) (G : GoodBars bs n) : Yd R K (tCall (spP K r_most) [] W (tCons te tNil)) g H (.int (n : Nat)) := yd_call (ya_cons h ya_nil) fun _ _ => ⟨bs, n, rfl, G, rfl⟩
end
theorem bars_ix {bs : List Bar} {k : Int} {b : Bar} (h : 0 ≤ k) (hb : bs[k.toNat]? = some b) : atI (bs.map dBar) k = some (dBar b) := by
  have hk : ((k.toNat : Nat) : Int) = k := by omega
  rw [← hk]
  exact atI_nat (by rw [List.getElem?_map, hb]; rfl)
def r_lrow : Hp → List D → D → Prop := fun _ ds d => ∃ bs n k m, ds = [dBars bs, .tup [.int k, dq m]] ∧ GoodBars bs n ∧ -1 ≤ k ∧ k < bs.length ∧ wtS (steps bs k m) ≤ 3000 ∧ d = dqs (rowOf n (steps bs k m))
theorem ok_law_row (T : TX K mg) : Cal P w K mg base CX0 4 "_law_row" ["_law_bars", "_law_place"] (spP K r_lrow) := by
  refine cal_pure (f_law_row T) (g_law_row T) sc_law_row bd_law_row (fun H ds d ⟨_, _, _, _, e, _⟩ => by rw [e]; rfl) fun cdv A outer s H E hr => ⟨_, (pss_cons (ps_setLc (i := 2) (own := [("_law_k", 3)]) rfl sc_law_row.nd rfl rfl (sw_true rfl rfl rfl (by decide +kernel)) (pi_range1 rfl (n_range T) (pa_cons (pe_op op_add (pe_cal (ok_law_most T) (hr.mono (by decide)) rfl pass0 (pa_cons (pv 0) pa_nil)) pe_int) pa_nil)) (blkOk_by (own := [("_law_k", 3)]) (N := ["_law_bars", "_law_place", "_law_row_here", "_law_k", "_law_number", "_law_mark_here", "_law_turn", "_law_letter"]) (sc := defScope s_law_row) (by decide +kernel)) (fun _ _ _ _ _ => pg_name (i := 3) sc_law_row.nd rfl (Or.inl rfl)) (fun _ _ _ _ _ => pts_nil) (fun _ _ _ _ _ => (pe_tup (pa_cons pe_int (pa_cons pe_int pa_nil)))))
      (pss_cons (ps_asg (pv 1) (pg_tup (n := 2) rfl (pgs_cons (pg_name (i := 4) sc_law_row.nd rfl (by first | exact Or.inl rfl | exact Or.inr rfl)) (pgs_cons (pg_name (i := 5) sc_law_row.nd rfl (by first | exact Or.inl rfl | exact Or.inr rfl)) pgs_nil))))
      (pss_cons (ps_for PassesOwn.never rfl (pi_range1 rfl (n_range T) (pa_cons (pe_op op_add (pe_callB (r := rLenX K) call_len rfl (n_len T) bo_len (pa_cons (pv 0) pa_nil)) pe_int) pa_nil)) (pg_name (i := 6) sc_law_row.nd rfl (by first | exact Or.inl rfl | exact Or.inr rfl)) (pss_cons (ps_set (i := 7) sc_law_row.nd rfl (by first | exact Or.inl rfl | exact Or.inr rfl) (pe_ifExp (pt_cmpR op_lt (pv 4) pe_int (nomark _)) pe_int (pe_ix (r := rIxT K) ix_tup (pe_ix (r := rIxT K) ix_tup (pv 0) (pv 4) (fun _ _ => rfl)) pe_int (fun _ _ => rfl))))
      (pss_cons (ps_asg (pe_cal (ok_law_plus T) (hr.mono (by decide)) rfl pass0 (pa_cons (pe_ix (r := rIxL K) ix_list (pv 2) (pv 7) (fun _ _ => rfl)) (pa_cons (pv 5) pa_nil))) (pg_sub (pv 2) (pv 7) set_list))
      (pss_cons (ps_if (pt_cmpR op_lt (pv 4) pe_int (nomark _)) (pss_one (ps_ret (pe_callTy (r := rTupOf K) call_tuple_of rfl (n_tuple T) bo_tuple (pa_cons (pv 2) pa_nil)))) pss_nil)
      (pss_one (ps_par (i := 4) (j := 5) (by rfl) sc_law_row.nd rfl rfl (by decide) rfl rfl (pa_cons (pe_ix (r := rIxT K) ix_tup (pe_ix (r := rIxT K) ix_tup (pv 0) (pv 4) (fun _ _ => rfl)) pe_int (fun _ _ => rfl)) (pa_cons (pe_ix (r := rIxT K) ix_tup (pe_ix (r := rIxT K) ix_tup (pv 0) (pv 4) (fun _ _ => rfl)) pe_int (fun _ _ => rfl)) pa_nil)) (by rfl)))))))
      (pss_one (ps_ret (pe_callTy (r := rTupOf K) call_tuple_of rfl (n_tuple T) bo_tuple (pa_cons (pv 2) pa_nil))))))), ?_⟩
  rintro H ds d ⟨bs, n, k, m, rfl, G, h1, h2, hw, rfl⟩
  have n4 := G.n4
  have few := G.few
  refine sd_seq (sd_asgN (yl_lc (es := (List.replicate (n + 1) 0).map dq) (yi_range1 (m := (n : Int) + 1) (ya_cons (yd_I0 (yd_most (yd_var (i := 0) rfl) G) yd_int) ya_nil) (by omega)) (fun i hi => tg_name) (by omega) (by rw [List.length_map, List.length_replicate]; omega) ?_) fun a us H1 hn e1 hl hv => ?_)
  · intro i d hd H2 e2
    obtain ⟨q, hq, rfl⟩ := dqs_at hd
    rw [List.getElem?_replicate] at hq
    split at hq
    · cases hq
      exact yd_q (q := 0)
    · cases hq
  refine sd_seq (sd_tup2 (R := Same) (Same.refl _) (yd_var (d := .tup [.int k, dq m]) rfl) fun H2 e2 => ?_)
  refine sd_seq (sd_forR1 (R := Same) (n := (bs.length : Int) + 1) (Same.refl _) (ya_cons (yd_I0 ((yd_lenT (yd_var (d := dBars bs) rfl)).is (by rw [List.length_map])) yd_int) ya_nil) (by omega) (fun H3 i g' H' => ∃ (k2 : Int) (m2 : Rat) (row : List Rat) (o6 o7 : Option D) (vs : List V), g' = [some (dBars bs), some (.tup [.int k, dq m]), some (.ref a), none, some (.int k2), some (dq m2), o6, o7] ∧ -1 ≤ k2 ∧ k2 < bs.length ∧ (k2 + 1).toNat + i ≤ bs.length ∧
    H' a = some (.lst vs) ∧ RpL K H' vs (row.map dq) ∧ row.length = n + 1 ∧ (steps bs k2 m2).foldl addAt row = rowOf n (steps bs k m) ∧ wtR row + wtS (steps bs k2 m2) ≤ 4000 ∧ Mu a H1 H') (fun H3 e3 => ⟨k, m, List.replicate (n + 1) 0, none, none, us, rfl, h1, h2, by omega, e3 _ _ (e2 _ _ hl), hv.mono (e2.trans e3), List.length_replicate, rfl, by rw [wtR_zeros]; omega, Mu.of (e2.trans e3)⟩) ?_ ?_)
  · rintro H3 i g' H' e3 hi ⟨k, m, row, o6, o7, vs, rfl, h1, h2, hfu, hl, hv, hrl, hf, hw, mu⟩
    by_cases hk : k < 0
    · have hst := steps_neg (bs := bs) (m := m) hk
      rw [hst] at hf hw
      replace hw : wtR row + ((bt m + 1) + wtS []) ≤ 4000 := hw
      have w1 := wt_mem (getD_mem (l := row) (i := 0) (by omega))
      refine sd_seq (sd_asg (R := Same) (d := .int 0) (Same.refl _) (yd_ifT (yt_test (yd_cmp (yd_var (d := .int k) rfl) yd_int)) yd_int (decide_eq_true hk)) fun H4 e4 => ?_)
      refine sd_seq (sd_setL (vs := vs) (ds := row.map dq) (j := 0) (yd_ar (q := row.getD 0 0) (yd_ixL (yd_var (d := .ref a) rfl) (yd_var (d := .int 0) rfl) (fun H5 e5 => ⟨e5 _ _ (e4 _ _ hl), hv.mono (e4.trans e5)⟩) (atI_nat (k := 0) (dqs_get (by omega)))) (yd_var (d := dq m) rfl) (show bt _ + bt _ ≤ 9000 by omega)) (yd_var rfl) (yd_var rfl) (e4 _ _ hl) (hv.mono e4) (ixN_nat (k := 0) (by rw [List.length_map]; omega)) fun H5 us5 mu5 hl5 hv5 => ?_)
      rw [map_set] at hv5
      refine sd_seq (sd_ifT (R := Same) (Same.refl _) (yt_test (yd_cmp (yd_var (d := .int k) rfl) yd_int)) (fun H6 e6 => sd_ret (R := Same) (Same.refl _) (yd_tupL (yd_var rfl) fun H7 e7 => ⟨e7 _ _ (e6 _ _ hl5), hv5.mono (e6.trans e7)⟩) fun H7 e7 => ⟨?_, ((mu.trans ((Mu.of e4).trans mu5)).same e1 hn).trans (e6.trans e7)⟩) (decide_eq_true hk))
      show dqs (addAt row (0, m)) = _
      rw [← hf]
      rfl
    · obtain ⟨b, hb⟩ : ∃ b, bs[k.toNat]? = some b := ⟨bs[k.toNat]'(by omega), List.getElem?_eq_getElem (by omega)⟩
      have hh := G.host _ _ hb
      have hlt := G.let_ b (List.mem_of_getElem? hb)
      have hst := steps_pos G (m := m) (by omega) hb
      rw [hst] at hf hw
      replace hw : wtR row + ((bt m + 1) + wtS (steps bs b.host b.mark)) ≤ 4000 := by rw [← wtS_cons (b.letter, m)]; exact hw
      have w1 := wt_mem (getD_mem (l := row) (i := b.letter) (by omega))
      have hix := bars_ix (by omega) hb
      refine sd_seq (sd_asg (R := Same) (d := .int b.letter) (Same.refl _) (yd_ifF (yt_test (yd_cmp (yd_var (d := .int k) rfl) yd_int)) (yd_ixT (yd_ixT (d := dBar b) (yd_var (d := dBars bs) rfl) (yd_var (d := .int k) rfl) hix) yd_int rfl) (decide_eq_false hk)) fun H4 e4 => ?_)
      refine sd_seq (sd_setL (vs := vs) (ds := row.map dq) (j := b.letter) (yd_ar (q := row.getD b.letter 0) (yd_ixL (yd_var (d := .ref a) rfl) (yd_var (d := .int b.letter) rfl) (fun H5 e5 => ⟨e5 _ _ (e4 _ _ hl), hv.mono (e4.trans e5)⟩) (atI_nat (dqs_get (by omega)))) (yd_var (d := dq m) rfl) (show bt _ + bt _ ≤ 9000 by omega)) (yd_var rfl) (yd_var rfl) (e4 _ _ hl) (hv.mono e4) (ixN_nat (by rw [List.length_map]; omega)) fun H5 us5 mu5 hl5 hv5 => ?_)
      refine sd_seq (sd_ifF (R := Same) (Same.refl _) (yt_test (yd_cmp (yd_var (d := .int k) rfl) yd_int)) (fun H6 e6 => sd_next ?_) (decide_eq_false hk))
      refine sd_par (R := Same) (Same.refl _) (ya_cons (yd_ixT (d := .int b.host) (yd_ixT (d := dBar b) (yd_var (d := dBars bs) rfl) (yd_var (d := .int k) rfl) hix) yd_int rfl) (ya_cons (yd_ixT (d := dq b.mark) (yd_ixT (d := dBar b) (yd_var (d := dBars bs) rfl) (yd_var (d := .int k) rfl) hix) yd_int rfl) ya_nil)) fun H7 e7 => ⟨b.host, b.mark, addAt row (b.letter, m), _, _, us5, rfl, hh.1, by omega, by omega, e7 _ _ (e6 _ _ hl5), ?_, ?_, ?_, ?_, mu.trans ((Mu.of e4).trans (mu5.trans (Mu.of (e6.trans e7))))⟩
      · rw [map_set] at hv5
        exact hv5.mono (e6.trans e7)
      · rw [addAt_len]; exact hrl
      · exact hf
      · have := wtR_addAt row (b.letter, m)
        have e : bt (b.letter, m).2 = bt m := rfl
        rw [e] at this
        omega
  · rintro H3 g' H' e3 ⟨k, m, row, o6, o7, vs, rfl, h1, h2, hfu, _⟩
    omega
section
variable {R : Hp → Hp → Prop} [Rl R] {g : Gm} {H : Hp} {ta tb : TE} {W : XK} {bs : List Bar} {n : Nat} {k : Int} {m : Rat}
/-- a place within the bars, its walk not too long -/
structure PlW (bs : List Bar) (k : Int) (m : Rat) : Prop where
  lo : -1 ≤ k
  hi : k < bs.length
  w : wtS (steps bs k m) ≤ 1400
theorem yd_lrow (h : Yd R K ta g H (dBars bs)) (h2 : Yd R K tb g H (.tup [.int k, dq m])) (G : GoodBars bs n) (p : PlW bs k m) : Yd R K (tCall (spP K r_lrow) [] W (tCons ta (tCons tb tNil))) g H (dqs (rowOf n (steps bs k m))) := yd_call (ya_cons h (ya_cons h2 ya_nil)) fun _ _ => ⟨bs, n, k, m, rfl, G, p.lo, p.hi, Nat.le_trans p.w (by decide), rfl⟩
end
def r_apart : Hp → List D → D → Prop := fun _ ds d => ∃ bs n k m j l, ds = [dBars bs, .tup [.int k, dq m], .tup [.int j, dq l]] ∧ GoodBars bs n ∧ PlW bs k m ∧ PlW bs j l ∧ d = dqs (drow bs n k m j l)
theorem ok_law_apart (T : TX K mg) : Cal P w K mg base CX0 5 "_law_apart" ["_law_bars", "_law_one", "_law_other"] (spP K r_apart) := by
  refine cal_pure (f_law_apart T) (g_law_apart T) sc_law_apart bd_law_apart (fun H ds d ⟨_, _, _, _, _, _, e, _⟩ => by rw [e]; rfl) fun cdv A outer s H E hr => ⟨_, (pss_cons (ps_set (i := 3) sc_law_apart.nd rfl (by first | exact Or.inl rfl | exact Or.inr rfl) (pe_cal (ok_law_row T) (hr.mono (by decide)) rfl pass0 (pa_cons (pv 0) (pa_cons (pv 1) pa_nil))))
      (pss_cons (ps_set (i := 4) sc_law_apart.nd rfl (by first | exact Or.inl rfl | exact Or.inr rfl) (pe_cal (ok_law_row T) (hr.mono (by decide)) rfl pass0 (pa_cons (pv 0) (pa_cons (pv 2) pa_nil))))
      (pss_one (ps_ret (pe_callTy (r := rTupOf K) call_tuple_of rfl (n_tuple T) bo_tuple (pa_cons (pe_lc (own := [("_law_k", 5)]) rfl sc_law_apart.nd (pi_range1 rfl (n_range T) (pa_cons (pe_callB (r := rLenX K) call_len rfl (n_len T) bo_len (pa_cons (pv 3) pa_nil)) pa_nil)) (blkOk_by (own := [("_law_k", 5)]) (N := ["_law_bars", "_law_one", "_law_other", "_law_left", "_law_right", "_law_k"]) (sc := defScope s_law_apart) (by decide +kernel)) (fun _ _ _ _ _ => pg_name (i := 5) sc_law_apart.nd rfl (Or.inl rfl)) (fun _ _ _ _ _ => pts_nil) (fun _ _ _ _ _ => (pe_cal (ok_law_less T) (hr.mono (by decide)) rfl pass0 (pa_cons (pe_ix (r := rIxT K) ix_tup (pv 3) (pv 5) (fun _ _ => rfl)) (pa_cons (pe_ix (r := rIxT K) ix_tup (pv 4) (pv 5) (fun _ _ => rfl)) pa_nil))))) pa_nil)))))), ?_⟩
  rintro H ds d ⟨bs, n, k, m, j, l, rfl, G, p1, p2, rfl⟩
  have n4 := G.n4
  have w1 := wtR_row n (steps bs k m)
  have w2 := wtR_row n (steps bs j l)
  have q1 := p1.w
  have q2 := p2.w
  have l1 := rowOf_len n (steps bs k m)
  have l2 := rowOf_len n (steps bs j l)
  refine sd_seq (sd_asg (R := Same) (Same.refl _) (yd_lrow (yd_var (d := dBars bs) rfl) (yd_var (d := .tup [.int k, dq m]) rfl) G p1) fun H1 e1 => ?_)
  refine sd_seq (sd_asg (R := Same) (Same.refl _) (yd_lrow (yd_var (d := dBars bs) rfl) (yd_var (d := .tup [.int j, dq l]) rfl) G p2) fun H2 e2 => ?_)
  refine sd_ret (R := Same) (Same.refl _) (yd_tupOf (yl_lc (yi_range1 (m := (n : Int) + 1) (ya_cons ((yd_lenT (yd_var (i := 3) (d := dqs (rowOf n (steps bs k m))) rfl)).is (by rw [List.length_map, l1]; rfl)) ya_nil) (by omega)) (fun i hi => tg_name) (by omega) (by rw [List.length_map, drow_len]; omega) ?_)) fun H3 e3 => ⟨rfl, e1.trans (e2.trans e3)⟩
  intro i d hd H4 e4
  obtain ⟨r, hr2, rfl⟩ := dqs_at hd
  have hi : i < n + 1 := by
    have := (List.getElem?_eq_some_iff.mp hr2).1
    rw [drow_len] at this
    exact this
  unfold drow at hr2
  rw [subR_at (by rw [l1, l2]) (by omega)] at hr2
  cases hr2
  have b1 := wt_mem (getD_mem (l := rowOf n (steps bs k m)) (i := i) (by omega))
  have b2 := wt_mem (getD_mem (l := rowOf n (steps bs j l)) (i := i) (by omega))
  exact yd_ar (yd_ixT (yd_var (d := dqs (rowOf n (steps bs k m))) rfl) (yd_var (d := .int (i : Int)) rfl) (atI_nat (dqs_get (by omega)))) (yd_ixT (yd_var (d := dqs (rowOf n (steps bs j l))) rfl) (yd_var (d := .int (i : Int)) rfl) (atI_nat (dqs_get (by omega)))) (show bt _ + bt _ ≤ 9000 by omega)
/-! directions -/
def dirOf (h : Rat) : Uv := (-2 * h / (1 + h * h), (1 - h * h) / (1 + h * h))
theorem one_sq_ne (h : Rat) : 1 + h * h ≠ 0 := by
  have : 0 ≤ h * h := by
    rcases Rat.le_total (a := 0) (b := h) with q | q
    · exact Rat.mul_nonneg q q
    · have q2 : 0 ≤ -h := by grind
      have := Rat.mul_nonneg q2 q2
      grind
  grind
theorem bt_m2 : bt (-2) = 2 := by decide +kernel
theorem dirOf_bt (h : Rat) : bt (dirOf h).1 ≤ 3 * bt h + 5 ∧ bt (dirOf h).2 ≤ 4 * bt h + 6 := by
  have a1 := bt_mul h h
  have a2 := bt_add 1 (h * h)
  have a3 := bt_sub 1 (h * h)
  have a4 := bt_mul (-2) h
  have a5 := bt_div (q := -2 * h) (one_sq_ne h)
  have a6 := bt_div (q := 1 - h * h) (one_sq_ne h)
  rw [bt1] at a2 a3
  rw [bt_m2] at a4
  unfold dirOf
  constructor
  · show bt (-2 * h / (1 + h * h)) ≤ _; omega
  · show bt ((1 - h * h) / (1 + h * h)) ≤ _; omega
def r_dirn : Hp → List D → D → Prop := fun _ ds d => (ds = [.non] ∧ d = dUv (0, -1)) ∨ ∃ h, ds = [dq h] ∧ bt h ≤ 1000 ∧ d = dUv (dirOf h)
theorem ok_law_direction (T : TX K mg) : Cal P w K mg base CX0 4 "_law_direction" ["_law_half_here"] (spP K r_dirn) := by
  refine cal_pure (f_law_direction T) (g_law_direction T) sc_law_direction bd_law_direction (fun H ds d h => by rcases h with ⟨e, _⟩ | ⟨_, e, _⟩ <;> (rw [e]; rfl)) fun cdv A outer s H E hr => ⟨_, (pss_cons (ps_if (pt_cmpR op_isN (pv 0) pe_non (nomark _)) (pss_one (ps_ret (pe_tup (pa_cons (pe_tup (pa_cons pe_int (pa_cons pe_int pa_nil))) (pa_cons (pe_tup (pa_cons (pe_un un_neg pe_int) (pa_cons pe_int pa_nil))) pa_nil))))) pss_nil)
      (pss_cons (ps_set (i := 1) sc_law_direction.nd rfl (by first | exact Or.inl rfl | exact Or.inr rfl) (pe_cal (ok_law_times T) (hr.mono (by decide)) rfl pass0 (pa_cons (pv 0) (pa_cons (pv 0) pa_nil))))
      (pss_cons (ps_set (i := 2) sc_law_direction.nd rfl (by first | exact Or.inl rfl | exact Or.inr rfl) (pe_cal (ok_law_plus T) (hr.mono (by decide)) rfl pass0 (pa_cons (pe_tup (pa_cons pe_int (pa_cons pe_int pa_nil))) (pa_cons (pv 1) pa_nil))))
      (pss_one (ps_ret (pe_tup (pa_cons (pe_cal (ok_law_over T) (hr.mono (by decide)) rfl pass0 (pa_cons (pe_cal (ok_law_times T) (hr.mono (by decide)) rfl pass0 (pa_cons (pe_tup (pa_cons (pe_un un_neg pe_int) (pa_cons pe_int pa_nil))) (pa_cons (pv 0) pa_nil))) (pa_cons (pv 2) pa_nil))) (pa_cons (pe_cal (ok_law_over T) (hr.mono (by decide)) rfl pass0 (pa_cons (pe_cal (ok_law_less T) (hr.mono (by decide)) rfl pass0 (pa_cons (pe_tup (pa_cons pe_int (pa_cons pe_int pa_nil))) (pa_cons (pv 1) pa_nil))) (pa_cons (pv 2) pa_nil))) pa_nil)))))))), ?_⟩
  rintro H ds d (⟨rfl, rfl⟩ | ⟨h, rfl, hb, rfl⟩)
  · exact sd_seq (sd_ifT (R := Same) (Same.refl _) (yt_test (yd_isN (yd_var rfl))) fun H1 e1 => sd_ret (R := Same) (Same.refl _) (yd_tup (ya_cons (yd_q (q := 0)) (ya_cons (yd_qn (q := -1)) ya_nil))) fun H2 e2 => ⟨rfl, e1.trans e2⟩)
  · have a1 := bt_mul h h
    have a2 := bt_add 1 (h * h)
    have a3 := bt_sub 1 (h * h)
    have a4 := bt_mul (-2) h
    rw [bt1] at a2 a3
    rw [bt_m2] at a4
    refine sd_seq (sd_ifF (R := Same) (Same.refl _) (yt_test (yd_isN (yd_var (d := dq h) rfl))) fun H1 e1 => sd_next ?_)
    refine sd_seq (sd_asg (R := Same) (Same.refl _) (yd_ar (yd_var (d := dq h) rfl) (yd_var (d := dq h) rfl) (show bt _ + bt _ ≤ 9000 by omega)) fun H2 e2 => ?_)
    refine sd_seq (sd_asg (R := Same) (Same.refl _) (yd_ar (yd_q (q := 1)) (yd_var (d := dq (h * h)) rfl) (show bt _ + bt _ ≤ 9000 by rw [bt1]; omega)) fun H3 e3 => ?_)
    exact sd_ret (R := Same) (Same.refl _) (yd_tup (ya_cons (yd_over (yd_ar (yd_qn (q := -2)) (yd_var (d := dq h) rfl) (show bt _ + bt _ ≤ 9000 by rw [bt_m2]; omega)) (yd_var (d := dq (1 + h * h)) rfl) (show bt _ + bt _ ≤ 9000 by omega) (one_sq_ne h)) (ya_cons (yd_over (yd_ar (yd_q (q := 1)) (yd_var (d := dq (h * h)) rfl) (show bt _ + bt _ ≤ 9000 by rw [bt1]; omega)) (yd_var (d := dq (1 + h * h)) rfl) (show bt _ + bt _ ≤ 9000 by omega) (one_sq_ne h)) ya_nil))) fun H4 e4 => ⟨rfl, e1.trans (e2.trans (e3.trans e4))⟩
def r_sine : Hp → List D → D → Prop := fun _ ds d => ∃ u v us, ds = [dUs (u :: v :: us), .int 1, .int 2] ∧ us.length ≤ 1000 ∧ Sq u ∧ Sq v ∧ d = dq (u.1 * v.2 - u.2 * v.1)
theorem ok_law_sine (T : TX K mg) : Cal P w K mg base CX0 4 "_law_sine" ["_law_pose", "_law_j", "_law_k"] (spP K r_sine) := by
  refine cal_pure (f_law_sine T) (g_law_sine T) sc_law_sine bd_law_sine (fun H ds d ⟨_, _, _, e, _⟩ => by rw [e]; rfl) fun cdv A outer s H E hr => ⟨_, (pss_cons (ps_set (i := 3) sc_law_sine.nd rfl (by first | exact Or.inl rfl | exact Or.inr rfl) (pe_op (r := rCatA K) op_catA (pe_tup (pa_cons (pe_tup (pa_cons (pe_tup (pa_cons pe_int (pa_cons pe_int pa_nil))) (pa_cons (pe_tup (pa_cons pe_int (pa_cons pe_int pa_nil))) pa_nil))) pa_nil)) (pe_callTy (r := rTupOf K) call_tuple_of rfl (n_tuple T) bo_tuple (pa_cons (pv 0) pa_nil))))
      (pss_cons (ps_par (i := 4) (j := 5) (by rfl) sc_law_sine.nd rfl rfl (by decide) rfl rfl (pa_cons (pe_ix (r := rIxT K) ix_tup (pv 3) (pv 1) (fun _ _ => rfl)) (pa_cons (pe_ix (r := rIxT K) ix_tup (pv 3) (pv 2) (fun _ _ => rfl)) pa_nil)) (by rfl))
      (pss_one (ps_ret (pe_cal (ok_law_less T) (hr.mono (by decide)) rfl pass0 (pa_cons (pe_cal (ok_law_times T) (hr.mono (by decide)) rfl pass0 (pa_cons (pe_ix (r := rIxT K) ix_tup (pv 4) pe_int (fun _ _ => rfl)) (pa_cons (pe_ix (r := rIxT K) ix_tup (pv 5) pe_int (fun _ _ => rfl)) pa_nil))) (pa_cons (pe_cal (ok_law_times T) (hr.mono (by decide)) rfl pass0 (pa_cons (pe_ix (r := rIxT K) ix_tup (pv 4) pe_int (fun _ _ => rfl)) (pa_cons (pe_ix (r := rIxT K) ix_tup (pv 5) pe_int (fun _ _ => rfl)) pa_nil))) pa_nil))))))), ?_⟩
  rintro H ds d ⟨u, v, us, rfl, hz, hu, hv, rfl⟩
  unfold Sq at hu hv
  have a1 := bt_mul u.1 v.2
  have a2 := bt_mul u.2 v.1
  refine sd_seq (sd_asg (R := Same) (d := dUs (upU :: u :: v :: us)) (Same.refl _) (yd_cat (es := (u :: v :: us).map dUv) (yd_tup (ya_cons (yd_tup (ya_cons (yd_q (q := 0)) (ya_cons (yd_q (q := 1)) ya_nil))) ya_nil)) (yd_tupT (yd_var (d := dUs (u :: v :: us)) rfl)) (by simp; omega)) fun H1 e1 => ?_)
  have i1 : atI ((upU :: u :: v :: us).map dUv) 1 = some (dUv u) := atI_nat (k := 1) rfl
  have i2 : atI ((upU :: u :: v :: us).map dUv) 2 = some (dUv v) := atI_nat (k := 2) rfl
  refine sd_seq (sd_par (R := Same) (Same.refl _) (ya_cons (yd_ixT (d := dUv u) (yd_var (d := dUs (upU :: u :: v :: us)) rfl) (yd_var (d := .int 1) rfl) i1) (ya_cons (yd_ixT (d := dUv v) (yd_var (d := dUs (upU :: u :: v :: us)) rfl) (yd_var (d := .int 2) rfl) i2) ya_nil)) fun H2 e2 => ?_)
  exact sd_ret (R := Same) (Same.refl _) (yd_ar (yd_ar (yd_ixT (d := dq u.1) (yd_var (d := dUv u) rfl) yd_int rfl) (yd_ixT (d := dq v.2) (yd_var (d := dUv v) rfl) yd_int rfl) (show bt _ + bt _ ≤ 9000 by omega)) (yd_ar (yd_ixT (d := dq u.2) (yd_var (d := dUv u) rfl) yd_int rfl) (yd_ixT (d := dq v.1) (yd_var (d := dUv v) rfl) yd_int rfl) (show bt _ + bt _ ≤ 9000 by omega)) (show bt (u.1 * v.2) + bt (u.2 * v.1) ≤ 9000 by omega)) fun H3 e3 => ⟨rfl, e1.trans (e2.trans e3)⟩
/-! stands -/
def dirL (us : List Uv) (l : Nat) : Uv := (upU :: us).getD l (0, 0)
def stp (us : List Uv) (s : Uv) (p : Nat × Rat) : Uv := (s.1 + p.2 * (dirL us p.1).1, s.2 + p.2 * (dirL us p.1).2)
def standR (us : List Uv) (st : List (Nat × Rat)) : Uv := st.foldl (stp us) (0, 0)
def wtT (us : List Uv) (st : List (Nat × Rat)) : Nat := (st.map fun p => bt p.2 + bt (dirL us p.1).1 + bt (dirL us p.1).2 + 1).sum
theorem wtT_cons (us : List Uv) (p : Nat × Rat) (st : List (Nat × Rat)) : wtT us (p :: st) = (bt p.2 + bt (dirL us p.1).1 + bt (dirL us p.1).2 + 1) + wtT us st := by simp [wtT]
theorem stand_bt (us : List Uv) (st : List (Nat × Rat)) (s : Uv) : bt (st.foldl (stp us) s).1 ≤ bt s.1 + wtT us st ∧ bt (st.foldl (stp us) s).2 ≤ bt s.2 + wtT us st := by
  induction st generalizing s with
  | nil => simp [wtT]
  | cons p st ih =>
    have h := ih (stp us s p)
    have a1 := bt_add s.1 (p.2 * (dirL us p.1).1)
    have a2 := bt_add s.2 (p.2 * (dirL us p.1).2)
    have a3 := bt_mul p.2 (dirL us p.1).1
    have a4 := bt_mul p.2 (dirL us p.1).2
    have e1 : (stp us s p).1 = s.1 + p.2 * (dirL us p.1).1 := rfl
    have e2 : (stp us s p).2 = s.2 + p.2 * (dirL us p.1).2 := rfl
    rw [e1, e2] at h
    rw [wtT_cons, List.foldl_cons]
    omega
def r_stand : Hp → List D → D → Prop := fun _ ds d => ∃ bs us k m, ds = [dBars bs, dUs us, .tup [.int k, dq m]] ∧ GoodBars bs us.length ∧ -1 ≤ k ∧ k < bs.length ∧ wtT us (steps bs k m) ≤ 3000 ∧ d = dUv (standR us (steps bs k m))
theorem ok_law_stand (T : TX K mg) : Cal P w K mg base CX0 4 "_law_stand" ["_law_bars", "_law_pose", "_law_place"] (spP K r_stand) := by
  refine cal_pure (f_law_stand T) (g_law_stand T) sc_law_stand bd_law_stand (fun H ds d ⟨_, _, _, _, e, _⟩ => by rw [e]; rfl) fun cdv A outer s H E hr => ⟨_, (pss_cons (ps_asg (pv 2) (pg_tup (n := 2) rfl (pgs_cons (pg_name (i := 3) sc_law_stand.nd rfl (by first | exact Or.inl rfl | exact Or.inr rfl)) (pgs_cons (pg_name (i := 4) sc_law_stand.nd rfl (by first | exact Or.inl rfl | exact Or.inr rfl)) pgs_nil))))
      (pss_cons (ps_set (i := 5) sc_law_stand.nd rfl (by first | exact Or.inl rfl | exact Or.inr rfl) (pe_tup (pa_cons pe_int (pa_cons pe_int pa_nil))))
      (pss_cons (ps_set (i := 6) sc_law_stand.nd rfl (by first | exact Or.inl rfl | exact Or.inr rfl) (pe_tup (pa_cons pe_int (pa_cons pe_int pa_nil))))
      (pss_cons (ps_for PassesOwn.never rfl (pi_range1 rfl (n_range T) (pa_cons (pe_op op_add (pe_callB (r := rLenX K) call_len rfl (n_len T) bo_len (pa_cons (pv 0) pa_nil)) pe_int) pa_nil)) (pg_name (i := 7) sc_law_stand.nd rfl (by first | exact Or.inl rfl | exact Or.inr rfl)) (pss_cons (ps_set (i := 8) sc_law_stand.nd rfl (by first | exact Or.inl rfl | exact Or.inr rfl) (pe_ifExp (pt_cmpR op_lt (pv 3) pe_int (nomark _)) pe_int (pe_ix (r := rIxT K) ix_tup (pe_ix (r := rIxT K) ix_tup (pv 0) (pv 3) (fun _ _ => rfl)) pe_int (fun _ _ => rfl))))
      (pss_cons (ps_set (i := 9) sc_law_stand.nd rfl (by first | exact Or.inl rfl | exact Or.inr rfl) (pe_ifExp (pt_cmpR op_eq (pv 8) pe_int (nomark _)) (pe_tup (pa_cons (pe_tup (pa_cons pe_int (pa_cons pe_int pa_nil))) (pa_cons (pe_tup (pa_cons pe_int (pa_cons pe_int pa_nil))) pa_nil))) (pe_ix (r := rIxT K) ix_tup (pv 1) (pe_op op_sub (pv 8) pe_int) (fun _ _ => rfl))))
      (pss_cons (ps_set (i := 5) sc_law_stand.nd rfl (by first | exact Or.inl rfl | exact Or.inr rfl) (pe_cal (ok_law_plus T) (hr.mono (by decide)) rfl pass0 (pa_cons (pv 5) (pa_cons (pe_cal (ok_law_times T) (hr.mono (by decide)) rfl pass0 (pa_cons (pv 4) (pa_cons (pe_ix (r := rIxT K) ix_tup (pv 9) pe_int (fun _ _ => rfl)) pa_nil))) pa_nil))))
      (pss_cons (ps_set (i := 6) sc_law_stand.nd rfl (by first | exact Or.inl rfl | exact Or.inr rfl) (pe_cal (ok_law_plus T) (hr.mono (by decide)) rfl pass0 (pa_cons (pv 6) (pa_cons (pe_cal (ok_law_times T) (hr.mono (by decide)) rfl pass0 (pa_cons (pv 4) (pa_cons (pe_ix (r := rIxT K) ix_tup (pv 9) pe_int (fun _ _ => rfl)) pa_nil))) pa_nil))))
      (pss_cons (ps_if (pt_cmpR op_lt (pv 3) pe_int (nomark _)) (pss_one ps_break) pss_nil)
      (pss_one (ps_par (i := 3) (j := 4) (by rfl) sc_law_stand.nd rfl rfl (by decide) rfl rfl (pa_cons (pe_ix (r := rIxT K) ix_tup (pe_ix (r := rIxT K) ix_tup (pv 0) (pv 3) (fun _ _ => rfl)) pe_int (fun _ _ => rfl)) (pa_cons (pe_ix (r := rIxT K) ix_tup (pe_ix (r := rIxT K) ix_tup (pv 0) (pv 3) (fun _ _ => rfl)) pe_int (fun _ _ => rfl)) pa_nil)) (by rfl)))))))))
      (pss_one (ps_ret (pe_tup (pa_cons (pv 5) (pa_cons (pv 6) pa_nil))))))))), ?_⟩
  rintro H ds d ⟨bs, us, k, m, rfl, G, h1, h2, hw, rfl⟩
  have few := G.few
  refine sd_seq (sd_tup2 (R := Same) (Same.refl _) (yd_var (d := .tup [.int k, dq m]) rfl) fun H1 e1 => ?_)
  refine sd_seq (sd_asg (R := Same) (Same.refl _) (yd_q (q := 0)) fun H2 e2 => ?_)
  refine sd_seq (sd_asg (R := Same) (Same.refl _) (yd_q (q := 0)) fun H3 e3 => ?_)
  refine sd_seq (sd_forR1 (R := Same) (n := (bs.length : Int) + 1) (Same.refl _) (ya_cons (yd_I0 ((yd_lenT (yd_var (d := dBars bs) rfl)).is (by rw [List.length_map])) yd_int) ya_nil) (by omega) (fun H4 i g' H' => ∃ (k2 : Int) (m2 : Rat) (z : Uv) (o7 o8 o9 : Option D), g' = [some (dBars bs), some (dUs us), some (.tup [.int k, dq m]), some (.int k2), some (dq m2), some (dq z.1), some (dq z.2), o7, o8, o9] ∧ -1 ≤ k2 ∧ k2 < bs.length ∧ (k2 + 1).toNat + i ≤ bs.length ∧
    (steps bs k2 m2).foldl (stp us) z = standR us (steps bs k m) ∧ bt z.1 + wtT us (steps bs k2 m2) ≤ 4000 ∧ bt z.2 + wtT us (steps bs k2 m2) ≤ 4000 ∧ Same H4 H') (fun H4 e4 => ⟨k, m, (0, 0), none, none, none, rfl, h1, h2, by omega, rfl, by
      show bt (0 : Rat) + _ ≤ _
      rw [bt0]; omega, by
      show bt (0 : Rat) + _ ≤ _
      rw [bt0]; omega, Same.refl _⟩) ?_ ?_)
  · rintro H4 i g' H' e4 hi ⟨k, m, z, o7, o8, o9, rfl, h1, h2, hfu, hf, w1, w2, e5⟩
    by_cases hk : k < 0
    · have hst := steps_neg (bs := bs) (m := m) hk
      rw [hst] at hf
      rw [hst, wtT_cons] at w1 w2
      have d0 : dirL us 0 = upU := rfl
      have v1 : bt (dirL us (0, m).1).1 = bt (0 : Rat) := rfl
      have v2 : bt (dirL us (0, m).1).2 = bt (1 : Rat) := rfl
      have v3 : bt (0, m).2 = bt m := rfl
      rw [v1, v2, v3, bt0, bt1] at w1 w2
      have m1 := bt_mul m 0
      have m2 := bt_mul m 1
      rw [bt0] at m1
      rw [bt1] at m2
      refine sd_seq (sd_asg (R := Same) (d := .int 0) (Same.refl _) (yd_ifT (yt_test (yd_cmp (yd_var (d := .int k) rfl) yd_int)) yd_int (decide_eq_true hk)) fun H6 e6 => ?_)
      refine sd_seq (sd_asg (R := Same) (d := dUv upU) (Same.refl _) (yd_ifT (yt_test (yd_eqI (yd_var (d := .int 0) rfl) yd_int)) (yd_tup (ya_cons (yd_q (q := 0)) (ya_cons (yd_q (q := 1)) ya_nil)))) fun H7 e7 => ?_)
      refine sd_seq (sd_asg (R := Same) (Same.refl _) (yd_ar (yd_var (d := dq z.1) rfl) (yd_ar (yd_var (d := dq m) rfl) (yd_ixT (d := dq 0) (yd_var (d := dUv upU) rfl) yd_int rfl) (show bt _ + bt _ ≤ 9000 by rw [bt0]; omega)) (show bt _ + bt (m * 0) ≤ 9000 by omega)) fun H8 e8 => ?_)
      refine sd_seq (sd_asg (R := Same) (Same.refl _) (yd_ar (yd_var (d := dq z.2) rfl) (yd_ar (yd_var (d := dq m) rfl) (yd_ixT (d := dq 1) (yd_var (d := dUv upU) rfl) yd_int rfl) (show bt _ + bt _ ≤ 9000 by rw [bt1]; omega)) (show bt _ + bt (m * 1) ≤ 9000 by omega)) fun H9 e9 => ?_)
      refine sd_seq (sd_ifT (R := Same) (Same.refl _) (yt_test (yd_cmp (yd_var (d := .int k) rfl) yd_int)) (fun H10 e10 => sd_brk ?_) (decide_eq_true hk))
      refine sd_ret (R := Same) (Same.refl _) (yd_tup (ya_cons (yd_var (d := dq (z.1 + m * 0)) rfl) (ya_cons (yd_var (d := dq (z.2 + m * 1)) rfl) ya_nil))) fun H11 e11 => ⟨?_, e1.trans (e2.trans (e3.trans (e4.trans (e5.trans (e6.trans (e7.trans (e8.trans (e9.trans (e10.trans e11)))))))))⟩
      rw [← hf]
      rfl
    · obtain ⟨b, hb⟩ : ∃ b, bs[k.toNat]? = some b := ⟨bs[k.toNat]'(by omega), List.getElem?_eq_getElem (by omega)⟩
      have hh := G.host _ _ hb
      have hlt := G.let_ b (List.mem_of_getElem? hb)
      have hst := steps_pos G (m := m) (by omega) hb
      rw [hst] at hf
      rw [hst, wtT_cons] at w1 w2
      replace w1 : bt z.1 + (bt m + bt (dirL us b.letter).1 + bt (dirL us b.letter).2 + 1 + wtT us (steps bs b.host b.mark)) ≤ 4000 := w1
      replace w2 : bt z.2 + (bt m + bt (dirL us b.letter).1 + bt (dirL us b.letter).2 + 1 + wtT us (steps bs b.host b.mark)) ≤ 4000 := w2
      have m1 := bt_mul m (dirL us b.letter).1
      have m2 := bt_mul m (dirL us b.letter).2
      have hix := bars_ix (by omega) hb
      refine sd_seq (sd_asg (R := Same) (d := .int b.letter) (Same.refl _) (yd_ifF (yt_test (yd_cmp (yd_var (d := .int k) rfl) yd_int)) (yd_ixT (yd_ixT (d := dBar b) (yd_var (d := dBars bs) rfl) (yd_var (d := .int k) rfl) hix) yd_int rfl) (decide_eq_false hk)) fun H6 e6 => ?_)
      refine sd_seq (sd_asg (R := Same) (d := dUv (dirL us b.letter)) (Same.refl _) (yd_if (yt_test (yd_eqI (yd_var (d := .int b.letter) rfl) yd_int)) (fun q => ?_) (fun q => ?_)) fun H7 e7 => ?_)
      · have q := of_decide_eq_true q
        have : b.letter = 0 := by omega
        rw [this]
        exact yd_tup (ya_cons (yd_q (q := 0)) (ya_cons (yd_q (q := 1)) ya_nil))
      · have q := of_decide_eq_false q
        obtain ⟨j, hj⟩ : ∃ j, b.letter = j + 1 := ⟨b.letter - 1, by omega⟩
        have hj2 : j < us.length := by omega
        refine yd_ixT (yd_var (d := dUs us) rfl) (yd_I0 (yd_var (d := .int b.letter) rfl) yd_int) ?_
        rw [show ((b.letter : Int) - 1) = ((j : Nat) : Int) by omega]
        refine atI_nat ?_
        rw [List.getElem?_map, List.getElem?_eq_getElem hj2, hj]
        show some (dUv us[j]) = some (dUv (us.getD j (0, 0)))
        rw [List.getD_eq_getElem?_getD, List.getElem?_eq_getElem hj2]
        rfl
      refine sd_seq (sd_asg (R := Same) (Same.refl _) (yd_ar (yd_var (d := dq z.1) rfl) (yd_ar (yd_var (d := dq m) rfl) (yd_ixT (d := dq (dirL us b.letter).1) (yd_var (d := dUv (dirL us b.letter)) rfl) yd_int rfl) (show bt _ + bt _ ≤ 9000 by omega)) (show bt _ + bt (m * (dirL us b.letter).1) ≤ 9000 by omega)) fun H8 e8 => ?_)
      refine sd_seq (sd_asg (R := Same) (Same.refl _) (yd_ar (yd_var (d := dq z.2) rfl) (yd_ar (yd_var (d := dq m) rfl) (yd_ixT (d := dq (dirL us b.letter).2) (yd_var (d := dUv (dirL us b.letter)) rfl) yd_int rfl) (show bt _ + bt _ ≤ 9000 by omega)) (show bt _ + bt (m * (dirL us b.letter).2) ≤ 9000 by omega)) fun H9 e9 => ?_)
      refine sd_seq (sd_ifF (R := Same) (Same.refl _) (yt_test (yd_cmp (yd_var (d := .int k) rfl) yd_int)) (fun H10 e10 => sd_next ?_) (decide_eq_false hk))
      have a1 := bt_add z.1 (m * (dirL us b.letter).1)
      have a2 := bt_add z.2 (m * (dirL us b.letter).2)
      refine sd_par (R := Same) (Same.refl _) (ya_cons (yd_ixT (d := .int b.host) (yd_ixT (d := dBar b) (yd_var (d := dBars bs) rfl) (yd_var (d := .int k) rfl) hix) yd_int rfl) (ya_cons (yd_ixT (d := dq b.mark) (yd_ixT (d := dBar b) (yd_var (d := dBars bs) rfl) (yd_var (d := .int k) rfl) hix) yd_int rfl) ya_nil)) fun H11 e11 => ⟨b.host, b.mark, stp us z (b.letter, m), _, _, _, rfl, hh.1, by omega, by omega, hf, ?_, ?_, e5.trans (e6.trans (e7.trans (e8.trans (e9.trans (e10.trans e11)))))⟩
      · show bt (z.1 + m * (dirL us b.letter).1) + _ ≤ _; omega
      · show bt (z.2 + m * (dirL us b.letter).2) + _ ≤ _; omega
  · rintro H4 g' H' e4 ⟨k, m, z, o7, o8, o9, rfl, h1, h2, hfu, _⟩
    omega
def gapU (us : List Uv) (p q : List (Nat × Rat)) : Uv := ((standR us p).1 - (standR us q).1, (standR us p).2 - (standR us q).2)
def r_gap : Hp → List D → D → Prop := fun _ ds d => ∃ bs us k m j l, ds = [dBars bs, dUs us, .tup [.int k, dq m], .tup [.int j, dq l]] ∧ GoodBars bs us.length ∧ (-1 ≤ k ∧ k < bs.length) ∧ (-1 ≤ j ∧ j < bs.length) ∧ wtT us (steps bs k m) ≤ 3000 ∧ wtT us (steps bs j l) ≤ 3000 ∧ d = dUv (gapU us (steps bs k m) (steps bs j l))
theorem ok_law_gap (T : TX K mg) : Cal P w K mg base CX0 5 "_law_gap" ["_law_bars", "_law_pose", "_law_one", "_law_other"] (spP K r_gap) := by
  refine cal_pure (f_law_gap T) (g_law_gap T) sc_law_gap bd_law_gap (fun H ds d ⟨_, _, _, _, _, _, e, _⟩ => by rw [e]; rfl) fun cdv A outer s H E hr => ⟨_, (pss_cons (ps_set (i := 4) sc_law_gap.nd rfl (by first | exact Or.inl rfl | exact Or.inr rfl) (pe_cal (ok_law_stand T) (hr.mono (by decide)) rfl pass0 (pa_cons (pv 0) (pa_cons (pv 1) (pa_cons (pv 2) pa_nil)))))
      (pss_cons (ps_set (i := 5) sc_law_gap.nd rfl (by first | exact Or.inl rfl | exact Or.inr rfl) (pe_cal (ok_law_stand T) (hr.mono (by decide)) rfl pass0 (pa_cons (pv 0) (pa_cons (pv 1) (pa_cons (pv 3) pa_nil)))))
      (pss_one (ps_ret (pe_tup (pa_cons (pe_cal (ok_law_less T) (hr.mono (by decide)) rfl pass0 (pa_cons (pe_ix (r := rIxT K) ix_tup (pv 4) pe_int (fun _ _ => rfl)) (pa_cons (pe_ix (r := rIxT K) ix_tup (pv 5) pe_int (fun _ _ => rfl)) pa_nil))) (pa_cons (pe_cal (ok_law_less T) (hr.mono (by decide)) rfl pass0 (pa_cons (pe_ix (r := rIxT K) ix_tup (pv 4) pe_int (fun _ _ => rfl)) (pa_cons (pe_ix (r := rIxT K) ix_tup (pv 5) pe_int (fun _ _ => rfl)) pa_nil))) pa_nil))))))), ?_⟩
  rintro H ds d ⟨bs, us, k, m, j, l, rfl, G, p1, p2, w1, w2, rfl⟩
  have b1 := stand_bt us (steps bs k m) (0, 0)
  have b2 := stand_bt us (steps bs j l) (0, 0)
  have e0 : bt ((0, 0) : Uv).1 = 1 := bt0
  have e0' : bt ((0, 0) : Uv).2 = 1 := bt0
  rw [e0] at b1 b2
  refine sd_seq (sd_asg (R := Same) (Same.refl _) (yd_call (d := dUv (standR us (steps bs k m))) (ya_cons (yd_var (d := dBars bs) rfl) (ya_cons (yd_var (d := dUs us) rfl) (ya_cons (yd_var (d := .tup [.int k, dq m]) rfl) ya_nil))) fun _ _ => ⟨bs, us, k, m, rfl, G, p1.1, p1.2, w1, rfl⟩) fun H1 e1 => ?_)
  refine sd_seq (sd_asg (R := Same) (Same.refl _) (yd_call (d := dUv (standR us (steps bs j l))) (ya_cons (yd_var (d := dBars bs) rfl) (ya_cons (yd_var (d := dUs us) rfl) (ya_cons (yd_var (d := .tup [.int j, dq l]) rfl) ya_nil))) fun _ _ => ⟨bs, us, j, l, rfl, G, p2.1, p2.2, w2, rfl⟩) fun H2 e2 => ?_)
  refine sd_ret (R := Same) (Same.refl _) (yd_tup (ya_cons (yd_ar (yd_ixT (d := dq (standR us (steps bs k m)).1) (yd_var (d := dUv (standR us (steps bs k m))) rfl) yd_int rfl) (yd_ixT (d := dq (standR us (steps bs j l)).1) (yd_var (d := dUv (standR us (steps bs j l))) rfl) yd_int rfl) ?_) (ya_cons (yd_ar (yd_ixT (d := dq (standR us (steps bs k m)).2) (yd_var (d := dUv (standR us (steps bs k m))) rfl) yd_int rfl) (yd_ixT (d := dq (standR us (steps bs j l)).2) (yd_var (d := dUv (standR us (steps bs j l))) rfl) yd_int rfl) ?_) ya_nil))) fun H3 e3 => ⟨rfl, e1.trans (e2.trans e3)⟩
  · show bt (standR us _).1 + bt (standR us _).1 ≤ 9000
    unfold standR
    omega
  · show bt (standR us _).2 + bt (standR us _).2 ≤ 9000
    unfold standR
    omega
end K19
set_option maxHeartbeats 4000000
set_option exponentiation.threshold 20000
namespace K19
open PySem PySem.Spec PyProof.Rows L2
variable {P : Program} {w : World} {K : PySem.W.Frag} {mg : Str → Option Value} {base : Heap}
section
variable {g : Gm} {H : Hp} {wi : TI} {tg : TG} {tt : TT} {te : TE} {n : Nat} {item : Nat → D} {f : Nat → Gm → Gm} {vs : List Nat}
/-- a comprehension whose test never holds -/
theorem yl_lcNone (h : Yi Same K wi g H n item) (ht : ∀ i, i < n → Tg K tg vs (item i) (f i)) (htt : ∀ i, i < n → ∀ H1, Same H H1 → Yt Same K tt (f i (wipeG g vs)) H1 false) : Yl Same K (tLc wi tg tt te vs) g H [] := fun s H1 e1 ty Q q =>
  h s H1 e1 ty _ fun J H2 e2 it => fun Dd hD => by
    refine ⟨fun i m H' => m = n - i ∧ i ≤ n ∧ H' Dd = some (.lst []) ∧ Same H2 H', ⟨n, by simp, Nat.zero_le _, upd_same, Same.new hD⟩, ?_⟩
    rintro i m H' ⟨rfl, hi, ha, e3⟩
    by_cases hlt : i < n
    · refine .inr ⟨it.go i H' e3 hlt, fun H4 => i + 1 ≤ n ∧ H4 Dd = some (.lst []) ∧ Same H2 H4, fun H4 q4 => ⟨n - (i + 1), by omega, rfl, q4⟩, fun x H4 hy => ?_⟩
      obtain ⟨e4, rx⟩ := it.yld i H' x H4 e3 hlt hy
      refine ht i hlt x (L2.wipe s vs) (wipeG g vs) H4 (fun s' H' => L2.wipe s' vs = L2.wipe s vs ∧ _) (((ty.mono (e2.trans (e3.trans e4))).wipe vs)) rx fun s2 ty2 hw => ⟨wipe_back hw, ?_⟩
      refine htt i hlt H4 (e1.trans (e2.trans (e3.trans e4))) s2 H4 (Same.refl _) ty2 _ fun H5 e5 => ?_
      rw [if_neg Bool.false_ne_true]
      exact ⟨hlt, e5 _ _ (e4 _ _ ha), e3.trans (e4.trans e5)⟩
    · have : i = n := by omega
      subst this
      exact .inl ⟨it.stop H' e3, q Dd [] H' (e2.free hD) (e2.trans e3) ha .nil⟩
/-- two new lists of ints, compared -/
theorem yd_eqNN {ta tb : TE} {ns ms : List Int} (ha : Yl Same K ta g H (ns.map D.int)) (hb : Yl Same K tb g H (ms.map D.int)) : Yd Same K (tOp (rEqD K) ta tb) g H (.bl (decide (ns = ms))) := fun s H1 e ty Q q =>
  ha s H1 e ty _ fun p us H2 hp e2 hl hv => hb s H2 (e.trans e2) (ty.mono e2) _ fun p2 us2 H3 hp2 e3 hl3 hv3 => by
    have hu := RpL.ints hv
    have hu2 := RpL.ints hv3
    subst hu
    subst hu2
    refine ⟨_, _, .lst (SqL.of (e3 _ _ hl)) (dp_ints ns), .lst (SqL.of hl3) (dp_ints ms), sh_ints _, sh_ints _, ?_⟩
    show Q (.bl (PyData.eqvAll _ _)) H3
    rw [eqv_ints]
    exact q _ H3 (e2.trans e3) .bl
theorem yd_neNN {ta tb : TE} {ns ms : List Int} (ha : Yl Same K ta g H (ns.map D.int)) (hb : Yl Same K tb g H (ms.map D.int)) : Yd Same K (tOp (rNeD K) ta tb) g H (.bl (!decide (ns = ms))) := fun s H1 e ty Q q =>
  ha s H1 e ty _ fun p us H2 hp e2 hl hv => hb s H2 (e.trans e2) (ty.mono e2) _ fun p2 us2 H3 hp2 e3 hl3 hv3 => by
    have hu := RpL.ints hv
    have hu2 := RpL.ints hv3
    subst hu
    subst hu2
    refine ⟨_, _, .lst (SqL.of (e3 _ _ hl)) (dp_ints ns), .lst (SqL.of hl3) (dp_ints ms), sh_ints _, sh_ints _, ?_⟩
    show Q (.bl (!PyData.eqvAll _ _)) H3
    rw [eqv_ints]
    exact q _ H3 (e2.trans e3) .bl
end
def Yi2 (R : Hp → Hp → Prop) (K : PySem.W.Frag) (wi : TI) (g : Gm) (H : Hp) (n : Nat) (item : Nat → D) : Prop := ∀ s H1, Same H H1 → Ty K g s H1 → ∀ Q : It → Hp → Prop, (∀ J H2, Same H1 H2 → DIt R K J n item H2 → Q J H2) → wi s H1 Q
section
variable {R : Hp → Hp → Prop} [Rl R] {g : Gm} {H : Hp} {wi : TI} {tg : TG} {tbd : TS} {te : TE} {E : En} {n : Nat} {item : Nat → D} {f : Nat → Gm → Gm} {vs : List Nat} {ds : List D}
theorem yi2_listK {a : Addr} {us : List V} (h : Yd Same K te g H (.ref a)) (hl : ∀ H1, Same H H1 → H1 a = some (.lst us)) (hR : ∀ H1 H2, Same H H1 → R H1 H2 → H2 a = some (.lst us) ∧ RpL K H2 us ds) (hn : us.length = ds.length) : Yi2 R K (iList K te) g H ds.length (fun i => ds.getD i .non) := fun s H1 e ty Q q =>
  h s H1 e ty _ fun v H2 e2 rv => by
    cases rv
    have e12 := e.trans e2
    have st : ∀ H3, R H2 H3 → SqL K H3 a us := fun H3 e3 => SqL.of (hR H2 H3 e12 e3).1
    refine ⟨a, rfl, ⟨us, SqL.of (hl H2 e12)⟩, q _ H2 e2 ⟨fun i H3 e3 hi => ⟨us, us[i]'(by omega), st H3 e3, List.getElem?_eq_getElem (by omega)⟩, fun H3 e3 => ⟨us, st H3 e3, by omega⟩, fun i H3 v H4 e3 hi hy => ?_⟩⟩
    obtain ⟨rfl, hy⟩ := hy
    obtain ⟨d, hd, rv⟩ := (hR H2 _ e12 e3).2.getV (hy us (st _ e3))
    refine ⟨Same.refl _, ?_⟩
    show Rp K _ v (ds.getD i .non)
    rw [List.getD_eq_getElem?_getD, hd]
    exact rv
/-- a for, its walk begun on the heap as it is, gone on while R -/
theorem sd_for2 (h : Yi2 R K wi g H n item) (ht : ∀ i, i < n → Tg K tg vs (item i) (f i)) (P : Hp → Nat → Gm → Hp → Prop) (hp : ∀ H1 i g' H', P H1 i g' H' → R H1 H') (h0 : ∀ H1, Same H H1 → P H1 0 g H1)
    (hs : ∀ H1 i g' H', Same H H1 → i < n → P H1 i g' H' → ∀ H2, Same H' H2 → Sd K tbd (f i g') H2 { E with nx := P H1 (i + 1), ct := P H1 (i + 1), bk := E.nx })
    (hd : ∀ H1 g' H', Same H H1 → P H1 n g' H' → E.nx g' H') : Sd K (tFor wi tg tbd) g H E := fun s Z ty fz =>
  h s H (Same.refl _) ty _ fun J H1 e1 it => by
    refine ⟨fun i m s' H' => m = n - i ∧ i ≤ n ∧ ∃ g', Ty K g' s' H' ∧ P H1 i g' H', ⟨n, by simp, Nat.zero_le _, g, ty.mono e1, h0 H1 e1⟩, ?_⟩
    rintro i m s' H' ⟨rfl, hi, g', ty', p⟩
    have e2 := hp _ _ _ _ p
    by_cases hlt : i < n
    · refine .inr ⟨it.go i H' e2 hlt, fun s2 H2 => ∃ g2, Ty K g2 s2 H2 ∧ P H1 (i + 1) g2 H2, fun s2 H2 q => ⟨n - (i + 1), by omega, rfl, hlt, q⟩, fun x H2 hy => ?_⟩
      obtain ⟨e3, rx⟩ := it.yld i H' x H2 e2 hlt hy
      refine ht i hlt x s' g' H2 _ (ty'.mono e3) rx fun s2 ty2 _ => ?_
      exact hs H1 i g' H' e1 hlt p H2 e3 _ _ ty2 ⟨fun g2 s2 H2 t2 q => ⟨g2, t2, q⟩, fz.rt, fz.nx, fun g2 s2 H2 t2 q => ⟨g2, t2, q⟩⟩
    · have : i = n := by omega
      subst this
      exact .inl ⟨it.stop H' e2, fz.nx _ _ _ ty' (hd H1 g' H' e1 p)⟩
end
theorem sc_law_is_flat : FnScope ["_law_told", "_law_n", "_law_k"] ["_law_told", "_law_n"] (defScope s_law_is_flat) := ⟨rfl, rfl, rfl, by decide +kernel, rfl, by decide +kernel, by decide +kernel⟩
theorem bd_law_is_flat : Bnd "_law_is_flat" "_law_is_flat" s_law_is_flat ["_law_told", "_law_n"] := fun _ _ _ _ _ _ us hl => match us, hl with | [_, _], _ => rfl
theorem sc_law_flats : FnScope ["_law_n", "_law_rows", "_law_k", "_law_found", "_law_row_here"] ["_law_n"] (defScope s_law_flats) := ⟨rfl, rfl, rfl, by decide +kernel, rfl, by decide +kernel, by decide +kernel⟩
theorem bd_law_flats : Bnd "_law_flats" "_law_flats" s_law_flats ["_law_n"] := fun _ _ _ _ _ _ us hl => match us, hl with | [_], _ => rfl
theorem sc_law_pushed : FnScope ["_law_row_here", "_law_sizes", "_law_number", "_law_high", "_law_low", "_law_left"] ["_law_row_here"] (defScope s_law_pushed) := ⟨rfl, rfl, rfl, by decide +kernel, rfl, by decide +kernel, by decide +kernel⟩
theorem bd_law_pushed : Bnd "_law_pushed" "_law_pushed" s_law_pushed ["_law_row_here"] := fun _ _ _ _ _ _ us hl => match us, hl with | [_], _ => rfl
theorem sc_law_reached : FnScope ["_law_row_here", "_law_length", "_law_signs", "_law_total", "_law_k", "_law_sign"] ["_law_row_here", "_law_length"] (defScope s_law_reached) := ⟨rfl, rfl, rfl, by decide +kernel, rfl, by decide +kernel, by decide +kernel⟩
theorem bd_law_reached : Bnd "_law_reached" "_law_reached" s_law_reached ["_law_row_here", "_law_length"] := fun _ _ _ _ _ _ us hl => match us, hl with | [_, _], _ => rfl
theorem sc_law_chain : FnScope ["_law_row_here", "_law_n", "_law_bars", "_law_k"] ["_law_row_here"] (defScope s_law_chain) := ⟨rfl, rfl, rfl, by decide +kernel, rfl, by decide +kernel, by decide +kernel⟩
theorem bd_law_chain : Bnd "_law_chain" "_law_chain" s_law_chain ["_law_row_here"] := fun _ _ _ _ _ _ us hl => match us, hl with | [_], _ => rfl
def FlatOk (us : List Uv) : Prop := ∀ u ∈ us, u = (0, 1) ∨ u = (0, -1)
theorem FlatOk.pose {us : List Uv} (h : FlatOk us) : PoseOk us := fun u hu => by
  rcases h u hu with rfl | rfl
  · exact ⟨by unfold Sq; decide +kernel, by unfold Unit2 sqU; decide +kernel⟩
  · exact ⟨by unfold Sq; decide +kernel, by unfold Unit2 sqU; decide +kernel⟩
def r_isflat : Hp → List D → D → Prop := fun _ ds d => ∃ us : List Uv, ds = [dUs us, .int (us.length : Nat)] ∧ us.length ≤ 1000 ∧ FlatOk us ∧ d = .bl true
theorem ok_law_is_flat (T : TX K mg) : Cal P w K mg base CX0 6 "_law_is_flat" ["_law_told", "_law_n"] (spP K r_isflat) := by
  refine cal_pure (f_law_is_flat T) (g_law_is_flat T) sc_law_is_flat bd_law_is_flat (fun H ds d ⟨_, e, _⟩ => by rw [e]; rfl) fun cdv A outer s H E hr => ⟨_, (pss_one (ps_ret (pe_and (pe_cal (ok_law_is_pose T) (hr.mono (by decide)) rfl pass0 (pa_cons (pv 0) (pa_cons (pv 1) pa_nil))) (pe_one (pe_cmpR (r := rEqD K) (op_eqD hr.units) (pe_lc (own := [("_law_k", 2)]) rfl sc_law_is_flat.nd (pi_range1 rfl (n_range T) (pa_cons (pv 1) pa_nil)) (blkOk_by (own := [("_law_k", 2)]) (N := ["_law_told", "_law_n", "_law_k"]) (sc := defScope s_law_is_flat) (by decide +kernel)) (fun _ _ _ _ _ => pg_name (i := 2) sc_law_is_flat.nd rfl (Or.inl rfl)) (fun _ _ _ _ _ => (pts_one (pt_cmpR (r := rNeD K) (op_neD hr.units) (pe_ix (r := rIxT K) ix_tup (pe_ix (r := rIxT K) ix_tup (pv 0) (pv 2) (fun _ _ => rfl)) pe_int (fun _ _ => rfl)) (pe_tup (pa_cons pe_int (pa_cons pe_int pa_nil))) (nomark _)))) (fun _ _ _ _ _ => (pv 2))) (pe_lst pa_nil) (nomark _)))))), ?_⟩
  rintro H ds d ⟨us, rfl, hz, hf, rfl⟩
  refine sd_ret (R := Same) (Same.refl _) (yd_and1 (b := true) (yd_call (d := .bl true) (ya_cons (yd_var (d := dUs us) rfl) (ya_cons (yd_var (d := .int (us.length : Nat)) rfl) ya_nil)) fun _ _ => ⟨us, rfl, hz, hf.pose, rfl⟩) ((yd_eqNN (ns := []) (ms := []) (yl_lcNone (yi_range1 (ya_cons (yd_var (i := 1) (d := .int (us.length : Nat)) rfl) ya_nil) (by omega)) (fun i hi => tg_name) ?_) (yl_lst ya_nil)).is (by rfl))) fun H2 e2 => ⟨rfl, e2⟩
  intro i hi H1 e1
  obtain ⟨u, hu⟩ : ∃ u, us[i]? = some u := ⟨us[i]'(by omega), List.getElem?_eq_getElem (by omega)⟩
  have u1 : u.1 = 0 := by rcases hf u (List.mem_of_getElem? hu) with rfl | rfl <;> rfl
  have ix : atI (us.map dUv) (i : Int) = some (dUv u) := atI_nat (by rw [List.getElem?_map, hu]; rfl)
  refine (yt_test (yd_neQ (q := u.1) (yd_ixT (yd_ixT (d := dUv u) (yd_var (d := dUs us) rfl) (yd_var (d := .int (i : Int)) rfl) ix) yd_int rfl) (yd_q (q := 0)))).is ?_
  rw [u1]
  rfl
/-! ### flats: a new list -/
abbrev enL (K : PySem.W.Frag) (es : List D) (H : Hp) : En := { nx := fun _ _ => False, rt := fun d H' => ∃ p us, d = .ref p ∧ H p = none ∧ Same H H' ∧ H' p = some (.lst us) ∧ RpL K H' us es }
theorem cal_list {x : Str} {st : Stmt} {N ps : List Str} {k : Nat} {rel : Hp → List D → List D → Prop} (F : ∃ fd, FunD K x x (defArgs st) (defBody st) (defScope st) [] [] (He.ga K x) fd) (gl : mg x = some (.ref (He.ga K x))) (S : FnScope N ps (defScope st)) (hb : Bnd x x st ps) (len : ∀ H ds d, rel H ds d → ds.length = ps.length)
    (body : ∀ (cdv : Value) (A : Around) (outer : List Env) (s : Shared) (H : Hp) (E : XK), Room k (A.deeper (envOfC x (defScope st) s.heap.objs.size (He.ga K x) cdv)) →
      ∃ t, PSs (cxOf CX0 P w K mg base N x (defScope st) (He.ga K x) cdv A outer s H E).nox (defBody st) t ∧ ∀ H ds es, rel H ds es → Sd K t (gm0 N ds) H (enL K es H)) : Cal P w K mg base CX0 (k + 1) x ps (spL K rel) := by
  obtain ⟨fd, F⟩ := F
  refine ⟨⟨fd, F.ok S (fun vs H Q E ⟨ds, d, r, h, _⟩ => by rw [r.length]; exact len H ds d h) fun cdv A outer s H vs Q E hr hsp => ?_, F.bindsN hb⟩, gl, F.kp⟩
  obtain ⟨ds, es, r, h, hQ⟩ := hsp
  obtain ⟨t, ht, hb⟩ := body cdv A outer s H E hr
  refine ⟨t, ht.nox, hb H ds es h _ _ (Ty.start r) ⟨fun _ _ _ _ q => q.elim, ?_, fun _ _ _ _ q => q.elim, fun _ _ _ _ q => q.elim⟩⟩
  rintro d' v H' rv ⟨p, us, rfl, hp, e, hl, hv⟩
  cases rv
  exact hQ p us H' hp e hl hv
def signsL : Nat → List (List Int)
  | 0 => [[]]
  | n + 1 => (signsL n).flatMap fun s => [s ++ [1], s ++ [-1]]
theorem signsL_len : ∀ n, (signsL n).length = 2 ^ n
  | 0 => rfl
  | n + 1 => by
    have : ∀ l : List (List Int), (l.flatMap fun s => [s ++ [1], s ++ [-1]]).length = 2 * l.length := by
      intro l
      induction l with
      | nil => rfl
      | cons a l ih => rw [List.flatMap_cons, List.length_append, ih, List.length_cons]; simp; omega
    rw [signsL, this, signsL_len n, Nat.pow_succ]
    omega
theorem signsL_mem : ∀ {n : Nat} {s : List Int}, s ∈ signsL n → s.length = n ∧ ∀ z ∈ s, z = 1 ∨ z = -1
  | 0, s, h => by
    cases List.mem_singleton.mp h
    exact ⟨rfl, fun z hz => by cases hz⟩
  | n + 1, s, h => by
    obtain ⟨t, ht, hs⟩ := List.mem_flatMap.mp h
    obtain ⟨h1, h2⟩ := signsL_mem ht
    rcases List.mem_cons.mp hs with rfl | hs
    · refine ⟨by simp [h1], fun z hz => ?_⟩
      rcases List.mem_append.mp hz with q | q
      · exact h2 z q
      · cases List.mem_singleton.mp q; exact .inl rfl
    · cases List.mem_singleton.mp hs
      refine ⟨by simp [h1], fun z hz => ?_⟩
      rcases List.mem_append.mp hz with q | q
      · exact h2 z q
      · cases List.mem_singleton.mp q; exact .inr rfl
abbrev dSg (s : List Int) : D := .tup (s.map D.int)
def r_flats : Hp → List D → List D → Prop := fun _ ds es => ∃ n : Nat, ds = [.int (n : Nat)] ∧ n ≤ 4 ∧ es = (signsL n).map dSg
theorem flat_step (l : List (List Int)) (i : Nat) (s : List Int) (h : l[i]? = some s) : ((l.take (i + 1)).flatMap fun s => [s ++ [1], s ++ [-1]]) = ((l.take i).flatMap fun s => [s ++ [1], s ++ [-1]]) ++ [s ++ [1], s ++ [-1]] := by
  rw [List.take_add_one, h, Option.toList_some, List.flatMap_append]
  rfl
theorem flat_len (l : List (List Int)) (i : Nat) : ((l.take i).flatMap fun s => [s ++ [1], s ++ [-1]]).length ≤ 2 * l.length := by
  have : ∀ l : List (List Int), (l.flatMap fun s => [s ++ [1], s ++ [-1]]).length = 2 * l.length := by
    intro l
    induction l with
    | nil => rfl
    | cons a l ih => rw [List.flatMap_cons, List.length_append, ih, List.length_cons]; simp; omega
  rw [this, List.length_take]
  omega
theorem ok_law_flats (T : TX K mg) : Cal P w K mg base CX0 1 "_law_flats" ["_law_n"] (spL K r_flats) := by
  refine cal_list (f_law_flats T) (g_law_flats T) sc_law_flats bd_law_flats (fun H ds d ⟨_, e, _⟩ => by rw [e]; rfl) fun cdv A outer s H E hr => ⟨_, (pss_cons (ps_set (i := 1) sc_law_flats.nd rfl (by first | exact Or.inl rfl | exact Or.inr rfl) (pe_lst (pa_cons (pe_tup pa_nil) pa_nil)))
      (pss_cons (ps_for PassesOwn.never rfl (pi_range1 rfl (n_range T) (pa_cons (pv 0) pa_nil)) (pg_name (i := 2) sc_law_flats.nd rfl (by first | exact Or.inl rfl | exact Or.inr rfl)) (pss_cons (ps_set (i := 3) sc_law_flats.nd rfl (by first | exact Or.inl rfl | exact Or.inr rfl) (pe_lst pa_nil))
      (pss_cons (ps_for PassesOwn.never rfl (pi_list (pv 1)) (pg_name (i := 4) sc_law_flats.nd rfl (by first | exact Or.inl rfl | exact Or.inr rfl)) (pss_cons (ps_expr (pe_bm PySem.F.plainAttrs_list PySem.F.slot_list_append PySem.F.type_list_append mt_append (pv 3) (pa_cons (pe_op (r := rCatA K) op_catA (pv 4) (pe_tup (pa_cons pe_int pa_nil))) pa_nil)))
      (pss_one (ps_expr (pe_bm PySem.F.plainAttrs_list PySem.F.slot_list_append PySem.F.type_list_append mt_append (pv 3) (pa_cons (pe_op (r := rCatA K) op_catA (pv 4) (pe_tup (pa_cons (pe_un un_neg pe_int) pa_nil))) pa_nil))))))
      (pss_one (ps_set (i := 1) sc_law_flats.nd rfl (by first | exact Or.inl rfl | exact Or.inr rfl) (pv 3))))))
      (pss_one (ps_ret (pv 1))))), ?_⟩
  rintro H ds es ⟨n, rfl, hn, rfl⟩
  refine sd_seq (sd_asgN (yl_lst (ya_cons (yd_tup ya_nil) ya_nil)) fun p0 us0 H1 hp0 e1 hl0 hv0 => ?_)
  refine sd_seq (sd_forR1 (R := Same) (n := (n : Int)) (Same.refl _) (ya_cons (yd_var (d := .int (n : Nat)) rfl) ya_nil) (by omega) (fun H2 i g' H' => ∃ p us o2 o3 o4, g' = [some (.int (n : Nat)), some (.ref p), o2, o3, o4] ∧ H p = none ∧ Same H H' ∧ H' p = some (.lst us) ∧ RpL K H' us ((signsL i).map dSg)) (fun H2 e2 => ⟨p0, us0, none, none, none, rfl, hp0, e1.trans e2, e2 _ _ hl0, hv0.mono e2⟩) ?_ ?_)
  · rintro H2 i g' H' e2 hi ⟨p, us, o2, o3, o4, rfl, hp, e3, hl, hv⟩
    have hlen := signsL_len i
    have hpow : 2 ^ i ≤ 2 ^ 4 := Nat.pow_le_pow_right (by decide) (by omega)
    refine sd_seq (sd_asgN (yl_lst ya_nil) fun f uf H3 hf e4 hlf hvf => ?_)
    have pf : p ≠ f := fun z => by rw [z, hf] at hl; cases hl
    refine sd_seq (sd_for2 (vs := [4]) (R := MuL f) (yi2_listK (a := p) (us := us) (ds := (signsL i).map dSg) (yd_var (i := 1) rfl) (fun H4 e5 => e5 _ _ (e4 _ _ hl)) (fun H4 H5 e5 m5 => ⟨m5.1 _ _ pf (e5 _ _ (e4 _ _ hl)), (hv.mono (e4.trans e5)).mono m5⟩) hv.length) (fun j hj => tg_name) (fun H4 j g' H' => (∃ o4 uf, g' = [some (.int (n : Nat)), some (.ref p), some (.int (i : Int)), some (.ref f), o4] ∧ H' f = some (.lst uf) ∧ RpL K H' uf ((((signsL i).take j).flatMap fun s => [s ++ [1], s ++ [-1]]).map dSg)) ∧ MuL f H4 H') (fun _ _ _ _ h => h.2) (fun H4 e5 => ⟨⟨_, uf, rfl, e5 _ _ hlf, hvf.mono e5⟩, MuL.refl (e5 _ _ hlf)⟩) ?_ ?_)
    · rintro H4 j g' H' e5 hj ⟨⟨o4, uf, rfl, hlf, hvf⟩, m6⟩ H5 e6
      rw [List.length_map] at hj
      obtain ⟨sg, hsg⟩ : ∃ sg, (signsL i)[j]? = some sg := ⟨(signsL i)[j]'hj, List.getElem?_eq_getElem hj⟩
      have hat : ((signsL i).map dSg).getD j .non = dSg sg := by
        rw [List.getD_eq_getElem?_getD, List.getElem?_map, hsg]
        rfl
      have sl := (signsL_mem (List.mem_of_getElem? hsg)).1
      have fl := flat_len (signsL i) j
      have cat : ∀ z : Int, (D.tup ((sg.map D.int) ++ [.int z])) = dSg (sg ++ [z]) := fun z => by
        show D.tup _ = D.tup ((sg ++ [z]).map D.int)
        rw [List.map_append]
        rfl
      rw [hat]
      refine sd_seq (sd_app (vs := uf) (ds := (((signsL i).take j).flatMap fun s => [s ++ [1], s ++ [-1]]).map dSg) ((yd_cat (yd_var (d := dSg sg) rfl) (yd_tup (ya_cons yd_int ya_nil)) (by rw [List.length_map]; simp; omega)).is (cat 1)) (yd_var (d := .ref f) rfl) (e6 _ _ hlf) (hvf.mono e6) (by rw [List.length_map]; omega) fun H6 u6 m7 hl6 hv6 => ?_)
      refine sd_app (vs := u6) (ds := (((signsL i).take j).flatMap fun s => [s ++ [1], s ++ [-1]]).map dSg ++ [dSg (sg ++ [1])]) ((yd_cat (yd_var (d := dSg sg) rfl) (yd_tup (ya_cons (yd_neg yd_int) ya_nil)) (by rw [List.length_map]; simp; omega)).is (cat (-1))) (yd_var (d := .ref f) rfl) hl6 hv6 (by rw [List.length_append, List.length_map]; show _ + 1 < 100000; omega) fun H7 u7 m8 hl7 hv7 => ⟨⟨_, u7, rfl, hl7, ?_⟩, ⟨m6.1.trans ((Mu.of e6).trans (m7.trans m8)), m6.2.1, ⟨_, hl7⟩⟩⟩
      rw [flat_step _ _ _ hsg, List.map_append]
      rw [List.append_assoc] at hv7
      exact hv7
    · rintro H4 g' H' e5 ⟨⟨o4, uf, rfl, hlf2, hvf2⟩, m6⟩
      rw [List.length_map, List.take_length] at hvf2
      have e34 : Same H H' := m6.1.same (e3.trans (e4.trans e5)) (e3.free hf)
      exact sd_asg (R := Same) (Same.refl _) (yd_var (d := .ref f) rfl) fun H7 e7 => ⟨f, uf, _, _, _, rfl, e3.free hf, e34.trans e7, e7 _ _ hlf2, hvf2.mono e7⟩
  · rintro H2 g' H' e2 ⟨p, us, o2, o3, o4, rfl, hp, e3, hl, hv⟩
    have e4 : ((n : Int)).toNat = n := by omega
    rw [e4] at hv
    exact sd_ret (R := Same) (Same.refl _) (yd_var (d := .ref p) rfl) fun H3 e5 => ⟨p, us, rfl, hp, e3.trans e5, e5 _ _ hl, hv.mono e5⟩
/-! ### pushed -/
def loTo (S : Rat) (l : List Rat) (low : Rat) : Rat := l.foldl (fun low s => if low < 2 * s - S then 2 * s - S else low) low
theorem push_max (S : Rat) : ∀ (l : List Rat) (m low : Rat), low = (if 0 < m + m - S then m + m - S else 0) → loTo S l low = (if 0 < l.foldl (fun m q => if m < q then q else m) m + l.foldl (fun m q => if m < q then q else m) m - S then l.foldl (fun m q => if m < q then q else m) m + l.foldl (fun m q => if m < q then q else m) m - S else 0)
  | [], m, low, h => h
  | q :: l, m, low, h => by
    refine push_max S l (if m < q then q else m) (if low < 2 * q - S then 2 * q - S else low) ?_
    subst h
    grind
theorem push_lo (r : List Rat) (h : r ≠ []) : loTo (hiR r) (absR r) 0 = loR r := by
  cases r with
  | nil => exact absurd rfl h
  | cons a l =>
    have hS : 0 ≤ a.abs := Rat.abs_nonneg
    unfold loR gmax
    have e : (absR (a :: l)).getD 0 0 = a.abs := rfl
    have e2 : absR (a :: l) = a.abs :: absR l := rfl
    rw [e]
    generalize hiR (a :: l) = S
    rw [e2]
    refine push_max S (absR l) a.abs (if 0 < 2 * a.abs - S then 2 * a.abs - S else 0) ?_ |>.trans ?_
    · grind
    · rw [List.foldl_cons, if_neg (by grind : ¬ a.abs < a.abs)]
def r_pushed : Hp → List D → D → Prop := fun _ ds d => ∃ r, ds = [dqs r] ∧ r ≠ [] ∧ r.length ≤ 1000 ∧ wtR r ≤ 2500 ∧ d = .tup [dq (loR r), dq (hiR r)]
theorem ok_law_pushed (T : TX K mg) : Cal P w K mg base CX0 5 "_law_pushed" ["_law_row_here"] (spP K r_pushed) := by
  refine cal_pure (f_law_pushed T) (g_law_pushed T) sc_law_pushed bd_law_pushed (fun H ds d ⟨_, e, _⟩ => by rw [e]; rfl) fun cdv A outer s H E hr => ⟨_, (pss_cons (ps_setLc (i := 1) (own := [("_law_number", 2)]) rfl sc_law_pushed.nd rfl rfl (sw_true rfl rfl rfl (by decide +kernel)) (pi_tup (pv 0)) (blkOk_by (own := [("_law_number", 2)]) (N := ["_law_row_here", "_law_sizes", "_law_number", "_law_high", "_law_low", "_law_left"]) (sc := defScope s_law_pushed) (by decide +kernel)) (fun _ _ _ _ _ => pg_name (i := 2) sc_law_pushed.nd rfl (Or.inl rfl)) (fun _ _ _ _ _ => pts_nil) (fun _ _ _ _ _ => (pe_cal (ok_law_size T) (hr.mono (by decide)) rfl pass0 (pa_cons (pv 2) pa_nil))))
      (pss_cons (ps_set (i := 3) sc_law_pushed.nd rfl (by first | exact Or.inl rfl | exact Or.inr rfl) (pe_cal (ok_law_sum T) (hr.mono (by decide)) rfl pass0 (pa_cons (pv 1) pa_nil)))
      (pss_cons (ps_set (i := 4) sc_law_pushed.nd rfl (by first | exact Or.inl rfl | exact Or.inr rfl) (pe_tup (pa_cons pe_int (pa_cons pe_int pa_nil))))
      (pss_cons (ps_for PassesOwn.never rfl (pi_list (pv 1)) (pg_name (i := 2) sc_law_pushed.nd rfl (by first | exact Or.inl rfl | exact Or.inr rfl)) (pss_cons (ps_set (i := 5) sc_law_pushed.nd rfl (by first | exact Or.inl rfl | exact Or.inr rfl) (pe_cal (ok_law_less T) (hr.mono (by decide)) rfl pass0 (pa_cons (pe_cal (ok_law_times T) (hr.mono (by decide)) rfl pass0 (pa_cons (pe_tup (pa_cons pe_int (pa_cons pe_int pa_nil))) (pa_cons (pv 2) pa_nil))) (pa_cons (pv 3) pa_nil))))
      (pss_one (ps_if (pt_val (pe_cal (ok_law_below T) (hr.mono (by decide)) rfl pass0 (pa_cons (pv 4) (pa_cons (pv 5) pa_nil)))) (pss_one (ps_set (i := 4) sc_law_pushed.nd rfl (by first | exact Or.inl rfl | exact Or.inr rfl) (pv 5))) pss_nil))))
      (pss_one (ps_ret (pe_tup (pa_cons (pv 4) (pa_cons (pv 3) pa_nil))))))))), ?_⟩
  rintro H ds d ⟨r, rfl, hne, hz, hw, rfl⟩
  have wa := wtR_abs r
  have b2 := bt_sumq (absR r)
  have alen : (absR r).length = r.length := by unfold absR; rw [List.length_map]
  refine sd_seq (sd_asgN (yl_lc (n := (r.map dq).length) (es := (absR r).map dq) (yi_tup (yd_var (i := 0) rfl)) (fun i hi => tg_name) (by rw [List.length_map]; omega) (by rw [List.length_map, List.length_map, alen]) ?_) fun p us H1 hp e1 hl hv => ?_)
  · intro i d hd H1 e1
    obtain ⟨q, hq, rfl⟩ := dqs_at hd
    have hi : i < r.length := by
      have := (List.getElem?_eq_some_iff.mp hq).1
      omega
    rw [getD_abs r i hi] at hq
    cases hq
    exact yd_size ((yd_var (d := (r.map dq).getD i .non) rfl).is (dqs_getD hi))
  refine sd_seq (sd_asg (R := Same) (Same.refl _) (yd_call (d := dq (hiR r)) (ya_cons (yd_var (d := .ref p) rfl) ya_nil) fun H2 e2 => ⟨p, us, absR r, rfl, e2 _ _ hl, hv.mono e2, by omega, rfl⟩) fun H2 e2 => ?_)
  refine sd_seq (sd_asg (R := Same) (Same.refl _) (yd_q (q := 0)) fun H3 e3 => ?_)
  have bd : ∀ i, i ≤ (absR r).length → bt (loTo (hiR r) ((absR r).take i) 0) ≤ 3000 + wtR r := by
    have key : ∀ (l : List Rat) (low : Rat), bt low ≤ 3000 + wtR r → (∀ q ∈ l, q ∈ absR r) → bt (loTo (hiR r) l low) ≤ 3000 + wtR r := by
      intro l
      induction l with
      | nil => intro low h _; exact h
      | cons q l ih =>
        intro low h hq
        refine ih _ ?_ fun z hz => hq z (List.mem_cons_of_mem _ hz)
        have c1 := bt_mul 2 q
        have c2 := bt_sub (2 * q) (hiR r)
        have c3 := wt_mem (hq q List.mem_cons_self)
        have c4 : bt (2 : Rat) = 2 := by decide +kernel
        have c5 : bt (hiR r) ≤ 1 + wtR (absR r) := b2
        show bt (if low < 2 * q - hiR r then 2 * q - hiR r else low) ≤ _
        split <;> omega
    intro i _
    exact key _ _ (by rw [bt0]; omega) fun q hq => List.mem_of_mem_take hq
  refine sd_seq (sd_forL (yd_var (i := 1) (d := .ref p) rfl) (e3 _ _ (e2 _ _ hl)) (hv.mono (e2.trans e3)) (fun i g' H' => (∃ o2 o5, g' = [some (dqs r), some (.ref p), o2, some (dq (hiR r)), some (dq (loTo (hiR r) ((absR r).take i) 0)), o5]) ∧ Same H3 H') (fun _ _ _ h => h.2) (fun H4 e4 => ⟨⟨none, none, rfl⟩, e4⟩) ?_ ?_)
  · rintro i d g' H' hd ⟨⟨o2, o5, rfl⟩, e4⟩
    obtain ⟨q, hq, rfl⟩ := dqs_at hd
    have b3 := wt_mem (List.mem_of_getElem? hq)
    have b4 := bd i (by have := (List.getElem?_eq_some_iff.mp hq).1; omega)
    have c1 := bt_mul 2 q
    have c2 := bt_sub (2 * q) (hiR r)
    have c4 : bt (2 : Rat) = 2 := by decide +kernel
    have c5 : bt (hiR r) ≤ 1 + wtR (absR r) := b2
    have st : loTo (hiR r) ((absR r).take (i + 1)) 0 = if loTo (hiR r) ((absR r).take i) 0 < 2 * q - hiR r then 2 * q - hiR r else loTo (hiR r) ((absR r).take i) 0 := by
      unfold loTo
      rw [List.take_add_one, hq, Option.toList_some, List.foldl_append]
      rfl
    refine sd_seq (sd_asg (R := Same) (Same.refl _) (yd_ar (yd_ar (yd_q (q := 2)) (yd_var (d := dq q) rfl) (show bt _ + bt _ ≤ 9000 by omega)) (yd_var (d := dq (hiR r)) rfl) (show bt (2 * q) + bt _ ≤ 9000 by omega)) fun H5 e5 => ?_)
    refine sd_if (R := Same) (Same.refl _) (yt_B (yd_below (yd_var (d := dq (loTo (hiR r) ((absR r).take i) 0)) rfl) (yd_var (d := dq (2 * q - hiR r)) rfl) (show bt _ + bt _ ≤ 900000 by omega))) (fun z H6 e6 => sd_asg (R := Same) (Same.refl _) (yd_var (d := dq (2 * q - hiR r)) rfl) fun H7 e7 => ⟨⟨some (dq q), some (dq (2 * q - hiR r)), ?_⟩, e4.trans (e5.trans (e6.trans e7))⟩) fun z H6 e6 => sd_next ⟨⟨some (dq q), some (dq (2 * q - hiR r)), ?_⟩, e4.trans (e5.trans e6)⟩
    · rw [st, if_pos (of_decide_eq_true z)]
      rfl
    · rw [st, if_neg (of_decide_eq_false z)]
      rfl
  · rintro g' H' ⟨⟨o2, o5, rfl⟩, e4⟩
    rw [List.length_map, List.take_length, push_lo r hne]
    exact sd_ret (R := Same) (Same.refl _) (yd_tup (ya_cons (yd_var (d := dq (loR r)) rfl) (ya_cons (yd_var (d := dq (hiR r)) rfl) ya_nil))) fun _ e5 => ⟨rfl, e1.trans (e2.trans (e3.trans (e4.trans e5)))⟩
/-! ### reached -/
def totTo (r : List Rat) (s : List Int) (i : Nat) : Rat := ((List.zip s (r.drop 1)).take i).foldl (fun t p => t + (p.1 : Rat) * p.2) (r.getD 0 0)
def totR (r : List Rat) (s : List Int) : Rat := (List.zip s (r.drop 1)).foldl (fun t p => t + (p.1 : Rat) * p.2) (r.getD 0 0)
def reachB (r : List Rat) (len : Rat) : Bool := (signsL (r.length - 1)).any fun s => decide ((totR r s).abs = len)
theorem bt_sign {z : Int} (h : z = 1 ∨ z = -1) : bt (z : Rat) = 1 := by rcases h with rfl | rfl <;> decide +kernel
theorem dq_int (z : Int) : dq (z : Rat) = .tup [.int z, .int 1] := by
  unfold dq
  rw [Rat.num_intCast, Rat.den_intCast]
  rfl
theorem tot_bt (l : List (Int × Rat)) (t : Rat) (h : ∀ p ∈ l, p.1 = 1 ∨ p.1 = -1) : bt (l.foldl (fun t p => t + (p.1 : Rat) * p.2) t) ≤ bt t + (l.map fun p => 2 * (bt p.2 + 1)).sum := by
  induction l generalizing t with
  | nil => simp
  | cons p l ih =>
    have h1 := ih (t + (p.1 : Rat) * p.2) fun z hz => h z (List.mem_cons_of_mem _ hz)
    have h2 := bt_add t ((p.1 : Rat) * p.2)
    have h3 := bt_mul (p.1 : Rat) p.2
    rw [bt_sign (h p List.mem_cons_self)] at h3
    rw [List.foldl_cons, List.map_cons, List.sum_cons]
    omega
theorem zip_wt : ∀ (s : List Int) (r : List Rat), ((List.zip s r).map fun p => 2 * (bt p.2 + 1)).sum ≤ 2 * wtR r
  | [], r => by simp
  | _ :: _, [] => by simp
  | z :: s, q :: r => by
    have := zip_wt s r
    rw [List.zip_cons_cons, List.map_cons, List.sum_cons, wtR_cons]
    show 2 * (bt q + 1) + _ ≤ _
    omega
theorem tot_le {r : List Rat} {s : List Int} {i : Nat} (hr : 0 < r.length) (h : ∀ z ∈ s, z = 1 ∨ z = -1) : bt (totTo r s i) ≤ 2 * wtR r := by
  have h1 := tot_bt ((List.zip s (r.drop 1)).take i) (r.getD 0 0) fun p hp => h p.1 (List.of_mem_zip (List.mem_of_mem_take hp)).1
  have h2 := sum_take ((List.zip s (r.drop 1)).map fun p => 2 * (bt p.2 + 1)) i
  rw [← List.map_take] at h2
  have h3 := zip_wt s (r.drop 1)
  cases r with
  | nil => simp at hr
  | cons q r =>
    rw [wtR_cons]
    have e1 : (q :: r).drop 1 = r := rfl
    have e2 : (q :: r).getD 0 0 = q := rfl
    rw [e1] at h1 h2 h3
    rw [e2] at h1
    unfold totTo
    rw [e1, e2]
    omega
def r_reached : Hp → List D → D → Prop := fun _ ds d => ∃ r len, ds = [dqs r, dq len] ∧ 0 < r.length ∧ r.length ≤ 5 ∧ wtR r ≤ 2500 ∧ d = .bl (reachB r len)
theorem ok_law_reached (T : TX K mg) : Cal P w K mg base CX0 4 "_law_reached" ["_law_row_here", "_law_length"] (spP K r_reached) := by
  refine cal_pure (f_law_reached T) (g_law_reached T) sc_law_reached bd_law_reached (fun H ds d ⟨_, _, e, _⟩ => by rw [e]; rfl) fun cdv A outer s H E hr => ⟨_, (pss_cons (ps_for PassesOwn.never rfl (pi_list (pe_cal (ok_law_flats T) (hr.mono (by decide)) rfl pass0 (pa_cons (pe_op op_sub (pe_callB (r := rLenX K) call_len rfl (n_len T) bo_len (pa_cons (pv 0) pa_nil)) pe_int) pa_nil))) (pg_name (i := 2) sc_law_reached.nd rfl (by first | exact Or.inl rfl | exact Or.inr rfl)) (pss_cons (ps_set (i := 3) sc_law_reached.nd rfl (by first | exact Or.inl rfl | exact Or.inr rfl) (pe_ix (r := rIxT K) ix_tup (pv 0) pe_int (fun _ _ => rfl)))
      (pss_cons (ps_for PassesOwn.never rfl (pi_enumT rfl (n_enumerate T) (pa_cons (pv 2) pa_nil)) (pg_tup (n := 2) rfl (pgs_cons (pg_name (i := 4) sc_law_reached.nd rfl (by first | exact Or.inl rfl | exact Or.inr rfl)) (pgs_cons (pg_name (i := 5) sc_law_reached.nd rfl (by first | exact Or.inl rfl | exact Or.inr rfl)) pgs_nil))) (pss_one (ps_set (i := 3) sc_law_reached.nd rfl (by first | exact Or.inl rfl | exact Or.inr rfl) (pe_cal (ok_law_plus T) (hr.mono (by decide)) rfl pass0 (pa_cons (pv 3) (pa_cons (pe_cal (ok_law_times T) (hr.mono (by decide)) rfl pass0 (pa_cons (pe_tup (pa_cons (pv 5) (pa_cons pe_int pa_nil))) (pa_cons (pe_ix (r := rIxT K) ix_tup (pv 0) (pe_op op_add (pv 4) pe_int) (fun _ _ => rfl)) pa_nil))) pa_nil))))))
      (pss_one (ps_if (pt_cmpR (r := rEqD K) (op_eqD hr.units) (pe_cal (ok_law_size T) (hr.mono (by decide)) rfl pass0 (pa_cons (pv 3) pa_nil)) (pv 1) (nomark _)) (pss_one (ps_ret pe_bl)) pss_nil)))))
      (pss_one (ps_ret pe_bl))), ?_⟩
  rintro H ds d ⟨r, len, rfl, h0, h5, hw, rfl⟩
  have sl : ((signsL (r.length - 1)).map dSg).length = (signsL (r.length - 1)).length := List.length_map ..
  refine sd_seq (sd_for (vs := [2]) (R := Same) (Same.refl _) (yi_listN (ds := (signsL (r.length - 1)).map dSg) (yl_callL (rel := r_flats) (ya_cons (yd_I0 (yd_lenT (yd_var (i := 0) (d := dqs r) rfl)) yd_int) ya_nil) fun H1 e1 => ⟨r.length - 1, ?_, by omega, rfl⟩)) (fun i hi => tg_name) (fun H2 i g' H' => (∃ o2 o3 o4 o5, g' = [some (dqs r), some (dq len), o2, o3, o4, o5]) ∧ Same H2 H' ∧ ∀ j s, j < i → (signsL (r.length - 1))[j]? = some s → ¬ (totR r s).abs = len) (fun _ _ _ _ h => h.2.1) (fun H2 e2 => ⟨⟨none, none, none, none, rfl⟩, Same.refl _, fun j s h => absurd h (Nat.not_lt_zero _)⟩) ?_ ?_)
  · rw [List.length_map]
    have : ((r.length : Nat) : Int) - 1 = ((r.length - 1 : Nat) : Int) := by omega
    rw [this]
  · rintro H2 i g' H' e2 hi ⟨⟨o2, o3, o4, o5, rfl⟩, e3, hno⟩ H3 e4
    rw [sl] at hi
    obtain ⟨sg, hsg⟩ : ∃ sg, (signsL (r.length - 1))[i]? = some sg := ⟨(signsL (r.length - 1))[i]'hi, List.getElem?_eq_getElem hi⟩
    have hat : ((signsL (r.length - 1)).map dSg).getD i .non = dSg sg := by
      rw [List.getD_eq_getElem?_getD, List.getElem?_map, hsg]
      rfl
    obtain ⟨sl1, sl2⟩ := signsL_mem (List.mem_of_getElem? hsg)
    rw [hat]
    refine sd_seq (sd_asg (R := Same) (d := dq (r.getD 0 0)) (Same.refl _) (yd_ixT (yd_var (d := dqs r) rfl) yd_int (atI_nat (k := 0) (dqs_get h0))) fun H4 e5 => ?_)
    refine sd_seq (sd_for (vs := [4, 5]) (R := Same) (Same.refl _) (yi_enumT (ds := sg.map D.int) (yd_var (i := 2) rfl)) (fun j hj => tg_two) (fun H5 j g' H' => (∃ o4 o5, g' = [some (dqs r), some (dq len), some (dSg sg), some (dq (totTo r sg j)), o4, o5]) ∧ Same H5 H') (fun _ _ _ _ h => h.2) (fun H5 e6 => ⟨⟨_, _, rfl⟩, Same.refl _⟩) ?_ ?_)
    · rintro H5 j g' H' e6 hj ⟨⟨o4, o5, rfl⟩, e7⟩ H6 e8
      rw [List.length_map] at hj
      obtain ⟨z, hz⟩ : ∃ z, sg[j]? = some z := ⟨sg[j]'hj, List.getElem?_eq_getElem hj⟩
      have hz2 := sl2 z (List.mem_of_getElem? hz)
      have za : (sg.map D.int).getD j .non = .int z := by
        rw [List.getD_eq_getElem?_getD, List.getElem?_map, hz]
        rfl
      have hj2 : j + 1 < r.length := by omega
      have hzip : (List.zip sg (r.drop 1))[j]? = some (z, r.getD (j + 1) 0) := by
        rw [List.zip, List.getElem?_zipWith, hz, List.getElem?_drop, List.getD_eq_getElem?_getD, Nat.add_comm 1 j, List.getElem?_eq_getElem hj2]
        rfl
      have st : totTo r sg (j + 1) = totTo r sg j + (z : Rat) * r.getD (j + 1) 0 := by
        unfold totTo
        rw [List.take_add_one, hzip, Option.toList_some, List.foldl_append]
        rfl
      have b1 := tot_le (i := j) h0 sl2
      have b2 := wt_mem (getD_mem hj2)
      have b3 := bt_sign hz2
      have b4 := bt_mul (z : Rat) (r.getD (j + 1) 0)
      rw [za]
      refine sd_asg (R := Same) (Same.refl _) (yd_ar (yd_var (d := dq (totTo r sg j)) rfl) (yd_ar (q := (z : Rat)) ((yd_tup (ya_cons (yd_var (d := .int z) rfl) (ya_cons yd_int ya_nil))).is (dq_int z).symm) (yd_ixT (d := dq (r.getD (j + 1) 0)) (yd_var (d := dqs r) rfl) (yd_I0 (yd_var (d := .int (j : Int)) rfl) yd_int) ?_) (show bt _ + bt _ ≤ 9000 by omega)) (show bt _ + bt ((z : Rat) * r.getD (j + 1) 0) ≤ 9000 by omega)) fun H7 e9 => ⟨⟨some (.int (j : Int)), some (.int z), ?_⟩, e7.trans (e8.trans e9)⟩
      · have : ((j : Int) + 1) = ((j + 1 : Nat) : Int) := by omega
        rw [this]
        exact atI_nat (dqs_get hj2)
      · rw [st]
        rfl
    · rintro H5 g' H' e6 ⟨⟨o4, o5, rfl⟩, e7⟩
      have tt : totTo r sg (sg.map D.int).length = totR r sg := by
        unfold totTo totR
        rw [List.length_map, List.take_of_length_le (by rw [List.length_zip]; omega)]
      rw [tt]
      refine sd_if (R := Same) (Same.refl _) (yt_test (yd_eqQ (yd_size (yd_var (d := dq (totR r sg)) rfl)) (yd_var (d := dq len) rfl))) (fun z H6 e8 => sd_ret (R := Same) (Same.refl _) yd_bl fun H7 e9 => ⟨?_, ?_⟩) fun z H6 e8 => sd_next ⟨⟨_, _, _, _, rfl⟩, e3.trans (e4.trans (e5.trans (e6.trans (e7.trans e8)))), fun j s hj hs => ?_⟩
      · have : reachB r len = true := List.any_eq_true.mpr ⟨sg, List.mem_of_getElem? hsg, z⟩
        rw [this]
      · exact e2.trans (e3.trans (e4.trans (e5.trans (e6.trans (e7.trans (e8.trans e9))))))
      · rcases Nat.lt_or_ge j i with q | q
        · exact hno j s q hs
        · have : j = i := by omega
          subst this
          rw [hsg] at hs
          cases hs
          exact of_decide_eq_false z
  · rintro H2 g' H' e2 ⟨⟨o2, o3, o4, o5, rfl⟩, e3, hno⟩
    refine sd_ret (R := Same) (Same.refl _) yd_bl fun H5 e5 => ⟨?_, e2.trans (e3.trans e5)⟩
    have : reachB r len = false := by
      unfold reachB
      rw [List.any_eq_false]
      intro s hs
      obtain ⟨j, hj, ej⟩ := List.getElem_of_mem hs
      have := hno j s (by rw [sl]; exact hj) (by rw [List.getElem?_eq_getElem hj, ej])
      simpa using this
    rw [this]
/-! ### chain -/
def chainB (r : List Rat) : List Bar := (List.range (r.length - 1)).map fun k : Nat => ⟨(k : Int) - 1, r.getD k 0, k + 1⟩
abbrev dPl (k : Int) (m : Rat) : D := .tup [.int k, dq m]
def r_chain (K : PySem.W.Frag) : Hp → List D → D → Prop := fun H ds d => ∃ a vs r, ds = [.ref a] ∧ H a = some (.lst vs) ∧ RpL K H vs (r.map dq) ∧ 2 ≤ r.length ∧ r.length ≤ 10 ∧ d = .tup [dBars (chainB r), dPl ((r.length : Int) - 2) (r.getD (r.length - 1) 0)]
theorem ok_law_chain (T : TX K mg) : Cal P w K mg base CX0 1 "_law_chain" ["_law_row_here"] (spP K (r_chain K)) := by
  refine cal_pure (f_law_chain T) (g_law_chain T) sc_law_chain bd_law_chain (fun H ds d ⟨_, _, _, e, _⟩ => by rw [e]; rfl) fun cdv A outer s H E hr => ⟨_, (pss_cons (ps_set (i := 1) sc_law_chain.nd rfl (by first | exact Or.inl rfl | exact Or.inr rfl) (pe_op op_sub (pe_callB (r := rLenX K) call_len rfl (n_len T) bo_len (pa_cons (pv 0) pa_nil)) pe_int))
      (pss_cons (ps_set (i := 2) sc_law_chain.nd rfl (by first | exact Or.inl rfl | exact Or.inr rfl) (pe_callTy (r := rTupOf K) call_tuple_of rfl (n_tuple T) bo_tuple (pa_cons (pe_lc (own := [("_law_k", 3)]) rfl sc_law_chain.nd (pi_range1 rfl (n_range T) (pa_cons (pv 1) pa_nil)) (blkOk_by (own := [("_law_k", 3)]) (N := ["_law_row_here", "_law_n", "_law_bars", "_law_k"]) (sc := defScope s_law_chain) (by decide +kernel)) (fun _ _ _ _ _ => pg_name (i := 3) sc_law_chain.nd rfl (Or.inl rfl)) (fun _ _ _ _ _ => pts_nil) (fun _ _ _ _ _ => (pe_tup (pa_cons (pe_op op_sub (pv 3) pe_int) (pa_cons (pe_ix (r := rIxL K) ix_list (pv 0) (pv 3) (fun _ _ => rfl)) (pa_cons (pe_op op_add (pv 3) pe_int) pa_nil)))))) pa_nil)))
      (pss_one (ps_ret (pe_tup (pa_cons (pv 2) (pa_cons (pe_tup (pa_cons (pe_op op_sub (pv 1) pe_int) (pa_cons (pe_ix (r := rIxL K) ix_list (pv 0) (pv 1) (fun _ _ => rfl)) pa_nil))) pa_nil))))))), ?_⟩
  rintro H ds d ⟨a, vs, r, rfl, hl, hv, h2, hz, rfl⟩
  have vl := hv.length
  rw [List.length_map] at vl
  refine sd_seq (sd_asg (R := Same) (d := .int ((r.length - 1 : Nat) : Int)) (Same.refl _) ((yd_I0 (yd_lenL (yd_var rfl) fun _ e => e _ _ hl) yd_int).is (by rw [vl]; congr 1; omega)) fun H1 e1 => ?_)
  refine sd_seq (sd_asg (R := Same) (d := dBars (chainB r)) (Same.refl _) (yd_tupOf (yl_lc (yi_range1 (ya_cons (yd_var (i := 1) (d := .int ((r.length - 1 : Nat) : Int)) rfl) ya_nil) (by omega)) (fun i hi => tg_name) (by omega) (by unfold chainB; rw [List.length_map, List.length_map, List.length_range]; omega) ?_)) fun H2 e2 => ?_)
  · intro i d hd H3 e3
    have hi : i < r.length - 1 := by
      have := (List.getElem?_eq_some_iff.mp hd).1
      unfold chainB at this
      rw [List.length_map, List.length_map, List.length_range] at this
      exact this
    obtain rfl : d = dBar ⟨(i : Int) - 1, r.getD i 0, i + 1⟩ := by
      unfold chainB at hd
      rw [List.getElem?_map, List.getElem?_map, List.getElem?_range hi] at hd
      cases hd
      rfl
    exact (yd_tup (ya_cons (yd_I0 (yd_var (d := .int (i : Int)) rfl) yd_int) (ya_cons (yd_ixL (d := dq (r.getD i 0)) (yd_var (d := .ref a) rfl) (yd_var (d := .int (i : Int)) rfl) (fun H4 e4 => ⟨e4 _ _ (e3 _ _ (e1 _ _ hl)), hv.mono (e1.trans (e3.trans e4))⟩) (atI_nat (dqs_get (by omega)))) (ya_cons (yd_I0 (yd_var (d := .int (i : Int)) rfl) yd_int) ya_nil)))).is (by rfl)
  · have e12 := e1.trans e2
    refine sd_ret (R := Same) (Same.refl _) ((yd_tup (ya_cons (yd_var (d := dBars (chainB r)) rfl) (ya_cons (yd_tup (ya_cons (yd_I0 (yd_var (d := .int ((r.length - 1 : Nat) : Int)) rfl) yd_int) (ya_cons (yd_ixL (d := dq (r.getD (r.length - 1) 0)) (yd_var (d := .ref a) rfl) (yd_var (d := .int ((r.length - 1 : Nat) : Int)) rfl) (fun H4 e4 => ⟨e4 _ _ (e12 _ _ hl), hv.mono (e12.trans e4)⟩) (atI_nat (dqs_get (by omega)))) ya_nil))) ya_nil))).is ?_) fun H3 e3 => ⟨rfl, e12.trans e3⟩
    have : ((r.length - 1 : Nat) : Int) - 1 = (r.length : Int) - 2 := by omega
    rw [this]
end K19
set_option maxHeartbeats 4000000
set_option exponentiation.threshold 20000
namespace K19
open PySem PySem.Spec PyProof.Rows L2
variable {P : Program} {w : World} {K : PySem.W.Frag} {mg : Str → Option Value} {base : Heap}
/-! ### flat_at's answer -/
/-- the digits of a code, UP for 0 -/
def poseOf : Nat → Nat → List Uv
  | 0, _ => []
  | n + 1, c => poseOf n (c / 2) ++ [if c % 2 = 0 then (0, 1) else (0, -1)]
def posesL (n : Nat) : List (List Uv) := (List.range (2 ^ n)).map (poseOf n)
def flatHit (r : List Rat) (len : Rat) (us : List Uv) : Bool := decide ((spotR (upU :: us) r).2.abs = len)
def flatAns (n : Nat) (r : List Rat) (len : Rat) : Option (List Uv) := (posesL n).find? (flatHit r len)
def dAns : Option (List Uv) → D
  | some us => dUs us
  | none => .non
theorem poseOf_ok : ∀ (n c : Nat), (poseOf n c).length = n ∧ FlatOk (poseOf n c)
  | 0, _ => ⟨rfl, fun u h => by cases h⟩
  | n + 1, c => by
    obtain ⟨h1, h2⟩ := poseOf_ok n (c / 2)
    unfold poseOf
    refine ⟨by rw [List.length_append, h1]; rfl, fun u hu => ?_⟩
    rcases List.mem_append.mp hu with q | q
    · exact h2 u q
    · cases List.mem_singleton.mp q
      split
      · exact .inl rfl
      · exact .inr rfl
theorem posesL_mem {n : Nat} {us : List Uv} (h : us ∈ posesL n) : us.length = n ∧ FlatOk us := by
  obtain ⟨c, _, rfl⟩ := List.mem_map.mp h
  exact poseOf_ok n c
def r_flatat : Hp → List D → D → Prop := fun _ ds d => ∃ bs n r len, ds = [dA bs n, dqs r, dq len] ∧ n ≤ 4 ∧ r.length = n + 1 ∧ wtR r ≤ 2500 ∧ d = dAns (flatAns n r len)
/-! ### two errors -/
def spE2 (K : PySem.W.Frag) (rel : Hp → List D → D → Prop) (bad : Hp → List D → Prop) (C : Addr) (bad2 : Hp → List D → Prop) (C2 : Addr) : Sp := fun vs H Q E => ∃ ds, RpL K H vs ds ∧
  ((∃ d, rel H ds d ∧ ∀ v H', Same H H' → Rp K H' v d → Q v H') ∨ (bad H ds ∧ ∀ dd H', Same H H' → E (.ref C) dd H') ∨ (bad2 H ds ∧ ∀ dd H', Same H H' → E (.ref C2) dd H'))
theorem cal_exc2 {x : Str} {st : Stmt} {N ps : List Str} {k : Nat} {rel : Hp → List D → D → Prop} {bad bad2 : Hp → List D → Prop} {C C2 : Addr} (F : ∃ fd, FunD K x x (defArgs st) (defBody st) (defScope st) [] [] (He.ga K x) fd) (gl : mg x = some (.ref (He.ga K x))) (S : FnScope N ps (defScope st)) (hb : Bnd x x st ps) (len : ∀ H ds d, rel H ds d → ds.length = ps.length)
    (lenb : ∀ H ds, bad H ds → ds.length = ps.length) (lenb2 : ∀ H ds, bad2 H ds → ds.length = ps.length)
    (body : ∀ (cdv : Value) (A : Around) (outer : List Env) (s : Shared) (H : Hp) (E : XK), Room k (A.deeper (envOfC x (defScope st) s.heap.objs.size (He.ga K x) cdv)) →
      ∃ t, PSs (cxOf (L2.CX P w) P w K mg base N x (defScope st) (He.ga K x) cdv A outer s H E) (defBody st) t ∧ (∀ H ds d, rel H ds d → Sd K t (gm0 N ds) H (enP d H)) ∧
        (∀ H ds, bad H ds → (∀ dd H', Same H H' → E (.ref C) dd H') → Sx K t (gm0 N ds) H) ∧ ∀ H ds, bad2 H ds → (∀ dd H', Same H H' → E (.ref C2) dd H') → Sx K t (gm0 N ds) H) : Cal P w K mg base (L2.CX P w) (k + 1) x ps (spE2 K rel bad C bad2 C2) := by
  obtain ⟨fd, F⟩ := F
  refine ⟨⟨fd, F.ok S (fun vs H Q E ⟨ds, r, h⟩ => by
    rw [r.length]
    rcases h with ⟨d, h, _⟩ | ⟨h, _⟩ | ⟨h, _⟩
    · exact len H ds d h
    · exact lenb H ds h
    · exact lenb2 H ds h) fun cdv A outer s H vs Q E hr hsp => ?_, F.bindsN hb⟩, gl, F.kp⟩
  obtain ⟨ds, r, h⟩ := hsp
  obtain ⟨t, ht, h1, h2, h3⟩ := body cdv A outer s H E hr
  refine ⟨t, ht, ?_⟩
  rcases h with ⟨d, h, hQ⟩ | ⟨h, hE⟩ | ⟨h, hE⟩
  · exact h1 H ds d h _ _ (Ty.start r) (fits_p hQ)
  · exact h2 H ds h hE _ _ (Ty.start r)
  · exact h3 H ds h hE _ _ (Ty.start r)
/-! ### farthest, nearest, beyond -/
theorem sc_farthest_pose : FnScope ["arms", "one", "other", "row"] ["arms", "one", "other"] (defScope s_farthest_pose) := ⟨rfl, rfl, rfl, by decide +kernel, rfl, by decide +kernel, by decide +kernel⟩
theorem bd_farthest_pose : Bnd "farthest_pose" "farthest_pose" s_farthest_pose ["arms", "one", "other"] := fun _ _ _ _ _ _ us hl => match us, hl with | [_, _, _], _ => rfl
theorem sc_nearest_pose : FnScope ["arms", "one", "other", "row"] ["arms", "one", "other"] (defScope s_nearest_pose) := ⟨rfl, rfl, rfl, by decide +kernel, rfl, by decide +kernel, by decide +kernel⟩
theorem bd_nearest_pose : Bnd "nearest_pose" "nearest_pose" s_nearest_pose ["arms", "one", "other"] := fun _ _ _ _ _ _ us hl => match us, hl with | [_, _, _], _ => rfl
theorem sc_beyond_pose : FnScope ["arms", "one", "other", "length", "row", "high"] ["arms", "one", "other", "length"] (defScope s_beyond_pose) := ⟨rfl, rfl, rfl, by decide +kernel, rfl, by decide +kernel, by decide +kernel⟩
theorem bd_beyond_pose : Bnd "beyond_pose" "beyond_pose" s_beyond_pose ["arms", "one", "other", "length"] := fun _ _ _ _ _ _ us hl => match us, hl with | [_, _, _, _], _ => rfl
def r_twoN (K : PySem.W.Frag) (f : Nat → List Rat → D) : Hp → List D → D → Prop := fun H ds d => ∃ bs n x k m y j l, ds = [dA bs n, x, y] ∧ Two K H bs n x k m y j l ∧ d = f n (drow bs n k m j l)
theorem Two.flat {H H2 : Hp} {bs : List Bar} {n : Nat} {x : D} {k : Int} {m : Rat} {y : D} {j : Int} {l : Rat} (h : Two K H bs n x k m y j l) (len : Rat) : r_flatat H2 [dA bs n, dqs (drow bs n k m j l), dq len] (dAns (flatAns n (drow bs n k m j l) len)) := by
  have n4 := h.G.n4
  have w1 := h.w
  have w2 := drow_wt bs n k m j l
  exact ⟨bs, n, _, len, rfl, n4, drow_len .., by omega, rfl⟩
theorem ok_farthest_pose (T : TX K mg) (B : BX P w K mg base) : Cal P w K mg base (L2.CX P w) 21 "farthest_pose" ["arms", "one", "other"] (spE K (fun _ _ _ => False) (b_diff K) (CP K)) := by
  refine cal_exc (f_farthest_pose T) (g_farthest_pose T) sc_farthest_pose bd_farthest_pose (fun H ds d h => h.elim) (fun H ds ⟨_, _, _, _, e, _⟩ => by rw [e]; rfl) fun cdv A outer s H E hr => ⟨_, (pss_cons (ps_set (i := 3) sc_farthest_pose.nd rfl (by first | exact Or.inl rfl | exact Or.inr rfl) (pe_calM (ok_Arms_difference_row T B) (c_Arms T) (m_difference_row T) (pv 0) (hr.mono (by decide)) (passes_call (takes_of rfl rfl rfl rfl) (fun _ _ _ _ q => q)) (pa_cons (pv 1) (pa_cons (pv 2) pa_nil))))
      (pss_one ps_never)), ?_, ?_⟩
  · exact fun H ds d h => h.elim
  · rintro H ds ⟨bs, n, x, y, rfl, G, hb⟩ hE
    exact sx_seq1 (sx_asg (R := Same) (Same.refl _) (yx_methE (yd_var (d := dA bs n) rfl) (ya_cons (yd_var rfl) (ya_cons (yd_var rfl) ya_nil)) (fun H1 e1 => ⟨bs, n, x, y, rfl, G, hb.imp id fun ⟨q, k, m, h1, h2⟩ => ⟨q, k, m, h1.mono e1, h2⟩⟩) fun dd H1 e1 => hE dd H1 e1))
theorem ok_nearest_pose (T : TX K mg) (B : BX P w K mg base) : Cal P w K mg base (L2.CX P w) 21 "nearest_pose" ["arms", "one", "other"] (spE K (fun _ _ _ => False) (b_diff K) (CP K)) := by
  refine cal_exc (f_nearest_pose T) (g_nearest_pose T) sc_nearest_pose bd_nearest_pose (fun H ds d h => h.elim) (fun H ds ⟨_, _, _, _, e, _⟩ => by rw [e]; rfl) fun cdv A outer s H E hr => ⟨_, (pss_cons (ps_set (i := 3) sc_nearest_pose.nd rfl (by first | exact Or.inl rfl | exact Or.inr rfl) (pe_calM (ok_Arms_difference_row T B) (c_Arms T) (m_difference_row T) (pv 0) (hr.mono (by decide)) (passes_call (takes_of rfl rfl rfl rfl) (fun _ _ _ _ q => q)) (pa_cons (pv 1) (pa_cons (pv 2) pa_nil))))
      (pss_one ps_never)), ?_, ?_⟩
  · exact fun H ds d h => h.elim
  · rintro H ds ⟨bs, n, x, y, rfl, G, hb⟩ hE
    exact sx_seq1 (sx_asg (R := Same) (Same.refl _) (yx_methE (yd_var (d := dA bs n) rfl) (ya_cons (yd_var rfl) (ya_cons (yd_var rfl) ya_nil)) (fun H1 e1 => ⟨bs, n, x, y, rfl, G, hb.imp id fun ⟨q, k, m, h1, h2⟩ => ⟨q, k, m, h1.mono e1, h2⟩⟩) fun dd H1 e1 => hE dd H1 e1))
/-- a length that is none -/
inductive LenBad (H : Hp) : D → Prop
  | data {x} (hx : x.good = true) (h : fromZero x = false) : LenBad H x
  | lst {a vs} (h : H a = some (.lst vs)) : LenBad H (.ref a)
theorem LenBad.mono {H H' : Hp} {x : D} (e : Same H H') (h : LenBad H x) : LenBad H' x := by
  cases h with
  | data hx h => exact .data hx h
  | lst h => exact .lst (e _ _ h)
def r_beyond (K : PySem.W.Frag) : Hp → List D → D → Prop := fun H ds d => ∃ bs n x k m y j l len, ds = [dA bs n, x, y, dq len] ∧ Two K H bs n x k m y j l ∧ 0 ≤ len ∧ bt len ≤ 10000 ∧ d = (if len < hiR (drow bs n k m j l) then dAns (flatAns n (drow bs n k m j l) (hiR (drow bs n k m j l))) else .non)
def b_beyP (K : PySem.W.Frag) : Hp → List D → Prop := fun H ds => ∃ bs n x y z, ds = [dA bs n, x, y, z] ∧ GoodBars bs n ∧ (PlBad bs.length x ∨ (PlBad bs.length y ∧ ∃ k m, PlOk K bs H x k m ∧ wtS (steps bs k m) ≤ 3000))
def b_beyL (K : PySem.W.Frag) : Hp → List D → Prop := fun H ds => ∃ bs n x k m y j l z, ds = [dA bs n, x, y, z] ∧ Two K H bs n x k m y j l ∧ LenBad H z
theorem ok_beyond_pose (T : TX K mg) (B : BX P w K mg base) : Cal P w K mg base (L2.CX P w) 21 "beyond_pose" ["arms", "one", "other", "length"] (spE2 K (fun _ _ _ => False) (b_beyP K) (CP K) (b_beyL K) (CL K)) := by
  refine cal_exc2 (f_beyond_pose T) (g_beyond_pose T) sc_beyond_pose bd_beyond_pose (fun H ds d h => h.elim) (fun H ds ⟨_, _, _, _, _, e, _⟩ => by rw [e]; rfl) (fun H ds ⟨_, _, _, _, _, _, _, _, _, e, _⟩ => by rw [e]; rfl) fun cdv A outer s H E hr => ⟨_, (pss_cons (ps_set (i := 4) sc_beyond_pose.nd rfl (by first | exact Or.inl rfl | exact Or.inr rfl) (pe_calM (ok_Arms_difference_row T B) (c_Arms T) (m_difference_row T) (pv 0) (hr.mono (by decide)) (passes_call (takes_of rfl rfl rfl rfl) (fun _ _ _ _ q => q)) (pa_cons (pv 1) (pa_cons (pv 2) pa_nil))))
      (pss_cons (ps_if (pt_not (pt_val (pe_cal (ok_is_from_zero T) (hr.mono (by decide)) rfl pass0 (pa_cons (pv 3) pa_nil)))) (pss_one (ps_raise rfl (takes_of rfl rfl rfl rfl) (pmk_length B rfl (hr.mono (by decide)) rfl))) pss_nil)
      (pss_cons (ps_set (i := 5) sc_beyond_pose.nd rfl (by first | exact Or.inl rfl | exact Or.inr rfl) (pe_ix (r := rIxT K) ix_tup (pe_cal (ok_far_ends T) (hr.mono (by decide)) rfl pass0 (pa_cons (pv 4) pa_nil)) pe_int (fun _ _ => rfl)))
      (pss_one ps_never)))), ?_, ?_, ?_⟩
  · exact fun H ds d h => h.elim
  · rintro H ds ⟨bs, n, x, y, z, rfl, G, hb⟩ hE
    exact sx_seq1 (sx_asg (R := Same) (Same.refl _) (yx_methE (yd_var (i := 0) (d := dA bs n) rfl) (ya_cons (yd_var rfl) (ya_cons (yd_var rfl) ya_nil)) (fun H1 e1 => ⟨bs, n, x, y, rfl, G, hb.imp id fun ⟨q, k, m, h1, h2⟩ => ⟨q, k, m, h1.mono e1, h2⟩⟩) fun dd H1 e1 => hE dd H1 e1))
  · rintro H ds ⟨bs, n, x, k, m, y, j, l, z, rfl, h, hz⟩ hE
    refine sx_seq (sd_asg (R := Same) (Same.refl _) (yd_methE (yd_var (d := dA bs n) rfl) (ya_cons (yd_var rfl) (ya_cons (yd_var rfl) ya_nil)) fun H1 e1 => (h.mono e1).diff) fun H1 e1 => ?_)
    refine sx_seq1 (sx_ifT (R := Same) (Same.refl _) (yt_not (yt_B (yd_call (d := .bl false) (ya_cons (yd_var (i := 3) rfl) ya_nil) fun H2 e2 => ⟨z, rfl, ?_⟩))) fun H2 e2 => sx_raise fun dd H3 e3 => hE dd H3 (e1.trans (e2.trans e3)))
    cases hz with
    | data hx hf => exact .inl ⟨hx, by rw [hf]⟩
    | lst hl => exact .inr ⟨_, _, rfl, e2 _ _ (e1 _ _ hl), rfl⟩
end K19
set_option maxHeartbeats 4000000
set_option exponentiation.threshold 20000
namespace K19
open PySem PySem.Spec PyProof.Rows L2
variable {P : Program} {w : World} {K : PySem.W.Frag} {mg : Str → Option Value} {base : Heap}
section
variable {X : Cx} {CX : CXT} {k : Nat} {x : Str} {ps : List Str} {sp : Sp} {E : L2.St → XK} {p pos : Pos} {e : Expr} {es : List Expr} {t : TA}
theorem pe_calS (C : Cal X.prog X.w X.K X.mg X.base CX k x ps sp) (hr : Room k X.A) (hg : Gl X x) (hx : ∀ σ, PassesAt CX X σ (E σ)) (ha : PA X (e :: es) t) (hdb : (x == ("__debug__" : Str)) = false := by decide)
    (he : starEach (e :: es) X.env = (false, eval e X.env) :: starEach es X.env := by rfl) (hpl : (backTo pos (starEach es X.env)).any (·.1) = false := by rfl) : PE X (.Call (.Name x p) (e :: es) [] pos) (tCallS sp E t) := by
  obtain ⟨fd, F, b⟩ := C.fn
  exact pe_callS F hr hg C.gl C.kp b hx ha hdb he hpl
end
section
variable {g : Gm} {H : Hp} {ta : TA} {ds : List D} {d : D} {E : En} {W : L2.St → XK} {rel : Hp → List D → D → Prop} {bad bad2 : Hp → List D → Prop} {C C2 : Addr} {sp : Sp} {i : Nat} {v : V}
theorem yd_callS2 (h : Ya Same K ta g H ds) (hr : ∀ H1, Same H H1 → rel H1 ds d) : Yd Same K (tCallS (spE2 K rel bad C bad2 C2) W ta) g H d := fun s H1 e t Q q =>
  h s H1 e t _ fun vs H2 e2 rs => ⟨ds, rs, .inl ⟨d, hr H2 (e.trans e2), fun v H3 e3 rv => q v H3 (e2.trans e3) rv⟩⟩
/-- how a promise raises C -/
def Throws (K : PySem.W.Frag) (sp : Sp) (C : Addr) (H : Hp) (ds : List D) : Prop := ∀ vs H1 (Q : VK) (F : XK), Same H H1 → RpL K H1 vs ds → (∀ dd H', Same H1 H' → F (.ref C) dd H') → sp vs H1 Q F
theorem throws_1 (h : ∀ H1, Same H H1 → bad H1 ds) : Throws K (spE K rel bad C) C H ds := fun vs H1 Q F e r f => ⟨ds, r, .inr ⟨h H1 e, f⟩⟩
theorem throws_2 (h : ∀ H1, Same H H1 → bad H1 ds) : Throws K (spE2 K rel bad C bad2 C2) C H ds := fun vs H1 Q F e r f => ⟨ds, r, .inr (.inl ⟨h H1 e, f⟩)⟩
theorem throws_3 (h : ∀ H1, Same H H1 → bad2 H1 ds) : Throws K (spE2 K rel bad C bad2 C2) C2 H ds := fun vs H1 Q F e r f => ⟨ds, r, .inr (.inr ⟨h H1 e, f⟩)⟩
/-- a statement that raises within a try: what the clauses wish -/
def Sr (K : PySem.W.Frag) (t : WX → TS) (g : Gm) (H : Hp) (C : Addr) : Prop := ∀ (W : WX) s (Z : Ends), Ty K g s H → (∀ dd H1, Same H H1 → W (.ref C) dd s H1) → t W Z s H
theorem sr_drop (h : Ya Same K ta g H ds) (ht : Throws K sp C H ds) : Sr K (fun W => tDrop (tCallS sp (WE W) ta)) g H C := fun W s Z ty q =>
  h s H (Same.refl _) ty _ fun vs H1 e1 rs => ht vs H1 _ _ e1 rs fun dd H2 e2 => q dd H2 (e1.trans e2)
theorem sr_tup (h : Ya Same K ta g H ds) (ht : Throws K sp C H ds) : Sr K (fun W => tAsg (tTup (tCons (tC v) (tCons (tCallS sp (WE W) ta) tNil))) (gName i)) g H C := fun W s Z ty q =>
  h s H (Same.refl _) ty _ fun vs H1 e1 rs => ht vs H1 _ _ e1 rs fun dd H2 e2 => q dd H2 (e1.trans e2)
theorem sr_if {c : TT} {t u : WX → TS} {b : Bool} (hc : Yt Same K c g H b) (h1 : b = true → ∀ H1, Same H H1 → Sr K t g H1 C) (h2 : b = false → ∀ H1, Same H H1 → Sr K u g H1 C) : Sr K (fun W => tIfS c (t W) (u W)) g H C := fun W s Z ty q =>
  hc s H (Same.refl _) ty _ fun H1 e1 => by
    cases b with
    | true => exact h1 rfl H1 e1 W s Z (ty.mono e1) fun dd H2 e2 => q dd H2 (e1.trans e2)
    | false => exact h2 rfl H1 e1 W s Z (ty.mono e1) fun dd H2 e2 => q dd H2 (e1.trans e2)
end
theorem sc_law_called : FnScope ["_law_arms", "_law_one", "_law_other", "_law_length", "_law_found"] ["_law_arms", "_law_one", "_law_other", "_law_length"] (defScope s_law_called) := ⟨rfl, rfl, rfl, by decide +kernel, rfl, by decide +kernel, by decide +kernel⟩
theorem bd_law_called : Bnd "_law_called" "_law_called" s_law_called ["_law_arms", "_law_one", "_law_other", "_law_length"] := fun _ _ _ _ _ _ us hl => match us, hl with | [_, _, _, _], _ => rfl
theorem sc_law_stray : FnScope ["_law_act", "_law_arms", "_law_one", "_law_other", "_law_found"] ["_law_act", "_law_arms", "_law_one", "_law_other"] (defScope s_law_stray) := ⟨rfl, rfl, rfl, by decide +kernel, rfl, by decide +kernel, by decide +kernel⟩
theorem bd_law_stray : Bnd "_law_stray" "_law_stray" s_law_stray ["_law_act", "_law_arms", "_law_one", "_law_other"] := fun _ _ _ _ _ _ us hl => match us, hl with | [_, _, _, _], _ => rfl
abbrev dTold (w : Str) (d : D) : D := .tup [.str w, d]
def r_called (K : PySem.W.Frag) : Hp → List D → D → Prop := fun H ds d => ∃ bs n x y z, ds = [dA bs n, x, y, z] ∧ (
  (∃ k m j l len, z = dq len ∧ Two K H bs n x k m y j l ∧ 0 ≤ len ∧ bt len ≤ 10000 ∧ d = dTold "told" (if len < hiR (drow bs n k m j l) then dAns (flatAns n (drow bs n k m j l) (hiR (drow bs n k m j l))) else .non)) ∨
  (∃ k m j l, Two K H bs n x k m y j l ∧ LenBad H z ∧ d = dTold "length" .non) ∨
  (GoodBars bs n ∧ (PlBad bs.length x ∨ (PlBad bs.length y ∧ ∃ k m, PlOk K bs H x k m ∧ wtS (steps bs k m) ≤ 3000)) ∧ d = dTold "place" .non))
/-- .. where nothing is told -/
def r_calledB (K : PySem.W.Frag) : Hp → List D → D → Prop := fun H ds d => ∃ bs n x y z, ds = [dA bs n, x, y, z] ∧ (
  (∃ k m j l, Two K H bs n x k m y j l ∧ LenBad H z ∧ d = dTold "length" .non) ∨
  (GoodBars bs n ∧ (PlBad bs.length x ∨ (PlBad bs.length y ∧ ∃ k m, PlOk K bs H x k m ∧ wtS (steps bs k m) ≤ 3000)) ∧ d = dTold "place" .non))
theorem ok_law_called (T : TX K mg) (B : BX P w K mg base) : Cal P w K mg base CX0 22 "_law_called" ["_law_arms", "_law_one", "_law_other", "_law_length"] (spP K (r_calledB K)) := by
  refine cal_pure (f_law_called T) (g_law_called T) sc_law_called bd_law_called (fun H ds d ⟨_, _, _, _, _, e, _⟩ => by rw [e]; rfl) fun cdv A outer s H E hr => ⟨_,
    pss_cons (ps_set (i := 4) sc_law_called.nd rfl (by first | exact Or.inl rfl | exact Or.inr rfl) (pe_tup (pa_cons pe_str (pa_cons pe_non pa_nil))))
      (pss_cons (ps_try_many (tb := fun W => tAsg (tTup (tCons (tC (.str "told")) (tCons (tCallS (spE2 K (fun _ _ _ => False) (b_beyP K) (CP K) (b_beyL K) (CL K)) (WE W) (tCons (tVar 0) (tCons (tVar 1) (tCons (tVar 2) (tCons (tVar 3) tNil))))) tNil))) (gName 4)) rfl rfl takes0
          (fun W pn xe tk _ => pss_one (ps_set (i := 4) sc_law_called.nd rfl (by first | exact Or.inl rfl | exact Or.inr rfl) (pe_tup (pa_cons pe_str (pa_cons (pe_calS (ok_beyond_pose T B) (hr.mono (by decide)) rfl (fun σ => passAt tk σ) (pa_cons (pv 0) (pa_cons (pv 1) (pa_cons (pv 2) (pa_cons (pv 3) pa_nil))))) pa_nil)))))
          (.cons (ts := fun _ _ _ => tAsg (tTup (tCons (tC (.str "length")) (tCons (tC .non) tNil))) (gName 4)) ⟨rfl, by decide, .inl (g_BadLength T)⟩ (fun a oe cls d pn _ _ => pss_one (ps_set (i := 4) sc_law_called.nd rfl (by first | exact Or.inl rfl | exact Or.inr rfl) (pe_tup (pa_cons pe_str (pa_cons pe_non pa_nil)))))
            (.cons (ts := fun _ _ _ => tAsg (tTup (tCons (tC (.str "place")) (tCons (tC .non) tNil))) (gName 4)) ⟨rfl, by decide, .inl (g_BadPlace T)⟩ (fun a oe cls d pn _ _ => pss_one (ps_set (i := 4) sc_law_called.nd rfl (by first | exact Or.inl rfl | exact Or.inr rfl) (pe_tup (pa_cons pe_str (pa_cons pe_non pa_nil))))) .nil)))
        (pss_one (ps_ret (pv 4)))), ?_⟩
  rintro H ds d ⟨bs, n, x, y, z, rfl, h⟩
  refine sd_seq (sd_asg (R := Same) (Same.refl _) (yd_tup (ya_cons yd_str (ya_cons yd_non ya_nil))) fun H1 e1 => ?_)
  rcases h with ⟨k, m, j, l, h, hz, rfl⟩ | ⟨G, hb, rfl⟩
  · refine sd_seq fun s Z ty fz => ?_
    refine sr_tup (C := CL K) (ya_cons (yd_var (i := 0) rfl) (ya_cons (yd_var (i := 1) rfl) (ya_cons (yd_var (i := 2) rfl) (ya_cons (yd_var (i := 3) (d := z) rfl) ya_nil)))) (throws_3 fun H2 e2 => ⟨bs, n, x, k, m, y, j, l, z, rfl, h.mono (e1.trans e2), hz.mono (e1.trans e2)⟩) _ s Z ty fun dd H2 e2 => ⟨true, B.ll, fun _ a ha => ?_, fun q => by cases q⟩
    refine (sd_asg (i := 4) (R := Same) (Same.refl _) (yd_tup (ya_cons yd_str (ya_cons yd_non ya_nil))) fun H3 e3 => ?_) s Z (ty.mono e2) fz
    exact sd_ret (R := Same) (Same.refl _) (yd_var rfl) fun H4 e4 => ⟨rfl, e1.trans (e2.trans (e3.trans e4))⟩
  · refine sd_seq fun s Z ty fz => ?_
    refine sr_tup (C := CP K) (ya_cons (yd_var (i := 0) rfl) (ya_cons (yd_var (i := 1) rfl) (ya_cons (yd_var (i := 2) rfl) (ya_cons (yd_var (i := 3) (d := z) rfl) ya_nil)))) (throws_2 fun H2 e2 => ⟨bs, n, x, y, z, rfl, G, hb.imp id fun ⟨q, k, m, h1, h2⟩ => ⟨q, k, m, h1.mono (e1.trans e2), h2⟩⟩) _ s Z ty fun dd H2 e2 => ⟨false, B.pl, fun q => (by cases q), fun _ => ⟨true, B.pp, fun _ a ha => ?_, fun q => by cases q⟩⟩
    refine (sd_asg (i := 4) (R := Same) (Same.refl _) (yd_tup (ya_cons yd_str (ya_cons yd_non ya_nil))) fun H3 e3 => ?_) s Z (ty.mono e2) fz
    exact sd_ret (R := Same) (Same.refl _) (yd_var rfl) fun H4 e4 => ⟨rfl, e1.trans (e2.trans (e3.trans e4))⟩
def r_stray (K : PySem.W.Frag) : Hp → List D → D → Prop := fun H ds d => ∃ (act : Int) (bs : List Bar) (n : Nat) (x y : D), ds = [.int act, dA bs n, x, y] ∧ GoodBars bs n ∧ (PlBad bs.length x ∨ (PlBad bs.length y ∧ ∃ k m, PlOk K bs H x k m ∧ wtS (steps bs k m) ≤ 3000)) ∧ d = .bl true
theorem ok_law_stray (T : TX K mg) (B : BX P w K mg base) : Cal P w K mg base CX0 22 "_law_stray" ["_law_act", "_law_arms", "_law_one", "_law_other"] (spP K (r_stray K)) := by
  refine cal_pure (f_law_stray T) (g_law_stray T) sc_law_stray bd_law_stray (fun H ds d ⟨_, _, _, _, _, e, _⟩ => by rw [e]; rfl) fun cdv A outer s H E hr => ⟨_,
    pss_cons (ps_set (i := 4) sc_law_stray.nd rfl (by first | exact Or.inl rfl | exact Or.inr rfl) pe_bl)
      (pss_cons (ps_try_only (tb := fun W => (tIfS (tTest (tOp rEq (tVar 0) (tC (.int 0)))) (tDrop (tCallS (spE K (r_two K fun r => dq (hiR r)) (b_diff K) (CP K)) (WE W) (tCons (tVar 1) (tCons (tVar 2) (tCons (tVar 3) tNil))))) (tIfS (tTest (tOp rEq (tVar 0) (tC (.int 1)))) (tDrop (tCallS (spE K (r_two K fun r => dq (loR r)) (b_diff K) (CP K)) (WE W) (tCons (tVar 1) (tCons (tVar 2) (tCons (tVar 3) tNil))))) (tIfS (tTest (tOp rEq (tVar 0) (tC (.int 2)))) (tDrop (tCallS (spE K (r_two K fun r => .bl (decide (loR r = 0))) (b_diff K) (CP K)) (WE W) (tCons (tVar 1) (tCons (tVar 2) (tCons (tVar 3) tNil))))) (tIfS (tTest (tOp rEq (tVar 0) (tC (.int 3)))) (tDrop (tCallS (spE K (fun _ _ _ => False) (b_diff K) (CP K)) (WE W) (tCons (tVar 1) (tCons (tVar 2) (tCons (tVar 3) tNil))))) (tDrop (tCallS (spE K (fun _ _ _ => False) (b_diff K) (CP K)) (WE W) (tCons (tVar 1) (tCons (tVar 2) (tCons (tVar 3) tNil)))))))))) (ts := fun _ _ _ => tAsg (tC (.bl true)) (gName 4)) rfl rfl ⟨rfl, by decide, .inl (g_BadPlace T)⟩ takes0
          (fun W pn xe tk _ => (pss_one (ps_if (pt_cmpR op_eq (pv 0) pe_int (nomark _)) (pss_one (ps_expr (pe_calS (ok_greatest_distance T B) (hr.mono (by decide)) rfl (fun σ => passAt tk σ) (pa_cons (pv 1) (pa_cons (pv 2) (pa_cons (pv 3) pa_nil)))))) (pss_one (ps_if (pt_cmpR op_eq (pv 0) pe_int (nomark _)) (pss_one (ps_expr (pe_calS (ok_least_distance T B) (hr.mono (by decide)) rfl (fun σ => passAt tk σ) (pa_cons (pv 1) (pa_cons (pv 2) (pa_cons (pv 3) pa_nil)))))) (pss_one (ps_if (pt_cmpR op_eq (pv 0) pe_int (nomark _)) (pss_one (ps_expr (pe_calS (ok_can_meet T B) (hr.mono (by decide)) rfl (fun σ => passAt tk σ) (pa_cons (pv 1) (pa_cons (pv 2) (pa_cons (pv 3) pa_nil)))))) (pss_one (ps_if (pt_cmpR op_eq (pv 0) pe_int (nomark _)) (pss_one (ps_expr (pe_calS (ok_farthest_pose T B) (hr.mono (by decide)) rfl (fun σ => passAt tk σ) (pa_cons (pv 1) (pa_cons (pv 2) (pa_cons (pv 3) pa_nil)))))) (pss_one (ps_expr (pe_calS (ok_nearest_pose T B) (hr.mono (by decide)) rfl (fun σ => passAt tk σ) (pa_cons (pv 1) (pa_cons (pv 2) (pa_cons (pv 3) pa_nil)))))))))))))))
          (fun a oe cls d pn _ _ => pss_one (ps_set (i := 4) sc_law_stray.nd rfl (by first | exact Or.inl rfl | exact Or.inr rfl) pe_bl)))
        (pss_one (ps_ret (pv 4)))), ?_⟩
  rintro H ds d ⟨act, bs, n, x, y, rfl, G, hb, rfl⟩
  have bad : ∀ H9, Same H H9 → b_diff K H9 [dA bs n, x, y] := fun H9 e9 => ⟨bs, n, x, y, rfl, G, hb.imp id fun ⟨q, k, m, h1, h2⟩ => ⟨q, k, m, h1.mono e9, h2⟩⟩
  refine sd_seq (sd_asg (R := Same) (Same.refl _) yd_bl fun H1 e1 => ?_)
  refine sd_seq fun s Z ty fz => ?_
  refine (show Sr K _ _ H1 (CP K) from (sr_if (yt_test (yd_eqI (yd_var (i := 0) rfl) yd_int)) (fun _ H2 e2 => sr_drop (ya_cons (yd_var (i := 1) rfl) (ya_cons (yd_var (i := 2) rfl) (ya_cons (yd_var (i := 3) rfl) ya_nil))) (throws_1 fun H9 e9 => bad H9 (e1.trans (e2.trans e9)))) fun _ H2 e2 => (sr_if (yt_test (yd_eqI (yd_var (i := 0) rfl) yd_int)) (fun _ H3 e3 => sr_drop (ya_cons (yd_var (i := 1) rfl) (ya_cons (yd_var (i := 2) rfl) (ya_cons (yd_var (i := 3) rfl) ya_nil))) (throws_1 fun H9 e9 => bad H9 (e1.trans (e2.trans (e3.trans e9))))) fun _ H3 e3 => (sr_if (yt_test (yd_eqI (yd_var (i := 0) rfl) yd_int)) (fun _ H4 e4 => sr_drop (ya_cons (yd_var (i := 1) rfl) (ya_cons (yd_var (i := 2) rfl) (ya_cons (yd_var (i := 3) rfl) ya_nil))) (throws_1 fun H9 e9 => bad H9 (e1.trans (e2.trans (e3.trans (e4.trans e9)))))) fun _ H4 e4 => (sr_if (yt_test (yd_eqI (yd_var (i := 0) rfl) yd_int)) (fun _ H5 e5 => sr_drop (ya_cons (yd_var (i := 1) rfl) (ya_cons (yd_var (i := 2) rfl) (ya_cons (yd_var (i := 3) rfl) ya_nil))) (throws_1 fun H9 e9 => bad H9 (e1.trans (e2.trans (e3.trans (e4.trans (e5.trans e9))))))) fun _ H5 e5 => sr_drop (ya_cons (yd_var (i := 1) rfl) (ya_cons (yd_var (i := 2) rfl) (ya_cons (yd_var (i := 3) rfl) ya_nil))) (throws_1 fun H9 e9 => bad H9 (e1.trans (e2.trans (e3.trans (e4.trans (e5.trans e9))))))))))) _ s Z ty fun dd H2 e2 => ⟨true, B.pp, fun _ a ha => ?_, fun q => by cases q⟩
  refine (sd_asg (i := 4) (d := .bl true) (R := Same) (Same.refl _) yd_bl fun H3 e3 => ?_) s Z (ty.mono e2) fz
  exact sd_ret (R := Same) (Same.refl _) (yd_var rfl) fun H4 e4 => ⟨rfl, e1.trans (e2.trans (e3.trans e4))⟩
end K19
set_option maxHeartbeats 4000000
/-! Readings that change the hand: what comes, and the heap behind it. -/
namespace K19
open PySem PySem.Spec PyProof.Rows L2
theorem Kp.refl {H : Hp} : Kp H H := fun _ _ e _ => e
theorem Kp.trans {H H' H'' : Hp} (x : Kp H H') (y : Kp H' H'') : Kp H H'' := fun a o e s => y a o (x a o e s) s
theorem Kp.of {H H' : Hp} (x : Same H H') : Kp H H' := fun a o e _ => x a o e
theorem Kp.mu {a : Addr} {H H' : Hp} {l : List V} (m : Mu a H H') (h : H a = some (.lst l)) : Kp H H' := fun x o e s => m x o (fun z => by rw [z, h] at e; cases e; cases s) e
/-! the hand: a list of a list of ints and two ints -/
def HandAt (a : Addr) (H : Hp) (g : Addr) (cs : List Int) (m z : Int) : Prop := H a = some (.lst [.ref g, .int m, .int z]) ∧ H g = some (.lst (cs.map V.int)) ∧ g ≠ a
def HandOk (a : Addr) (H : Hp) : Prop := ∃ g cs m z, HandAt a H g cs m z
def InH (a : Addr) (H : Hp) (x : Addr) : Prop := x = a ∨ ∃ g r, H a = some (.lst (.ref g :: r)) ∧ x = g
/-- all but the hand's own lists goes on -/
def Hr (a : Addr) (H H' : Hp) : Prop := ∀ x o, H x = some o → ¬ InH a H x → H' x = some o ∧ ¬ InH a H' x
theorem HandAt.in_ {a : Addr} {H : Hp} {g : Addr} {cs : List Int} {m z : Int} (h : HandAt a H g cs m z) {x : Addr} : InH a H x ↔ x = a ∨ x = g := by
  unfold InH
  rw [h.1]
  constructor
  · rintro (e | ⟨g2, r, e, rfl⟩)
    · exact .inl e
    · cases e; exact .inr rfl
  · rintro (e | rfl)
    · exact .inl e
    · exact .inr ⟨_, _, rfl, rfl⟩
theorem HandOk.same {a : Addr} {H H' : Hp} (h : HandOk a H) (e : Same H H') : HandOk a H' := by
  obtain ⟨g, cs, m, z, h1, h2, h3⟩ := h
  exact ⟨g, cs, m, z, e _ _ h1, e _ _ h2, h3⟩
theorem Hr.refl {a : Addr} {H : Hp} : Hr a H H := fun x o e n => ⟨e, n⟩
theorem Hr.trans {a : Addr} {H H' H'' : Hp} (x : Hr a H H') (y : Hr a H' H'') : Hr a H H'' := fun b o e n => let ⟨p, q⟩ := x b o e n; y b o p q
theorem Hr.same {a : Addr} {H H' : Hp} (h : HandOk a H) (e : Same H H') : Hr a H H' := fun x o q n => ⟨e _ _ q, by
  obtain ⟨g, cs, m, z, hh⟩ := h
  have h2 : HandAt a H' g cs m z := ⟨e _ _ hh.1, e _ _ hh.2.1, hh.2.2⟩
  rw [hh.in_] at n
  rw [h2.in_]
  exact n⟩
theorem Hr.kp {a : Addr} {H H' : Hp} (h : HandOk a H) (e : Hr a H H') : Kp H H' := fun x o q s => by
  obtain ⟨g, cs, m, z, hh⟩ := h
  refine (e x o q fun n => ?_).1
  rw [hh.in_] at n
  rcases n with rfl | rfl
  · rw [hh.1] at q; cases q; cases s
  · rw [hh.2.1] at q; cases q; cases s
/-- a list of one's own, changed -/
theorem Hr.mu {a p : Addr} {H H' : Hp} (h : HandOk a H) (m : Mu p H H') (np : ¬ InH a H p) (e : ∃ o, H' p = some o) : HandOk a H' ∧ ∀ x o, x ≠ p → H x = some o → ¬ InH a H x → H' x = some o ∧ ¬ InH a H' x := by
  obtain ⟨g, cs, mm, z, hh⟩ := h
  have n1 : a ≠ p := fun q => np (hh.in_.mpr (.inl q.symm))
  have n2 : g ≠ p := fun q => np (hh.in_.mpr (.inr q.symm))
  have h2 : HandAt a H' g cs mm z := ⟨m _ _ n1 hh.1, m _ _ n2 hh.2.1, hh.2.2⟩
  refine ⟨⟨g, cs, mm, z, h2⟩, fun x o nx q n => ⟨m _ _ nx q, ?_⟩⟩
  rw [hh.in_] at n
  rw [h2.in_]
  exact n
theorem InH.mu {a p : Addr} {H H' : Hp} (h : HandOk a H) (m : Mu p H H') (np : ¬ InH a H p) : ¬ InH a H' p := by
  obtain ⟨g, cs, mm, z, hh⟩ := h
  have n1 : a ≠ p := fun q => np (hh.in_.mpr (.inl q.symm))
  have n2 : g ≠ p := fun q => np (hh.in_.mpr (.inr q.symm))
  have h2 : HandAt a H' g cs mm z := ⟨m _ _ n1 hh.1, m _ _ n2 hh.2.1, hh.2.2⟩
  rw [h2.in_]
  rintro (q | q)
  · exact n1 q.symm
  · exact n2 q.symm
theorem InH.new {a p : Addr} {H : Hp} (h : HandOk a H) (hp : H p = none) : ¬ InH a H p := by
  obtain ⟨g, cs, mm, z, hh⟩ := h
  rw [hh.in_]
  rintro (q | q)
  · rw [q, hh.1] at hp; cases hp
  · rw [q, hh.2.1] at hp; cases hp
/-! readings -/
def Zd (K : PySem.W.Frag) (te : TE) (g : Gm) (H : Hp) (q : D → Hp → Prop) : Prop := ∀ s, Ty K g s H → ∀ Q : VK, (∀ v d H', Kp H H' → Rp K H' v d → q d H' → Q v H') → te s H Q
def Za (K : PySem.W.Frag) (ta : TA) (g : Gm) (H : Hp) (q : List D → Hp → Prop) : Prop := ∀ s, Ty K g s H → ∀ Q : List V → Hp → Prop, (∀ vs ds H', Kp H H' → RpL K H' vs ds → q ds H' → Q vs H') → ta s H Q
def Zt (K : PySem.W.Frag) (tt : TT) (g : Gm) (H : Hp) (q : Bool → Hp → Prop) : Prop := ∀ s, Ty K g s H → ∀ Q : Bool → Hp → Prop, (∀ b H', Kp H H' → q b H' → Q b H') → tt s H Q
/-- a new list: its address, what stands in it -/
def Zl (K : PySem.W.Frag) (te : TE) (g : Gm) (H : Hp) (q : Addr → List D → Hp → Prop) : Prop := ∀ s, Ty K g s H → ∀ Q : VK, (∀ p us ds H', Kp H H' → H' p = some (.lst us) → RpL K H' us ds → q p ds H' → Q (.ref p) H') → te s H Q
section
variable {K : PySem.W.Frag} {g : Gm} {H : Hp} {d : D} {te ta tb : TE} {tt : TT} {t u : TS} {q : D → Hp → Prop} {ds : List D} {E : En} {i : Nat}
theorem Ty.kp {s : L2.St} {H' : Hp} (e : Kp H H') (t : Ty K g s H) : Ty K g s H' := Ty.mono (R := Kp) e t
theorem zd_of (h : Yd Same K te g H d) (hq : ∀ H', Same H H' → q d H') : Zd K te g H q := fun s ty Q k => h s H (Same.refl _) ty Q fun v H1 e r => k v d H1 (Kp.of e) r (hq H1 e)
theorem zd_imp {q' : D → Hp → Prop} (h : Zd K te g H q') (hq : ∀ d H', q' d H' → q d H') : Zd K te g H q := fun s ty Q k => h s ty Q fun v d H1 e r z => k v d H1 e r (hq d H1 z)
theorem za_nil {q : List D → Hp → Prop} (h : q [] H) : Za K tNil g H q := fun s ty Q k => k [] [] H Kp.refl .nil h
theorem za_cons {tr : TA} {q : List D → Hp → Prop} (h : Zd K te g H fun d H1 => Za K tr g H1 fun ds H2 => q (d :: ds) H2) : Za K (tCons te tr) g H q := fun s ty Q k =>
  h s ty _ fun v d H1 e1 r z => z s (ty.kp e1) _ fun vs ds H2 e2 rs z2 => k _ _ H2 (e1.trans e2) (.cons (r.mono (R := Kp) e2) rs) z2
theorem za_of {ta : TA} {q : List D → Hp → Prop} (h : Ya Same K ta g H ds) (hq : ∀ H', Same H H' → q ds H') : Za K ta g H q := fun s ty Q k => h s H (Same.refl _) ty Q fun v H1 e r => k v ds H1 (Kp.of e) r (hq H1 e)
theorem zd_op {r : R2} (h : Zd K ta g H fun d1 H1 => Zd K tb g H1 fun d2 H2 => ∀ v1 v2, Rp K H2 v1 d1 → Rp K H2 v2 d2 → ∀ Q : VK, (∀ v d H3, Kp H2 H3 → Rp K H3 v d → q d H3 → Q v H3) → r v1 v2 H2 Q) : Zd K (tOp r ta tb) g H q := fun s ty Q k =>
  h s ty _ fun v1 d1 H1 e1 r1 z => z s (ty.kp e1) _ fun v2 d2 H2 e2 r2 z2 => z2 v1 v2 (r1.mono (R := Kp) e2) r2 Q fun v d H3 e3 r3 z3 => k v d H3 (e1.trans (e2.trans e3)) r3 z3
theorem zd_I {C : Int → Int → Prop} {f : Int → Int → Int} (h : Zd K ta g H fun d1 H1 => ∃ i, d1 = .int i ∧ Zd K tb g H1 fun d2 H2 => ∃ j, d2 = .int j ∧ C i j ∧ q (.int (f i j)) H2) : Zd K (tOp (rI C fun i j => .int (f i j)) ta tb) g H q := fun s ty Q k =>
  h s ty _ fun v1 d1 H1 e1 r1 ⟨i, ei, z⟩ => z s (ty.kp e1) _ fun v2 d2 H2 e2 r2 ⟨j, ej, c, z2⟩ => by
    subst ei ej
    cases r1
    cases r2
    exact ⟨i, j, rfl, rfl, c, k _ _ H2 (e1.trans e2) .int z2⟩
theorem zd_I0 {f : Int → Int → Int} (h : Zd K ta g H fun d1 H1 => ∃ i, d1 = .int i ∧ Zd K tb g H1 fun d2 H2 => ∃ j, d2 = .int j ∧ q (.int (f i j)) H2) : Zd K (tOp (rI0 fun i j => .int (f i j)) ta tb) g H q := fun s ty Q k =>
  h s ty _ fun v1 d1 H1 e1 r1 ⟨i, ei, z⟩ => z s (ty.kp e1) _ fun v2 d2 H2 e2 r2 ⟨j, ej, z2⟩ => by
    subst ei ej
    cases r1
    cases r2
    exact ⟨i, j, rfl, rfl, k _ _ H2 (e1.trans e2) .int z2⟩
theorem zd_eqI (h : Zd K ta g H fun d1 H1 => ∃ i, d1 = .int i ∧ Zd K tb g H1 fun d2 H2 => ∃ j, d2 = .int j ∧ q (.bl (decide (i = j))) H2) : Zd K (tOp rEq ta tb) g H q := fun s ty Q k =>
  h s ty _ fun v1 d1 H1 e1 r1 ⟨i, ei, z⟩ => z s (ty.kp e1) _ fun v2 d2 H2 e2 r2 ⟨j, ej, z2⟩ => by
    subst ei ej
    cases r1
    cases r2
    refine ⟨rfl, ?_⟩
    have w : decide (V.int i = V.int j) = decide (i = j) := by simp
    rw [w]
    exact k _ _ H2 (e1.trans e2) .bl z2
theorem zd_tup {ta : TA} (h : Za K ta g H fun ds H1 => ds.length ≤ 100000 ∧ ∀ H2, Same H1 H2 → q (.tup ds) H2) : Zd K (tTup ta) g H q := fun s ty Q k =>
  h s ty _ fun vs ds H1 e1 rs ⟨hl, z⟩ => ⟨by rw [rs.length]; exact sz_ok hl, fun p hp => k _ _ _ (e1.trans (Kp.of (Same.new hp))) (.tup (SqT.of upd_same) (rs.mono (Same.new hp))) (z _ (Same.new hp))⟩
theorem zd_call {rel : Hp → List D → D → Prop} {W : XK} {ta : TA} (h : Za K ta g H fun ds H1 => ∃ d, rel H1 ds d ∧ ∀ H2, Same H1 H2 → q d H2) : Zd K (tCall (spP K rel) [] W ta) g H q := fun s ty Q k =>
  h s ty _ fun vs ds H1 e1 rs ⟨d, hr, z⟩ => ⟨ds, d, by rw [List.append_nil]; exact rs, hr, fun v H2 e2 rv => k v d H2 (e1.trans (Kp.of e2)) rv (z H2 e2)⟩
/-- a def that changes the hand -/
def spH (K : PySem.W.Frag) (rel : Hp → List D → (D → Hp → Prop) → Prop) : Sp := fun vs H Q _ => ∃ ds q, RpL K H vs ds ∧ rel H ds q ∧ ∀ v d H', Kp H H' → Rp K H' v d → q d H' → Q v H'
theorem zd_callH {rel : Hp → List D → (D → Hp → Prop) → Prop} {W : XK} {ta : TA} (h : Za K ta g H fun ds H1 => rel H1 ds q) : Zd K (tCall (spH K rel) [] W ta) g H q := fun s ty Q k =>
  h s ty _ fun vs ds H1 e1 rs hr => ⟨ds, q, by rw [List.append_nil]; exact rs, hr, fun v d H2 e2 rv z => k v d H2 (e1.trans e2) rv z⟩
theorem zd_if (h : Zt K tt g H fun b H1 => if b = true then Zd K ta g H1 q else Zd K tb g H1 q) : Zd K (tIf tt ta tb) g H q := fun s ty Q k =>
  h s ty _ fun b H1 e1 z => by
    cases b with
    | true => exact z s (ty.kp e1) Q fun v d H2 e2 => k v d H2 (e1.trans e2)
    | false => exact z s (ty.kp e1) Q fun v d H2 e2 => k v d H2 (e1.trans e2)
theorem zt_of {b : Bool} {q : Bool → Hp → Prop} (h : Yt Same K tt g H b) (hq : ∀ H', Same H H' → q b H') : Zt K tt g H q := fun s ty Q k => h s H (Same.refl _) ty Q fun H1 e => k b H1 (Kp.of e) (hq H1 e)
theorem zt_test {q : Bool → Hp → Prop} (h : Zd K te g H fun d H1 => ∃ b, d = .bl b ∧ q b H1) : Zt K (tTest te) g H q := fun s ty Q k => h s ty _ fun v d H1 e r ⟨b, eb, z⟩ => by
  subst eb
  cases r
  exact ⟨b, rfl, k b H1 e z⟩
theorem zt_B {q : Bool → Hp → Prop} (h : Zd K te g H fun d H1 => ∃ b, d = .bl b ∧ q b H1) : Zt K (tB te) g H q := fun s ty Q k => h s ty _ fun v d H1 e r ⟨b, eb, z⟩ => by
  subst eb
  cases r
  exact ⟨b, rfl, k b H1 e z⟩
theorem zt_not {q : Bool → Hp → Prop} (h : Zt K tt g H fun b H1 => q (!b) H1) : Zt K (tNot tt) g H q := fun s ty Q k => h s ty _ fun b H1 e z => k (!b) H1 e z
/-! statements -/
theorem sd_asgZ (h : Zd K te g H fun d H1 => E.nx (g.set i (some d)) H1) : Sd K (tAsg te (gName i)) g H E := fun s Z ty fz => h s ty _ fun v d H1 e r z => fz.nx _ _ _ ((ty.kp e).set i r) z
theorem sd_asgZl (h : Zl K te g H fun p ds H1 => ∀ us, H1 p = some (.lst us) → RpL K H1 us ds → E.nx (g.set i (some (.ref p))) H1) : Sd K (tAsg te (gName i)) g H E := fun s Z ty fz => h s ty _ fun p us ds H1 e hl hv z => fz.nx _ _ _ ((ty.kp e).set i .ref) (z us hl hv)
theorem sd_retZ (h : Zd K te g H fun d H1 => E.rt d H1) : Sd K (tRet te) g H E := fun s Z ty fz => h s ty _ fun v d H1 e r z => fz.rt d v H1 r z
theorem sd_ifZ (h : Zt K tt g H fun b H1 => if b = true then Sd K t g H1 E else Sd K u g H1 E) : Sd K (tIfS tt t u) g H E := fun s Z ty fz => h s ty _ fun b H1 e z => by
  cases b with
  | true => exact z s Z (ty.kp e) fz
  | false => exact z s Z (ty.kp e) fz
/-- xs[k] = e, e whatever -/
theorem sd_setZ {to ti : TE} (h : Zd K te g H fun d H1 => ∃ a k j vs ds, Yd Same K to g H1 (.ref a) ∧ Yd Same K ti g H1 (.int k) ∧ H1 a = some (.lst vs) ∧ RpL K H1 vs ds ∧ ixN ds.length k = some j ∧
    ∀ H' us, Mu a H1 H' → H' a = some (.lst us) → RpL K H' us (ds.set j d) → E.nx g H') : Sd K (tAsg te (gSub to ti rSetL)) g H E := fun s Z ty fz =>
  h s ty _ fun v d H1 e1 r ⟨a, k, j, vs, ds, hf, hi, hl, hv, hk, z⟩ => hf s H1 (Same.refl _) (ty.kp e1) _ fun o H2 e2 ro => hi s H2 e2 ((ty.kp e1).mono e2) _ fun iv H3 e3 ri => by
    cases ro
    cases ri
    have e := e2.trans e3
    have hl3 := e _ _ hl
    have m : Kp H3 (upd H3 a (.lst (vs.set j v))) := Kp.upd hl3
    refine ⟨a, vs, k, j, rfl, rfl, hl3, by rw [hv.length]; exact hk, ?_⟩
    exact fz.nx _ _ _ (((ty.kp e1).mono e).kp m) (z _ _ ((Mu.of e).trans Mu.upd) upd_same (((hv.mono e).set j (r.mono e)).mono m))
/-- a list's new value put into a list -/
theorem zd_ofL (h : Yl Same K te g H ds) (hq : ∀ p us H', H p = none → Same H H' → H' p = some (.lst us) → RpL K H' us ds → q (.ref p) H') : Zd K te g H q := fun s ty Q k =>
  h s H (Same.refl _) ty _ fun p us H1 hp e hl hv => k _ _ H1 (Kp.of e) .ref (hq p us H1 hp e hl hv)
theorem sd_appZ {to : TE} {a : Addr} {w : List V} (hf : Yd Same K to g H (.ref a)) (hw : H a = some (.lst w)) (h : ∀ H0, Same H H0 → Zd K te g H0 fun x H1 => ∃ vs ds, H1 a = some (.lst vs) ∧ RpL K H1 vs ds ∧ ds.length < 100000 ∧
    ∀ H' us, Mu a H1 H' → H' a = some (.lst us) → RpL K H' us (ds ++ [x]) → E.nx g H') : Sd K (tDrop (tBM K "list" rAppend to (tCons te tNil))) g H E := fun s Z ty fz =>
  hf s H (Same.refl _) ty _ fun o H1 e1 ro => by
    cases ro
    refine ⟨.inl ⟨rfl, _, SqL.of (e1 _ _ hw)⟩, h H1 e1 s (ty.mono e1) _ fun v x H2 e2 rv ⟨vs, ds, hl, hv, hz, z⟩ => ?_⟩
    have m : Kp H2 (upd H2 a (.lst (vs ++ [v]))) := Kp.upd hl
    refine ⟨a, vs, v, rfl, rfl, hl, Nat.lt_of_lt_of_le (by rw [hv.length]; exact hz) (by decide), ?_⟩
    exact fz.nx _ _ _ (((ty.mono e1).kp e2).kp m) (z _ _ Mu.upd upd_same ((hv.append (.cons rv .nil)).mono m))
end
/-! a comprehension that changes the hand -/
def Yk (K : PySem.W.Frag) (wi : TI) (g : Gm) (H : Hp) (n : Nat) (item : Nat → D) : Prop := ∀ s H1, Same H H1 → Ty K g s H1 → ∀ Q : It → Hp → Prop, (∀ J H2, Same H1 H2 → DIt Kp K J n item H2 → Q J H2) → wi s H1 Q
section
variable {K : PySem.W.Frag} {g : Gm} {H : Hp} {te : TE} {ta : TA} {wi : TI} {tg : TG} {n : Nat} {item : Nat → D} {f : Nat → Gm → Gm} {vs : List Nat} {tbd : TS} {E : En}
theorem yk_range1 {m : Int} (h : Ya Same K ta g H [.int m]) (hm : -100000 ≤ m ∧ m ≤ 100000) : Yk K (iRng1 ta) g H m.toNat (fun i => .int (i : Int)) := fun s H1 e ty Q q =>
  h s H1 e ty _ fun us H2 e2 rs => by
    cases rs with
    | cons r1 l =>
      cases l
      cases r1
      refine ⟨m, rfl, by omega, by omega, q _ H2 e2 ⟨fun i H3 e3 hi => hi, fun H3 e3 => Nat.le_refl _, fun i H3 v H4 e3 hi hy => ?_⟩⟩
      obtain ⟨rfl, hy⟩ := hy
      refine ⟨Same.refl _, ?_⟩
      rw [hy]
      have e0 : (0 : Int) + (i : Int) = (i : Int) := Int.zero_add _
      rw [e0]
      exact .int
/-- behind i turns the list at p holds ds -/
theorem zl_lc {q : Addr → List D → Hp → Prop} (h : Yk K wi g H n item) (ht : ∀ i, i < n → Tg K tg vs (item i) (f i)) (hn : n ≤ 100000) (P : Addr → Nat → List D → Hp → Prop) (h0 : ∀ H1 p, Same H H1 → H1 p = none → P p 0 [] (upd H1 p (.lst [])))
    (hs : ∀ p i ds H0 us H', i < n → P p i ds H0 → H0 p = some (.lst us) → Same H0 H' → Zd K te (f i (wipeG g vs)) H' fun d H1 => H1 p = some (.lst us) ∧ ∀ H2, Mu p H1 H2 → (∃ l, H2 p = some (.lst l)) → P p (i + 1) (ds ++ [d]) H2)
    (hd : ∀ p ds H', P p n ds H' → q p ds H') : Zl K (tLc wi tg tYes te vs) g H q := fun s ty Q k =>
  h s H (Same.refl _) ty _ fun J H2 e2 it => fun Dd hD => by
    have m0 : Kp H2 (upd H2 Dd (.lst [])) := Kp.of (Same.new hD)
    refine ⟨fun i m H' => m = n - i ∧ i ≤ n ∧ ∃ acc ds, H' Dd = some (.lst acc) ∧ acc.length = i ∧ RpL K H' acc ds ∧ Kp H2 H' ∧ P Dd i ds H', ⟨n, by simp, Nat.zero_le _, [], [], upd_same, rfl, .nil, m0, h0 H2 Dd e2 hD⟩, ?_⟩
    rintro i m H' ⟨rfl, hi, acc, ds, ha, hl, hr, e3, p⟩
    by_cases hlt : i < n
    · refine .inr ⟨it.go i H' e3 hlt, fun H4 => i + 1 ≤ n ∧ ∃ acc ds, H4 Dd = some (.lst acc) ∧ acc.length = i + 1 ∧ RpL K H4 acc ds ∧ Kp H2 H4 ∧ P Dd (i + 1) ds H4, fun H4 q4 => ⟨n - (i + 1), by omega, rfl, q4⟩, fun x H4 hy => ?_⟩
      obtain ⟨e4, rx⟩ := it.yld i H' x H4 e3 hlt hy
      have e24 : Kp H H4 := (Kp.of e2).trans (e3.trans (Kp.of e4))
      refine ht i hlt x (L2.wipe s vs) (wipeG g vs) H4 (fun s' H' => L2.wipe s' vs = L2.wipe s vs ∧ _) ((ty.kp e24).wipe vs) rx fun s2 ty2 hw => ⟨wipe_back hw, ?_⟩
      show te s2 H4 _
      refine hs Dd i ds H' acc H4 hlt p ha e4 s2 ty2 _ fun v d H5 e5 rv ⟨ha5, z⟩ => ?_
      have m : Kp H5 (upd H5 Dd (.lst (acc ++ [v]))) := Kp.upd ha5
      refine ⟨acc, ha5, Nat.lt_of_lt_of_le (by omega : acc.length < 100000) (by decide), hlt, acc ++ [v], ds ++ [d], upd_same, by rw [List.length_append, hl]; rfl, ?_, e3.trans ((Kp.of e4).trans (e5.trans m)), z _ Mu.upd ⟨_, upd_same⟩⟩
      exact (((hr.mono e4).mono (R := Kp) e5).append (.cons rv .nil)).mono (R := Kp) m
    · have : i = n := by omega
      subst this
      exact .inl ⟨it.stop H' e3, k Dd acc ds H' ((Kp.of e2).trans e3) ha hr (hd Dd ds H' p)⟩
/-- tuple(a new list) -/
theorem zd_tupOf {q : D → Hp → Prop} (h : Zl K te g H fun p ds H1 => ∀ H2, Same H1 H2 → q (.tup ds) H2) : Zd K (tCB (rTupOf K) (tCons te tNil)) g H q := fun s ty Q k =>
  h s ty _ fun p us ds H1 e hl hv z => ⟨p, us, rfl, .inl ⟨SqL.of hl, fun l hn => k _ _ _ (e.trans (Kp.of (Same.new hn))) (.tup (SqT.of upd_same) (hv.mono (Same.new hn))) (z _ (Same.new hn))⟩⟩
/-- over range(a, b, c) -/
theorem sd_forR3 {lo hi c : Int} {m j : Nat} (h : Ya Same K ta g H [.int lo, .int hi, .int c]) (hc : RgC lo hi c m) (P : Nat → Gm → Hp → Prop) (h0 : ∀ H1, Same H H1 → P 0 g H1)
    (hs : ∀ i g' H', i < m → P i g' H' → Sd K tbd (g'.set j (some (.int (lo + (i : Int) * c)))) H' { E with nx := P (i + 1), ct := P (i + 1), bk := E.nx })
    (hd : ∀ g' H', P m g' H' → E.nx g' H') : Sd K (tFor (iRng3 ta) (gName j) tbd) g H E := fun s Z ty fz =>
  h s H (Same.refl _) ty _ fun vs H1 e1 rs => by
    cases rs with
    | cons r1 l =>
      cases l with
      | cons r2 l =>
        cases l with
        | cons r3 l =>
          cases l
          cases r1
          cases r2
          cases r3
          refine ⟨lo, hi, c, m, rfl, hc, for_rangeC (fun i s' H' => ∃ g', Ty K g' s' H' ∧ P i g' H') ⟨g, ty.mono e1, h0 H1 e1⟩ ?_ ?_⟩
          · rintro i s' H' hi ⟨g', ty', p⟩
            exact hs i g' H' hi p _ _ (ty'.set j .int) ⟨fun g2 s2 H2 t2 q => ⟨g2, t2, q⟩, fz.rt, fz.nx, fun g2 s2 H2 t2 q => ⟨g2, t2, q⟩⟩
          · rintro s' H' ⟨g', ty', p⟩
            exact fz.nx _ _ _ ty' (hd g' H' p)
end
/-! a def that changes the hand -/
section
variable {P : Program} {w : World} {K : PySem.W.Frag} {mg : Str → Option Value} {base : Heap}
abbrev enH (q : D → Hp → Prop) (H : Hp) : En := { nx := fun _ H' => Kp H H' ∧ q .non H', rt := fun d H' => Kp H H' ∧ q d H' }
theorem cal_hand {x : Str} {st : Stmt} {N ps : List Str} {k : Nat} {rel : Hp → List D → (D → Hp → Prop) → Prop} (F : ∃ fd, FunD K x x (defArgs st) (defBody st) (defScope st) [] [] (He.ga K x) fd) (gl : mg x = some (.ref (He.ga K x))) (S : FnScope N ps (defScope st)) (hb : Bnd x x st ps) (len : ∀ H ds q, rel H ds q → ds.length = ps.length)
    (body : ∀ (cdv : Value) (A : Around) (outer : List Env) (s : Shared) (H : Hp) (E : XK), Room k (A.deeper (envOfC x (defScope st) s.heap.objs.size (He.ga K x) cdv)) →
      ∃ t, PSs (cxOf CX0 P w K mg base N x (defScope st) (He.ga K x) cdv A outer s H E).nox (defBody st) t ∧ ∀ H ds q, rel H ds q → Sd K t (gm0 N ds) H (enH q H)) : Cal P w K mg base CX0 (k + 1) x ps (spH K rel) := by
  obtain ⟨fd, F⟩ := F
  refine ⟨⟨fd, F.ok S (fun vs H Q E ⟨ds, d, r, h, _⟩ => by rw [r.length]; exact len H ds d h) fun cdv A outer s H vs Q E hr hsp => ?_, F.bindsN hb⟩, gl, F.kp⟩
  obtain ⟨ds, q, r, h, hQ⟩ := hsp
  obtain ⟨t, ht, hb⟩ := body cdv A outer s H E hr
  exact ⟨t, ht.nox, hb H ds q h _ _ (Ty.start r) ⟨fun g s H' _ z => hQ .non .non H' z.1 .non z.2, fun d v H' rv z => hQ v d H' z.1 rv z.2, fun _ _ _ _ q => q.elim, fun _ _ _ _ q => q.elim⟩⟩
end
end K19
set_option maxHeartbeats 4000000
set_option exponentiation.threshold 20000
namespace K19
open PySem PySem.Spec PyProof.Rows L2
variable {P : Program} {w : World} {K : PySem.W.Frag} {mg : Str → Option Value} {base : Heap}
theorem sc_law_take : FnScope ["_law_hand_here", "_law_many", "_law_cell", "_law_once", "_law_twice"] ["_law_hand_here", "_law_many"] (defScope s_law_take) := ⟨rfl, rfl, rfl, by decide +kernel, rfl, by decide +kernel, by decide +kernel⟩
theorem bd_law_take : Bnd "_law_take" "_law_take" s_law_take ["_law_hand_here", "_law_many"] := fun _ _ _ _ _ _ us hl => match us, hl with | [_, _], _ => rfl
theorem HandAt.ok {a : Addr} {H : Hp} {g : Addr} {cs : List Int} {m z : Int} (h : HandAt a H g cs m z) : HandOk a H := ⟨g, cs, m, z, h⟩
theorem HandAt.same {a : Addr} {H H' : Hp} {g : Addr} {cs : List Int} {m z : Int} (h : HandAt a H g cs m z) (e : Same H H') : HandAt a H' g cs m z := ⟨e _ _ h.1, e _ _ h.2.1, h.2.2⟩
theorem HandAt.setA {a : Addr} {H H' : Hp} {g : Addr} {cs : List Int} {m z m' z' : Int} {us : List V} (h : HandAt a H g cs m z) (mu : Mu a H H') (hl : H' a = some (.lst us)) (hv : RpL K H' us [.ref g, .int m', .int z']) : HandAt a H' g cs m' z' ∧ Hr a H H' := by
  have e : us = [.ref g, .int m', .int z'] := by
    cases hv with
    | cons r1 l =>
      cases l with
      | cons r2 l =>
        cases l with
        | cons r3 l =>
          cases l
          cases r1
          cases r2
          cases r3
          rfl
  subst e
  have h2 : HandAt a H' g cs m' z' := ⟨hl, mu _ _ h.2.2 h.2.1, h.2.2⟩
  refine ⟨h2, fun x o q n => ?_⟩
  rw [h.in_] at n
  rw [h2.in_]
  exact ⟨mu _ _ (fun w => n (.inl w)) q, n⟩
theorem HandAt.setG {a : Addr} {H H' : Hp} {g : Addr} {cs cs' : List Int} {m z : Int} {us : List V} (h : HandAt a H g cs m z) (mu : Mu g H H') (hl : H' g = some (.lst us)) (hv : RpL K H' us (cs'.map D.int)) : HandAt a H' g cs' m z ∧ Hr a H H' := by
  have e := RpL.ints hv
  subst e
  have h2 : HandAt a H' g cs' m z := ⟨mu _ _ (Ne.symm h.2.2) h.1, hl, h.2.2⟩
  refine ⟨h2, fun x o q n => ?_⟩
  rw [h.in_] at n
  rw [h2.in_]
  exact ⟨mu _ _ (fun w => n (.inr w)) q, n⟩
/-- another list put in the place of its cells -/
theorem HandAt.move {a : Addr} {H H1 H' : Hp} {g p : Addr} {cs cs' : List Int} {m z : Int} {us us' : List V} (h : HandAt a H g cs m z) (hp : H p = none) (e : Same H H1) (hl : H1 p = some (.lst us)) (hv : RpL K H1 us (cs'.map D.int)) (mu : Mu a H1 H') (hl' : H' a = some (.lst us')) (hv' : RpL K H' us' [.ref p, .int m, .int z]) : HandAt a H' p cs' m z ∧ Hr a H H' := by
  have e1 := RpL.ints hv
  subst e1
  have e2 : us' = [.ref p, .int m, .int z] := by
    cases hv' with
    | cons r1 l =>
      cases l with
      | cons r2 l =>
        cases l with
        | cons r3 l =>
          cases l
          cases r1
          cases r2
          cases r3
          rfl
  subst e2
  have pa : p ≠ a := fun w => by rw [w, h.1] at hp; cases hp
  have h2 : HandAt a H' p cs' m z := ⟨hl', mu _ _ pa hl, pa⟩
  refine ⟨h2, fun x o q n => ?_⟩
  rw [h.in_] at n
  rw [h2.in_]
  exact ⟨mu _ _ (fun w => n (.inl w)) (e _ _ q), fun w => w.elim (fun w => n (.inl w)) fun w => by rw [w, hp] at q; cases q⟩
section
variable {R : Hp → Hp → Prop} [Rl R] {g : Gm} {H : Hp} {te : TE} {ds : List D} {a : Addr} {vs : List V}
theorem yt_truL (h : Yd R K te g H (.ref a)) (hl : ∀ H1, R H H1 → H1 a = some (.lst vs)) : Yt R K (tTru K te) g H (!vs.isEmpty) := fun s H1 e t Q q => h s H1 e t _ fun v H2 e2 rv => by
  cases rv
  exact ⟨_, .inl ⟨vs, SqL.of (hl H2 (Rl.trans e e2)), rfl⟩, q H2 e2⟩
/-- xs[1:] -/
theorem yl_tail (h : Yd Same K te g H (.ref a)) (hl : H a = some (.lst vs)) (hv : RpL K H vs ds) (hn : vs ≠ []) : Yl Same K (tSl (rSlL K) te (tPart (tC (.int 1))) tNoPart) g H (ds.drop 1) := fun s H1 e t Q q => h s H1 e t _ fun v H2 e2 rv => by
  cases rv
  have e12 := e.trans e2
  refine ⟨1, rfl, a, vs, rfl, SqL.of (e12 _ _ hl), fun p hp => ?_⟩
  have c : cutV vs (some 1) none = vs.drop 1 := by
    cases vs with
    | nil => exact absurd rfl hn
    | cons x xs =>
      unfold cutV HT.sIx
      simp
  rw [c]
  have dr : RpL K H2 (vs.drop 1) (ds.drop 1) := by
    have := hv.mono e12
    cases this with
    | nil => exact .nil
    | cons r l => exact l
  exact q p _ _ (e2.free hp) (e2.trans (Same.new hp)) upd_same (dr.mono (Same.new hp))
end
theorem div_ok {j : Int} (h : 0 < j) (h2 : j < 2 ^ 60) (i : Int) : CDivW i j := ⟨h, PySem.Flt.log2_lt_of (by decide) (Nat.lt_of_lt_of_le (by omega : j.natAbs < 2 ^ 60) (Nat.pow_le_pow_right (by decide) (by decide)))⟩
def r_takeH : Hp → List D → (D → Hp → Prop) → Prop := fun H ds q => ∃ a many, ds = [.ref a, .int many] ∧ HandOk a H ∧ 0 < many ∧ many < 2 ^ 60 ∧ ∀ i H', 0 ≤ i → i < many → Hr a H H' → HandOk a H' → q (.int i) H'
theorem ok_law_take (T : TX K mg) : Cal P w K mg base CX0 1 "_law_take" ["_law_hand_here", "_law_many"] (spH K r_takeH) := by
  refine cal_hand (f_law_take T) (g_law_take T) sc_law_take bd_law_take (fun H ds d ⟨_, _, e, _⟩ => by rw [e]; rfl) fun cdv A outer s H E hr => ⟨_, (pss_cons (ps_while PassesOwn.never (PW.pt (pw_and (pt_truth (pe_ix (r := rIxL K) ix_list (pv 0) pe_int (fun _ _ => rfl)) (by intro _; rfl)) (pw_and1 (pt_cmpR op_eq (pe_ix (r := rIxL K) ix_list (pe_ix (r := rIxL K) ix_list (pv 0) pe_int (fun _ _ => rfl)) pe_int (fun _ _ => rfl)) pe_int (nomark _))))) (pss_one (ps_asg (pe_slice sl_list (pe_ix (r := rIxL K) ix_list (pv 0) pe_int (fun _ _ => rfl)) (po_some pe_int) po_none) (pg_sub (pv 0) pe_int set_list))))
      (pss_cons (ps_if (pt_truth (pe_ix (r := rIxL K) ix_list (pv 0) pe_int (fun _ _ => rfl)) (by intro _; rfl)) (pss_cons (ps_set (i := 2) sc_law_take.nd rfl (by first | exact Or.inl rfl | exact Or.inr rfl) (pe_ix (r := rIxL K) ix_list (pe_ix (r := rIxL K) ix_list (pv 0) pe_int (fun _ _ => rfl)) pe_int (fun _ _ => rfl)))
      (pss_cons (ps_asg (pe_op op_fdivW (pe_callTy call_int1 rfl (n_int T) bo_int (pa_cons (pv 2) pa_nil)) (pv 1)) (pg_sub (pe_ix (r := rIxL K) ix_list (pv 0) pe_int (fun _ _ => rfl)) pe_int set_list))
      (pss_one (ps_ret (pe_op op_mod (pe_callTy call_int1 rfl (n_int T) bo_int (pa_cons (pv 2) pa_nil)) (pv 1)))))) pss_nil)
      (pss_cons (ps_asg (pe_op op_add (pe_ix (r := rIxL K) ix_list (pv 0) pe_int (fun _ _ => rfl)) pe_int) (pg_sub (pv 0) pe_int set_list))
      (pss_cons (ps_asg (pe_op op_mod (pe_callTy call_int1 rfl (n_int T) bo_int (pa_cons (pe_op op_add (pe_op op_mul (pe_ix (r := rIxL K) ix_list (pv 0) pe_int (fun _ _ => rfl)) pe_int) pe_int) pa_nil)) pe_int) (pg_sub (pv 0) pe_int set_list))
      (pss_cons (ps_set (i := 3) sc_law_take.nd rfl (by first | exact Or.inl rfl | exact Or.inr rfl) (pe_op op_mod (pe_callTy call_int1 rfl (n_int T) bo_int (pa_cons (pe_op op_add (pe_op op_mul (pe_ix (r := rIxL K) ix_list (pv 0) pe_int (fun _ _ => rfl)) pe_int) (pe_op op_mul (pe_ix (r := rIxL K) ix_list (pv 0) pe_int (fun _ _ => rfl)) pe_int)) pa_nil)) pe_int))
      (pss_cons (ps_set (i := 4) sc_law_take.nd rfl (by first | exact Or.inl rfl | exact Or.inr rfl) (pe_op op_mod (pe_callTy call_int1 rfl (n_int T) bo_int (pa_cons (pe_op op_add (pe_op op_add (pe_op op_mul (pv 3) (pv 3)) (pe_op op_mul (pe_ix (r := rIxL K) ix_list (pv 0) pe_int (fun _ _ => rfl)) pe_int)) (pe_op op_fdivW (pv 3) pe_int)) pa_nil)) pe_int))
      (pss_one (ps_ret (pe_op op_mod (pe_callTy call_int1 rfl (n_int T) bo_int (pa_cons (pe_op op_fdivW (pv 4) pe_int) pa_nil)) (pv 1)))))))))), ?_⟩
  rintro H ds q ⟨a, many, rfl, ok, h0, h1, hq⟩
  have ok0 := ok
  obtain ⟨gl0, cs0, m0, z0, at0⟩ := ok
  refine sd_seq (sd_while (fun c g' H' => ∃ (gl : Addr) (cs : List Int) (m z : Int) (o2 o3 o4 : Option D), g' = [some (.ref a), some (.int many), o2, o3, o4] ∧ c = cs.length ∧ HandAt a H' gl cs m z ∧ Hr a H H') _ ⟨gl0, cs0, m0, z0, none, none, none, rfl, rfl, at0, Hr.refl⟩ ?_)
  rintro c g' H' ⟨gl, cs, m, z, o2, o3, o4, rfl, rfl, at_, hr1⟩
  have hd3 : RpL K H' [.ref gl, .int m, .int z] [.ref gl, .int m, .int z] := .cons .ref (.cons .int (.cons .int .nil))
  have ix0 : ∀ {H2 : Hp} (e : Same H' H2) (oo : Gm), oo[0]? = some (some (.ref a)) → Yd Same K (tOp (rIxL K) (tVar 0) (tC (.int 0))) oo H2 (.ref gl) := fun {H2} e oo ho => yd_ixL (yd_var ho) yd_int (fun H3 e3 => ⟨e3 _ _ (e _ _ at_.1), (hd3.mono e).mono e3⟩) rfl
  refine ⟨Same, inferInstance, Same.refl _, _, yt_and (b := !(cs.map V.int).isEmpty) (c := decide (cs.getD 0 1 = 0)) (yt_truL (ix0 (Same.refl _) _ rfl) fun H2 e2 => e2 _ _ at_.2.1) fun hb => yt_test (yd_eqI (i := cs.getD 0 1) (yd_ixL (ds := cs.map D.int) (ix0 (Same.refl _) _ rfl) yd_int (fun H2 e2 => ⟨e2 _ _ at_.2.1, RpL.of_ints cs⟩) ?_) yd_int), fun qb H2 e2 => ?_, fun qb H2 e2 => ?_⟩
  · cases cs with
    | nil => cases hb
    | cons c cs => exact atI_nat (k := 0) rfl
  · obtain ⟨c, cs', rfl⟩ : ∃ c cs', cs = c :: cs' := by
      cases cs with
      | nil => cases qb
      | cons c cs => exact ⟨_, _, rfl⟩
    refine sd_setZ (zd_ofL (yl_tail (vs := (c :: cs').map V.int) (ds := (c :: cs').map D.int) (ix0 e2 _ rfl) (e2 _ _ at_.2.1) (RpL.of_ints _) (by simp)) fun p us H3 hp e3 hl hv => ⟨a, 0, 0, _, _, yd_var rfl, yd_int, e3 _ _ (e2 _ _ at_.1), (hd3.mono e2).mono e3, rfl, fun H4 us4 mu hl4 hv4 => ?_⟩)
    obtain ⟨n1, n2⟩ := (at_.same e2).move (cs' := cs') hp e3 hl hv mu hl4 hv4
    exact ⟨cs'.length, by simp, p, cs', m, z, o2, o3, o4, rfl, rfl, n1, hr1.trans ((Hr.same at_.ok e2).trans n2)⟩
  · have fin : ∀ i H', 0 ≤ i → i < many → Hr a H H' → HandOk a H' → Kp H H' ∧ q (.int i) H' := fun i H' p1 p2 p3 p4 => ⟨Hr.kp ok0 p3, hq i H' p1 p2 p3 p4⟩
    have at2 := at_.same e2
    have hr2 := hr1.trans (Hr.same at_.ok e2)
    refine sd_seq (sd_if (R := Same) (Same.refl _) (yt_truL (vs := cs.map V.int) (ix0 e2 _ rfl) fun H3 e3 => e3 _ _ at2.2.1) (fun hb H3 e3 => ?_) fun hb H3 e3 => sd_next ?_)
    · obtain ⟨c, cs', rfl⟩ : ∃ c cs', cs = c :: cs' := by
        cases cs with
        | nil => cases hb
        | cons c cs => exact ⟨_, _, rfl⟩
      refine sd_seq (sd_asg (R := Same) (d := .int c) (Same.refl _) (yd_ixL (ds := (c :: cs').map D.int) (ix0 (e2.trans e3) _ rfl) yd_int (fun H4 e4 => ⟨e4 _ _ (e3 _ _ at2.2.1), RpL.of_ints _⟩) (atI_nat (k := 0) rfl)) fun H4 e4 => ?_)
      have e34 := e3.trans e4
      refine sd_seq (sd_setL (a := gl) (vs := (c :: cs').map V.int) (ds := (c :: cs').map D.int) (j := 0) (yd_I (yd_toInt (yd_var (d := .int c) rfl)) (yd_var (d := .int many) rfl) (div_ok h0 h1 _)) (ix0 (e2.trans e34) _ rfl) yd_int (e34 _ _ at2.2.1) (RpL.of_ints _) (ixN_nat (k := 0) (by simp)) fun H5 us5 mu5 hl5 hv5 => ?_)
      obtain ⟨n1, n2⟩ := (at2.same e34).setG (cs' := (c / many) :: cs') mu5 hl5 hv5
      refine sd_ret (R := Same) (Same.refl _) (yd_I (yd_toInt (yd_var (d := .int c) rfl)) (yd_var (d := .int many) rfl) h0) fun H6 e6 => fin _ H6 (Int.emod_nonneg _ (by omega)) (Int.emod_lt_of_pos _ h0) (hr2.trans ((Hr.same at2.ok e34).trans (n2.trans (Hr.same n1.ok e6)))) (n1.ok.same e6)
    · have at3 := at2.same e3
      have hr3 := hr2.trans (Hr.same at2.ok e3)
      have rd : ∀ {H4 : Hp} {m' z' : Int} (t : HandAt a H4 gl cs m' z') (oo : Gm), oo[0]? = some (some (.ref a)) → Yd Same K (tOp (rIxL K) (tVar 0) (tC (.int 1))) oo H4 (.int m') ∧ Yd Same K (tOp (rIxL K) (tVar 0) (tC (.int 2))) oo H4 (.int z') := fun {H4 m' z'} t oo ho =>
        ⟨yd_ixL (ds := [.ref gl, .int m', .int z']) (yd_var ho) yd_int (fun H5 e5 => ⟨e5 _ _ t.1, .cons .ref (.cons .int (.cons .int .nil))⟩) (atI_nat (k := 1) rfl), yd_ixL (ds := [.ref gl, .int m', .int z']) (yd_var ho) yd_int (fun H5 e5 => ⟨e5 _ _ t.1, .cons .ref (.cons .int (.cons .int .nil))⟩) (atI_nat (k := 2) rfl)⟩
      refine sd_seq (sd_setL (a := a) (vs := [.ref gl, .int m, .int z]) (ds := [.ref gl, .int m, .int z]) (j := 2) (yd_I0 (rd at3 _ rfl).2 yd_int) (yd_var rfl) yd_int at3.1 (.cons .ref (.cons .int (.cons .int .nil))) rfl fun H4 us4 mu4 hl4 hv4 => ?_)
      obtain ⟨at4, n4⟩ := at3.setA (m' := m) (z' := z + 1) mu4 hl4 hv4
      have hr4 := hr3.trans n4
      refine sd_seq (sd_setL (a := a) (vs := [.ref gl, .int m, .int (z + 1)]) (ds := [.ref gl, .int m, .int (z + 1)]) (j := 1) (yd_I (yd_toInt (yd_I0 (yd_I (rd at4 _ rfl).1 yd_int (.inr (by decide))) yd_int)) yd_int (by decide)) (yd_var rfl) yd_int at4.1 (.cons .ref (.cons .int (.cons .int .nil))) rfl fun H5 us5 mu5 hl5 hv5 => ?_)
      obtain ⟨at5, n5⟩ := at4.setA (m' := (m * 69621 + 12345) % 2147483647) (z' := z + 1) mu5 hl5 hv5
      have hr5 := hr4.trans n5
      refine sd_seq (sd_asg (R := Same) (Same.refl _) (yd_I (yd_toInt (yd_I0 (yd_I (rd at5 _ rfl).1 yd_int (.inr (by decide))) (yd_I (rd at5 _ rfl).2 yd_int (.inr (by decide))))) yd_int (by decide)) fun H6 e6 => ?_)
      have at6 := at5.same e6
      generalize honce : ((m * 69621 + 12345) % 2147483647 * 48271 + (z + 1) * 7919) % 2147483629 = once
      have o1 : 0 ≤ once := by rw [← honce]; exact Int.emod_nonneg _ (by decide)
      have o2 : once < 2147483629 := by rw [← honce]; exact Int.emod_lt_of_pos _ (by decide)
      refine sd_seq (sd_asg (R := Same) (Same.refl _) (yd_I (yd_toInt (yd_I0 (yd_I0 (yd_I (yd_var (d := .int once) rfl) (yd_var (d := .int once) rfl) (.inr ⟨by omega, by omega⟩)) (yd_I (rd at6 _ rfl).2 yd_int (.inr (by decide)))) (yd_I (yd_var (d := .int once) rfl) yd_int (div_ok (by decide) (by decide) _)))) yd_int (by decide)) fun H7 e7 => ?_)
      refine sd_ret (R := Same) (Same.refl _) (yd_I (yd_toInt (yd_I (yd_var rfl) yd_int (div_ok (by decide) (by decide) _))) (yd_var (d := .int many) rfl) h0) fun H8 e8 => fin _ H8 (Int.emod_nonneg _ (by omega)) (Int.emod_lt_of_pos _ h0) (hr5.trans (Hr.same at5.ok (e6.trans (e7.trans e8)))) (at5.ok.same (e6.trans (e7.trans e8)))
end K19
set_option maxHeartbeats 4000000
set_option exponentiation.threshold 20000
namespace K19
open PySem PySem.Spec PyProof.Rows L2
variable {P : Program} {w : World} {K : PySem.W.Frag} {mg : Str → Option Value} {base : Heap}
/-! ### draws -/
def r_h (Pd : D → Prop) : Hp → List D → (D → Hp → Prop) → Prop := fun H ds q => ∃ a, ds = [.ref a] ∧ HandOk a H ∧ ∀ d H', Pd d → Hr a H H' → HandOk a H' → q d H'
section
variable {g : Gm} {H : Hp} {te tb : TE} {a : Addr} {W : XK} {q : D → Hp → Prop} {many : Int} {Pd : D → Prop} {ta : TA} {ds : List D} {d : D} {i : Int}
theorem zd_take (h : Yd Same K te g H (.ref a)) (h2 : Yd Same K tb g H (.int many)) (ok : HandOk a H) (hq : ∀ i H', 0 ≤ i → i < many → Hr a H H' → HandOk a H' → q (.int i) H') (h0 : 0 < many := by decide) (h1 : many < 2 ^ 60 := by decide) : Zd K (tCall (spH K r_takeH) [] W (tCons te (tCons tb tNil))) g H q :=
  zd_callH (za_of (ya_cons h (ya_cons h2 ya_nil)) fun H1 e => ⟨a, many, rfl, ok.same e, h0, h1, fun i H' p1 p2 p3 p4 => hq i H' p1 p2 ((Hr.same ok e).trans p3) p4⟩)
theorem zd_h (h : Yd Same K te g H (.ref a)) (ok : HandOk a H) (hq : ∀ d H', Pd d → Hr a H H' → HandOk a H' → q d H') : Zd K (tCall (spH K (r_h Pd)) [] W (tCons te tNil)) g H q :=
  zd_callH (za_of (ya_cons h ya_nil) fun H1 e => ⟨a, rfl, ok.same e, fun d H' p p3 p4 => hq d H' p ((Hr.same ok e).trans p3) p4⟩)
/-- an item of a list as it is written -/
theorem yd_ixN {ta' : TE} (h : Yl Same K ta' g H ds) (hb : Yd Same K tb g H (.int i)) (hx : atI ds i = some d) : Yd Same K (tOp (rIxL K) ta' tb) g H d := fun s H1 e t Q k =>
  h s H1 e t _ fun p us H2 hp e2 hl hv => hb s H2 (e.trans e2) (t.mono e2) _ fun v H3 e3 rv => by
    cases rv
    have hn := hv.length
    unfold atI at hx
    cases hk : ixN ds.length i with
    | none => rw [hk] at hx; cases hx
    | some j =>
      rw [hk] at hx
      obtain ⟨v, h1, r1⟩ := hv.get (i := j) hx
      refine ⟨p, us, i, v, rfl, rfl, SqL.of (e3 _ _ hl), ?_, k v H3 (e2.trans e3) (r1.mono e3)⟩
      unfold atI
      rw [hn, hk]
      exact h1
end
theorem sc_law_mark : FnScope ["_law_hand_here"] ["_law_hand_here"] (defScope s_law_mark) := ⟨rfl, rfl, rfl, by decide +kernel, rfl, by decide +kernel, by decide +kernel⟩
theorem bd_law_mark : Bnd "_law_mark" "_law_mark" s_law_mark ["_law_hand_here"] := fun _ _ _ _ _ _ us hl => match us, hl with | [_], _ => rfl
theorem sc_law_strength : FnScope ["_law_hand_here"] ["_law_hand_here"] (defScope s_law_strength) := ⟨rfl, rfl, rfl, by decide +kernel, rfl, by decide +kernel, by decide +kernel⟩
theorem bd_law_strength : Bnd "_law_strength" "_law_strength" s_law_strength ["_law_hand_here"] := fun _ _ _ _ _ _ us hl => match us, hl with | [_], _ => rfl
theorem sc_law_half : FnScope ["_law_hand_here", "_law_turn"] ["_law_hand_here"] (defScope s_law_half) := ⟨rfl, rfl, rfl, by decide +kernel, rfl, by decide +kernel, by decide +kernel⟩
theorem bd_law_half : Bnd "_law_half" "_law_half" s_law_half ["_law_hand_here"] := fun _ _ _ _ _ _ us hl => match us, hl with | [_], _ => rfl
theorem sc_law_wide : FnScope ["_law_hand_here", "_law_way"] ["_law_hand_here"] (defScope s_law_wide) := ⟨rfl, rfl, rfl, by decide +kernel, rfl, by decide +kernel, by decide +kernel⟩
theorem bd_law_wide : Bnd "_law_wide" "_law_wide" s_law_wide ["_law_hand_here"] := fun _ _ _ _ _ _ us hl => match us, hl with | [_], _ => rfl
theorem sc_law_above : FnScope ["_law_hand_here"] ["_law_hand_here"] (defScope s_law_above) := ⟨rfl, rfl, rfl, by decide +kernel, rfl, by decide +kernel, by decide +kernel⟩
theorem bd_law_above : Bnd "_law_above" "_law_above" s_law_above ["_law_hand_here"] := fun _ _ _ _ _ _ us hl => match us, hl with | [_], _ => rfl
theorem sc_law_any_half : FnScope ["_law_hand_here"] ["_law_hand_here"] (defScope s_law_any_half) := ⟨rfl, rfl, rfl, by decide +kernel, rfl, by decide +kernel, by decide +kernel⟩
theorem bd_law_any_half : Bnd "_law_any_half" "_law_any_half" s_law_any_half ["_law_hand_here"] := fun _ _ _ _ _ _ us hl => match us, hl with | [_], _ => rfl
theorem sc_law_any_place : FnScope ["_law_hand_here", "_law_bars", "_law_number"] ["_law_hand_here", "_law_bars"] (defScope s_law_any_place) := ⟨rfl, rfl, rfl, by decide +kernel, rfl, by decide +kernel, by decide +kernel⟩
theorem bd_law_any_place : Bnd "_law_any_place" "_law_any_place" s_law_any_place ["_law_hand_here", "_law_bars"] := fun _ _ _ _ _ _ us hl => match us, hl with | [_, _], _ => rfl
/-- a ratio of no great size -/
def PQ (n : Nat) : D → Prop := fun d => ∃ q, d = dq q ∧ bt q ≤ n
def PHalf (n : Nat) : D → Prop := fun d => d = .non ∨ ∃ q, d = dq q ∧ bt q ≤ n
theorem bt_q {t b : Int} {n : Nat} (h0 : 0 < n) (hb : b ≠ 0) (h1 : t.natAbs < 2 ^ n) (h2 : b.natAbs < 2 ^ n) : PQ n (dq (Rat.divInt t b)) := ⟨_, rfl, bt_divInt h0 hb h1 h2⟩
theorem PQ.mono {m n : Nat} {d : D} (h : PQ m d) (e : m ≤ n) : PQ n d := let ⟨q, a, b⟩ := h; ⟨q, a, Nat.le_trans b e⟩
theorem zd_ratio {g : Gm} {H : Hp} {ta : TA} {W : XK} {q : D → Hp → Prop} (h : Za K ta g H fun ds H1 => ∃ t b, ds = [.int t, .int b] ∧ b ≠ 0 ∧ b.natAbs < 2 ^ 60 ∧ ∀ H2, Same H1 H2 → q (dq (Rat.divInt t b)) H2) : Zd K (tCall (spP K r_low) [] W ta) g H q :=
  zd_call (fun s ty Q k => h s ty Q fun vs ds H1 e r ⟨t, b, ed, hb, hz, z⟩ => k vs ds H1 e r ⟨_, ⟨t, b, ed, hb, Nat.lt_of_lt_of_le hz (Nat.pow_le_pow_right (by decide) (by decide)), rfl⟩, z⟩)
theorem ok_law_mark (T : TX K mg) : Cal P w K mg base CX0 3 "_law_mark" ["_law_hand_here"] (spH K (r_h (PQ 21))) := by
  refine cal_hand (f_law_mark T) (g_law_mark T) sc_law_mark bd_law_mark (fun H ds d ⟨_, e, _⟩ => by rw [e]; rfl) fun cdv A outer s H E hr => ⟨_, (pss_one (ps_ret (pe_cal (ok_law_ratio T) (hr.mono (by decide)) rfl pass0 (pa_cons (pe_op op_sub (pe_cal (ok_law_take T) (hr.mono (by decide)) rfl pass0 (pa_cons (pv 0) (pa_cons pe_int pa_nil))) pe_int) (pa_cons pe_int pa_nil))))), ?_⟩
  rintro H ds q ⟨a, rfl, ok, hq⟩
  refine sd_retZ (zd_ratio (za_cons (zd_I0 (zd_take (yd_var rfl) yd_int ok fun i H1 p1 p2 p3 p4 => ⟨i, rfl, zd_of yd_int fun H2 e2 => ⟨4, rfl, za_of (ya_cons yd_int ya_nil) fun H3 e3 => ⟨i - 4, 2, rfl, by decide, by decide, fun H4 e4 => ?_⟩⟩⟩))))
  have e := e2.trans (e3.trans e4)
  have hh := p3.trans (Hr.same p4 e)
  exact ⟨Hr.kp ok hh, hq _ H4 (bt_q (by decide) (by decide) (by omega) (by decide)) hh (p4.same e)⟩
theorem ok_law_strength (T : TX K mg) : Cal P w K mg base CX0 3 "_law_strength" ["_law_hand_here"] (spH K (r_h (PQ 21))) := by
  refine cal_hand (f_law_strength T) (g_law_strength T) sc_law_strength bd_law_strength (fun H ds d ⟨_, e, _⟩ => by rw [e]; rfl) fun cdv A outer s H E hr => ⟨_, (pss_one (ps_ret (pe_cal (ok_law_ratio T) (hr.mono (by decide)) rfl pass0 (pa_cons (pe_op op_add pe_int (pe_cal (ok_law_take T) (hr.mono (by decide)) rfl pass0 (pa_cons (pv 0) (pa_cons pe_int pa_nil)))) (pa_cons pe_int pa_nil))))), ?_⟩
  rintro H ds q ⟨a, rfl, ok, hq⟩
  refine sd_retZ (zd_ratio (za_cons (zd_I0 (zd_of yd_int fun H0 e0 => ⟨1, rfl, zd_take (yd_var rfl) yd_int (ok.same e0) fun i H1 p1 p2 p3 p4 => ⟨i, rfl, za_of (ya_cons yd_int ya_nil) fun H3 e3 => ⟨1 + i, 4, rfl, by decide, by decide, fun H4 e4 => ?_⟩⟩⟩))))
  have e := e3.trans e4
  have hh := (Hr.same ok e0).trans (p3.trans (Hr.same p4 e))
  exact ⟨Hr.kp ok hh, hq _ H4 (bt_q (by decide) (by decide) (by omega) (by decide)) hh (p4.same e)⟩
def halves : List Rat := [0, Rat.divInt 1 3, Rat.divInt 1 2, 1, 2, 3, Rat.divInt (-1) 3, Rat.divInt (-1) 2, -1, -2, -3, 0]
theorem halves_bt : ∀ q ∈ halves, bt q ≤ 7 := by decide +kernel
theorem ok_law_half (T : TX K mg) : Cal P w K mg base CX0 3 "_law_half" ["_law_hand_here"] (spH K (r_h (PHalf 10))) := by
  refine cal_hand (f_law_half T) (g_law_half T) sc_law_half bd_law_half (fun H ds d ⟨_, e, _⟩ => by rw [e]; rfl) fun cdv A outer s H E hr => ⟨_, (pss_cons (ps_set (i := 1) sc_law_half.nd rfl (by first | exact Or.inl rfl | exact Or.inr rfl) (pe_cal (ok_law_take T) (hr.mono (by decide)) rfl pass0 (pa_cons (pv 0) (pa_cons pe_int pa_nil))))
      (pss_cons (ps_if (pt_cmpR op_eq (pv 1) pe_int (nomark _)) (pss_one (ps_ret pe_non)) pss_nil)
      (pss_cons (ps_if (pt_cmpR op_eq (pv 1) pe_int (nomark _)) (pss_one (ps_ret (pe_cal (ok_law_ratio T) (hr.mono (by decide)) rfl pass0 (pa_cons (pe_op op_sub (pe_cal (ok_law_take T) (hr.mono (by decide)) rfl pass0 (pa_cons (pv 0) (pa_cons pe_int pa_nil))) pe_int) (pa_cons (pe_op op_add pe_int (pe_cal (ok_law_take T) (hr.mono (by decide)) rfl pass0 (pa_cons (pv 0) (pa_cons pe_int pa_nil)))) pa_nil))))) pss_nil)
      (pss_one (ps_ret (pe_ix (r := rIxL K) ix_list (pe_lst (pa_cons (pe_tup (pa_cons pe_int (pa_cons pe_int pa_nil))) (pa_cons (pe_tup (pa_cons pe_int (pa_cons pe_int pa_nil))) (pa_cons (pe_tup (pa_cons pe_int (pa_cons pe_int pa_nil))) (pa_cons (pe_tup (pa_cons pe_int (pa_cons pe_int pa_nil))) (pa_cons (pe_tup (pa_cons pe_int (pa_cons pe_int pa_nil))) (pa_cons (pe_tup (pa_cons pe_int (pa_cons pe_int pa_nil))) (pa_cons (pe_tup (pa_cons (pe_un un_neg pe_int) (pa_cons pe_int pa_nil))) (pa_cons (pe_tup (pa_cons (pe_un un_neg pe_int) (pa_cons pe_int pa_nil))) (pa_cons (pe_tup (pa_cons (pe_un un_neg pe_int) (pa_cons pe_int pa_nil))) (pa_cons (pe_tup (pa_cons (pe_un un_neg pe_int) (pa_cons pe_int pa_nil))) (pa_cons (pe_tup (pa_cons (pe_un un_neg pe_int) (pa_cons pe_int pa_nil))) (pa_cons (pe_tup (pa_cons pe_int (pa_cons pe_int pa_nil))) pa_nil))))))))))))) (pv 1) (fun _ _ => rfl))))))), ?_⟩
  rintro H ds q ⟨a, rfl, ok, hq⟩
  refine sd_seq (sd_asgZ (zd_take (yd_var rfl) yd_int ok fun i H1 p1 p2 p3 p4 => ?_))
  refine sd_seq (sd_if (R := Same) (Same.refl _) (yt_test (yd_eqI (yd_var (d := .int i) rfl) yd_int)) (fun z H2 e2 => sd_ret (R := Same) (Same.refl _) yd_non fun H3 e3 => ?_) fun z H2 e2 => sd_next ?_)
  · have hh := p3.trans (Hr.same p4 (e2.trans e3))
    exact ⟨Hr.kp ok hh, hq _ H3 (.inl rfl) hh (p4.same (e2.trans e3))⟩
  have z12 : i ≠ 12 := of_decide_eq_false z
  have ok2 := p4.same e2
  have hr2 := p3.trans (Hr.same p4 e2)
  refine sd_seq (sd_if (R := Same) (Same.refl _) (yt_test (yd_eqI (yd_var (d := .int i) rfl) yd_int)) (fun z H3 e3 => ?_) fun z H3 e3 => sd_next ?_)
  · refine sd_retZ (zd_ratio (za_cons (zd_I0 (zd_take (yd_var rfl) yd_int (ok2.same e3) fun j H4 q1 q2 q3 q4 => ⟨j, rfl, zd_of yd_int fun H5 e5 => ⟨20, rfl, za_cons (zd_I0 (zd_of yd_int fun H6 e6 => ⟨1, rfl, zd_take (yd_var rfl) yd_int (q4.same (e5.trans e6)) fun l H7 r1 r2 r3 r4 => ⟨l, rfl, za_nil ⟨j - 20, 1 + l, rfl, by omega, by omega, fun H8 e8 => ?_⟩⟩⟩))⟩⟩))))
    have hh := hr2.trans ((Hr.same ok2 e3).trans (q3.trans ((Hr.same q4 (e5.trans e6)).trans (r3.trans (Hr.same r4 e8)))))
    exact ⟨Hr.kp ok hh, hq _ H8 (.inr (bt_q (by decide) (by omega) (by omega) (by omega))) hh (r4.same e8)⟩
  · have z13 : i ≠ 13 := of_decide_eq_false z
    obtain ⟨k, hk⟩ : ∃ k : Nat, i = k := ⟨i.toNat, by omega⟩
    subst hk
    have hk12 : k < 12 := by omega
    have hm : halves.getD k 0 ∈ halves := getD_mem (by exact hk12)
    refine sd_ret (R := Same) (d := dq (halves.getD k 0)) (Same.refl _) (yd_ixN (ds := halves.map dq) (yl_lst (ya_cons (yd_q (q := 0)) (ya_cons (yd_q (q := Rat.divInt 1 3)) (ya_cons (yd_q (q := Rat.divInt 1 2)) (ya_cons (yd_q (q := 1)) (ya_cons (yd_q (q := 2)) (ya_cons (yd_q (q := 3)) (ya_cons (yd_qn (q := Rat.divInt (-1) 3)) (ya_cons (yd_qn (q := Rat.divInt (-1) 2)) (ya_cons (yd_qn (q := -1)) (ya_cons (yd_qn (q := -2)) (ya_cons (yd_qn (q := -3)) (ya_cons (yd_q (q := 0)) ya_nil))))))))))))) (yd_var (d := .int (k : Int)) rfl) (atI_nat (dqs_get (by exact hk12)))) fun H4 e4 => ?_
    have hh := hr2.trans (Hr.same ok2 (e3.trans e4))
    exact ⟨Hr.kp ok hh, hq _ H4 (.inr ⟨_, rfl, Nat.le_trans (halves_bt _ hm) (by decide)⟩) hh (ok2.same (e3.trans e4))⟩
end K19
set_option maxHeartbeats 4000000
set_option exponentiation.threshold 20000
namespace K19
open PySem PySem.Spec PyProof.Rows L2
variable {P : Program} {w : World} {K : PySem.W.Frag} {mg : Str → Option Value} {base : Heap}
theorem sc_law_form : FnScope ["_law_hand_here", "_law_row_here"] ["_law_hand_here", "_law_row_here"] (defScope s_law_form) := ⟨rfl, rfl, rfl, by decide +kernel, rfl, by decide +kernel, by decide +kernel⟩
theorem bd_law_form : Bnd "_law_form" "_law_form" s_law_form ["_law_hand_here", "_law_row_here"] := fun _ _ _ _ _ _ us hl => match us, hl with | [_, _], _ => rfl
section
variable {g : Gm} {H : Hp} {R : Hp → Hp → Prop} [Rl R] {te tb : TE} {i j : Int}
theorem yd_pow {f : Int → Int → Int} (h : Yd R K te g H (.int i)) (h2 : Yd R K tb g H (.int j)) (hc : CPow i j) : Yd R K (tOp (rI CPow fun i j => .int (i ^ j.toNat)) te tb) g H (.int (i ^ j.toNat)) := yd_I (f := fun i j => i ^ j.toNat) h h2 hc
end
theorem pow_small {i j : Int} (h1 : 0 ≤ j := by decide) (h2 : j ≤ 1000000 := by decide) (h3 : i.natAbs < 2 ^ 64 := by decide) : CPow i j := ⟨h1, h2, h3⟩
theorem ok_law_wide (T : TX K mg) : Cal P w K mg base CX0 4 "_law_wide" ["_law_hand_here"] (spH K (r_h (PQ 21))) := by
  refine cal_hand (f_law_wide T) (g_law_wide T) sc_law_wide bd_law_wide (fun H ds d ⟨_, e, _⟩ => by rw [e]; rfl) fun cdv A outer s H E hr => ⟨_, (pss_cons (ps_set (i := 1) sc_law_wide.nd rfl (by first | exact Or.inl rfl | exact Or.inr rfl) (pe_cal (ok_law_take T) (hr.mono (by decide)) rfl pass0 (pa_cons (pv 0) (pa_cons pe_int pa_nil))))
      (pss_cons (ps_if (pt_cmpR op_eq (pv 1) pe_int (nomark _)) (pss_one (ps_ret (pe_tup (pa_cons pe_int (pa_cons pe_int pa_nil))))) pss_nil)
      (pss_cons (ps_if (pt_cmpR op_eq (pv 1) pe_int (nomark _)) (pss_one (ps_ret (pe_cal (ok_law_ratio T) (hr.mono (by decide)) rfl pass0 (pa_cons (pe_op op_sub (pe_cal (ok_law_take T) (hr.mono (by decide)) rfl pass0 (pa_cons (pv 0) (pa_cons (pe_op op_add (pe_op op_mul pe_int (pe_op op_pow pe_int pe_int)) pe_int) pa_nil))) (pe_op op_pow pe_int pe_int)) (pa_cons (pe_op op_add pe_int (pe_cal (ok_law_take T) (hr.mono (by decide)) rfl pass0 (pa_cons (pv 0) (pa_cons pe_int pa_nil)))) pa_nil))))) pss_nil)
      (pss_one (ps_ret (pe_cal (ok_law_mark T) (hr.mono (by decide)) rfl pass0 (pa_cons (pv 0) pa_nil))))))), ?_⟩
  rintro H ds q ⟨a, rfl, ok, hq⟩
  refine sd_seq (sd_asgZ (zd_take (yd_var rfl) yd_int ok fun i H1 p1 p2 p3 p4 => ?_))
  refine sd_seq (sd_if (R := Same) (Same.refl _) (yt_test (yd_eqI (yd_var (d := .int i) rfl) yd_int)) (fun z H2 e2 => sd_ret (R := Same) (Same.refl _) (yd_q (q := 0)) fun H3 e3 => ?_) fun z H2 e2 => sd_next ?_)
  · have hh := p3.trans (Hr.same p4 (e2.trans e3))
    exact ⟨Hr.kp ok hh, hq _ H3 ⟨_, rfl, by decide +kernel⟩ hh (p4.same (e2.trans e3))⟩
  have ok2 := p4.same e2
  have hr2 := p3.trans (Hr.same p4 e2)
  refine sd_seq (sd_if (R := Same) (Same.refl _) (yt_test (yd_eqI (yd_var (d := .int i) rfl) yd_int)) (fun z H3 e3 => ?_) fun z H3 e3 => sd_next ?_)
  · refine sd_retZ (zd_ratio (za_cons (zd_I0 (zd_take (many := 2000001) (yd_var rfl) (yd_I0 (yd_I yd_int (yd_I yd_int yd_int pow_small) (.inr (by decide))) yd_int) (ok2.same e3) fun j H4 q1 q2 q3 q4 => ⟨j, rfl, zd_of (yd_I yd_int yd_int pow_small) fun H5 e5 => ⟨1000000, rfl, za_cons (zd_I0 (zd_of yd_int fun H6 e6 => ⟨1, rfl, zd_take (yd_var rfl) yd_int (q4.same (e5.trans e6)) fun l H7 r1 r2 r3 r4 => ⟨l, rfl, za_nil ⟨j - 1000000, 1 + l, rfl, by omega, by omega, fun H8 e8 => ?_⟩⟩⟩))⟩⟩))))
    have hh := hr2.trans ((Hr.same ok2 e3).trans (q3.trans ((Hr.same q4 (e5.trans e6)).trans (r3.trans (Hr.same r4 e8)))))
    exact ⟨Hr.kp ok hh, hq _ H8 ((bt_q (n := 20) (by decide) (by omega) (by omega) (by omega)).mono (by decide)) hh (r4.same e8)⟩
  · have hh := hr2.trans (Hr.same ok2 e3)
    exact sd_retZ (zd_h (Pd := PQ 21) (yd_var rfl) (ok2.same e3) fun d H4 pd q3 q4 => ⟨Hr.kp ok (hh.trans q3), hq _ H4 pd (hh.trans q3) q4⟩)
theorem ok_law_above (T : TX K mg) : Cal P w K mg base CX0 4 "_law_above" ["_law_hand_here"] (spH K (r_h (PQ 21))) := by
  refine cal_hand (f_law_above T) (g_law_above T) sc_law_above bd_law_above (fun H ds d ⟨_, e, _⟩ => by rw [e]; rfl) fun cdv A outer s H E hr => ⟨_, (pss_cons (ps_if (pt_cmpR op_eq (pe_cal (ok_law_take T) (hr.mono (by decide)) rfl pass0 (pa_cons (pv 0) (pa_cons pe_int pa_nil))) pe_int (nomark _)) (pss_one (ps_ret (pe_cal (ok_law_ratio T) (hr.mono (by decide)) rfl pass0 (pa_cons (pe_op op_add pe_int (pe_cal (ok_law_take T) (hr.mono (by decide)) rfl pass0 (pa_cons (pv 0) (pa_cons (pe_op op_pow pe_int pe_int) pa_nil)))) (pa_cons (pe_op op_add pe_int (pe_cal (ok_law_take T) (hr.mono (by decide)) rfl pass0 (pa_cons (pv 0) (pa_cons pe_int pa_nil)))) pa_nil))))) pss_nil)
      (pss_one (ps_ret (pe_cal (ok_law_strength T) (hr.mono (by decide)) rfl pass0 (pa_cons (pv 0) pa_nil))))), ?_⟩
  rintro H ds q ⟨a, rfl, ok, hq⟩
  refine sd_seq (sd_ifZ (zt_test (zd_eqI (zd_take (yd_var rfl) yd_int ok fun i H1 p1 p2 p3 p4 => ⟨i, rfl, zd_of yd_int fun H2 e2 => ⟨0, rfl, _, rfl, ?_⟩⟩))))
  have ok2 := p4.same e2
  have hr2 := p3.trans (Hr.same p4 e2)
  split
  · refine sd_retZ (zd_ratio (za_cons (zd_I0 (zd_of yd_int fun H4 e4 => ⟨1, rfl, zd_take (many := 1000000) (yd_var rfl) (yd_I yd_int yd_int pow_small) (ok2.same e4) fun j H5 q1 q2 q3 q4 => ⟨j, rfl, za_cons (zd_I0 (zd_of yd_int fun H6 e6 => ⟨1, rfl, zd_take (yd_var rfl) yd_int (q4.same e6) fun l H7 r1 r2 r3 r4 => ⟨l, rfl, za_nil ⟨1 + j, 1 + l, rfl, by omega, by omega, fun H8 e8 => ?_⟩⟩⟩))⟩⟩))))
    have hh := hr2.trans ((Hr.same ok2 e4).trans (q3.trans ((Hr.same q4 e6).trans (r3.trans (Hr.same r4 e8)))))
    exact ⟨Hr.kp ok hh, hq _ H8 ((bt_q (n := 20) (by decide) (by omega) (by omega) (by omega)).mono (by decide)) hh (r4.same e8)⟩
  · exact sd_next (sd_retZ (zd_h (Pd := PQ 21) (yd_var rfl) ok2 fun d H4 pd q3 q4 => ⟨Hr.kp ok (hr2.trans q3), hq _ H4 pd (hr2.trans q3) q4⟩))
theorem ok_law_any_half (T : TX K mg) : Cal P w K mg base CX0 4 "_law_any_half" ["_law_hand_here"] (spH K (r_h (PHalf 11))) := by
  refine cal_hand (f_law_any_half T) (g_law_any_half T) sc_law_any_half bd_law_any_half (fun H ds d ⟨_, e, _⟩ => by rw [e]; rfl) fun cdv A outer s H E hr => ⟨_, (pss_cons (ps_if (pt_cmpR op_eq (pe_cal (ok_law_take T) (hr.mono (by decide)) rfl pass0 (pa_cons (pv 0) (pa_cons pe_int pa_nil))) pe_int (nomark _)) (pss_one (ps_ret (pe_cal (ok_law_ratio T) (hr.mono (by decide)) rfl pass0 (pa_cons (pe_op op_sub (pe_cal (ok_law_take T) (hr.mono (by decide)) rfl pass0 (pa_cons (pv 0) (pa_cons (pe_op op_add (pe_op op_mul pe_int (pe_op op_pow pe_int pe_int)) pe_int) pa_nil))) (pe_op op_pow pe_int pe_int)) (pa_cons (pe_op op_add pe_int (pe_cal (ok_law_take T) (hr.mono (by decide)) rfl pass0 (pa_cons (pv 0) (pa_cons pe_int pa_nil)))) pa_nil))))) pss_nil)
      (pss_one (ps_ret (pe_cal (ok_law_half T) (hr.mono (by decide)) rfl pass0 (pa_cons (pv 0) pa_nil))))), ?_⟩
  rintro H ds q ⟨a, rfl, ok, hq⟩
  refine sd_seq (sd_ifZ (zt_test (zd_eqI (zd_take (yd_var rfl) yd_int ok fun i H1 p1 p2 p3 p4 => ⟨i, rfl, zd_of yd_int fun H2 e2 => ⟨0, rfl, _, rfl, ?_⟩⟩))))
  have ok2 := p4.same e2
  have hr2 := p3.trans (Hr.same p4 e2)
  split
  · refine sd_retZ (zd_ratio (za_cons (zd_I0 (zd_take (many := 2001) (yd_var rfl) (yd_I0 (yd_I yd_int (yd_I yd_int yd_int pow_small) (.inr (by decide))) yd_int) ok2 fun j H4 q1 q2 q3 q4 => ⟨j, rfl, zd_of (yd_I yd_int yd_int pow_small) fun H5 e5 => ⟨1000, rfl, za_cons (zd_I0 (zd_of yd_int fun H6 e6 => ⟨1, rfl, zd_take (yd_var rfl) yd_int (q4.same (e5.trans e6)) fun l H7 r1 r2 r3 r4 => ⟨l, rfl, za_nil ⟨j - 1000, 1 + l, rfl, by omega, by omega, fun H8 e8 => ?_⟩⟩⟩))⟩⟩))))
    have hh := hr2.trans (q3.trans ((Hr.same q4 (e5.trans e6)).trans (r3.trans (Hr.same r4 e8))))
    exact ⟨Hr.kp ok hh, hq _ H8 (.inr ((bt_q (n := 10) (by decide) (by omega) (by omega) (by omega)).mono (by decide))) hh (r4.same e8)⟩
  · exact sd_next (sd_retZ (zd_h (Pd := PHalf 10) (yd_var rfl) ok2 fun d H4 pd q3 q4 => ⟨Hr.kp ok (hr2.trans q3), hq _ H4 (pd.imp id fun ⟨q, e, b⟩ => ⟨q, e, Nat.le_trans b (by decide)⟩) (hr2.trans q3) q4⟩))
def PPl (n : Nat) : D → Prop := fun d => ∃ (k : Int) (m : Rat), d = .tup [.int k, dq m] ∧ -1 ≤ k ∧ k < n ∧ bt m ≤ 21
def r_hb : Hp → List D → (D → Hp → Prop) → Prop := fun H ds q => ∃ a bs, ds = [.ref a, dBars bs] ∧ 0 < bs.length ∧ bs.length ≤ 6 ∧ HandOk a H ∧ ∀ d H', PPl bs.length d → Hr a H H' → HandOk a H' → q d H'
theorem ok_law_any_place (T : TX K mg) : Cal P w K mg base CX0 5 "_law_any_place" ["_law_hand_here", "_law_bars"] (spH K r_hb) := by
  refine cal_hand (f_law_any_place T) (g_law_any_place T) sc_law_any_place bd_law_any_place (fun H ds d ⟨_, _, e, _⟩ => by rw [e]; rfl) fun cdv A outer s H E hr => ⟨_, (pss_cons (ps_set (i := 2) sc_law_any_place.nd rfl (by first | exact Or.inl rfl | exact Or.inr rfl) (pe_ifExp (pt_cmpR op_eq (pe_cal (ok_law_take T) (hr.mono (by decide)) rfl pass0 (pa_cons (pv 0) (pa_cons pe_int pa_nil))) pe_int (nomark _)) (pe_op op_sub (pe_callB (r := rLenX K) call_len rfl (n_len T) bo_len (pa_cons (pv 1) pa_nil)) pe_int) (pe_op op_sub (pe_cal (ok_law_take T) (hr.mono (by decide)) rfl pass0 (pa_cons (pv 0) (pa_cons (pe_op op_add (pe_callB (r := rLenX K) call_len rfl (n_len T) bo_len (pa_cons (pv 1) pa_nil)) pe_int) pa_nil))) pe_int)))
      (pss_one (ps_ret (pe_tup (pa_cons (pv 2) (pa_cons (pe_cal (ok_law_wide T) (hr.mono (by decide)) rfl pass0 (pa_cons (pv 0) pa_nil)) pa_nil)))))), ?_⟩
  rintro H ds q ⟨a, bs, rfl, b0, b6, ok, hq⟩
  have ln : ∀ {H1 : Hp} {g : Gm} (_ : g[1]? = some (some (dBars bs))), Yd Same K (tCB (rLenX K) (tCons (tVar 1) tNil)) g H1 (.int (bs.length : Nat)) := fun {H1 g} hg => (yd_lenT (yd_var (d := dBars bs) hg)).is (by rw [List.length_map])
  refine sd_seq (sd_asgZ (zd_if (zt_test (zd_eqI (zd_take (yd_var rfl) yd_int ok fun i H1 p1 p2 p3 p4 => ⟨i, rfl, zd_of yd_int fun H2 e2 => ⟨0, rfl, _, rfl, ?_⟩⟩)))))
  have ok2 := p4.same e2
  have hr2 := p3.trans (Hr.same p4 e2)
  have tail : ∀ {H1 : Hp} {k : Int}, -1 ≤ k → k < bs.length → HandOk a H1 → Hr a H H1 → Sd K (tRet (tTup (tCons (tVar 2) (tCons (tCall (spH K (r_h (PQ 21))) [] E0 (tCons (tVar 0) tNil)) tNil)))) [some (.ref a), some (dBars bs), some (.int k)] H1 (enH q H) := by
    intro H1 k k1 k2 ok1 hr1
    refine sd_retZ (zd_tup (za_cons (zd_of (yd_var (d := .int k) rfl) fun H2 e2 => za_cons (zd_h (Pd := PQ 21) (yd_var rfl) (ok1.same e2) fun d H3 pd q3 q4 => za_nil ⟨(by decide : 2 ≤ 100000), fun H4 e4 => ?_⟩))))
    obtain ⟨m, rfl, hm⟩ := pd
    have hh := hr1.trans ((Hr.same ok1 e2).trans (q3.trans (Hr.same q4 e4)))
    exact ⟨Hr.kp ok hh, hq _ H4 ⟨k, m, rfl, k1, k2, hm⟩ hh (q4.same e4)⟩
  split
  · exact zd_of (yd_I0 (ln rfl) yd_int) fun H3 e3 => tail (k := (bs.length : Int) - 1) (by omega) (by omega) (ok2.same e3) (hr2.trans (Hr.same ok2 e3))
  · refine zd_I0 (zd_take (many := (bs.length : Int) + 1) (yd_var rfl) (yd_I0 (ln rfl) yd_int) ok2 (fun j H4 q1 q2 q3 q4 => ⟨j, rfl, zd_of yd_int fun H5 e5 => ⟨1, rfl, ?_⟩⟩) (by omega) (by omega))
    exact tail (k := j - 1) (by omega) (by omega) (q4.same e5) (hr2.trans (q3.trans (Hr.same q4 e5)))
/-- list(a tuple) -/
abbrev rListOf (K : PySem.W.Frag) : List V → Hp → VK → Prop := fun xs H Q => ∃ p ys, xs = [.ref p] ∧ (SqL K H p ys ∨ SqT K H p ys) ∧ ∀ l, H l = none → Q (.ref l) (upd H l (.lst ys))
theorem yl_listT {g : Gm} {H : Hp} {te : TE} {ds : List D} (h : Yd Same K te g H (.tup ds)) : Yl Same K (tCB (rListOf K) (tCons te tNil)) g H ds := fun s H1 e ty Q q =>
  h s H1 e ty _ fun v H2 e2 rv => by
    cases rv with
    | tup hs l =>
      rename_i b us
      refine ⟨b, us, rfl, .inr hs, fun p hp => ?_⟩
      exact q p us _ (e2.free hp) (e2.trans (Same.new hp)) upd_same (l.mono (Same.new hp))
/-- a place in one of two forms -/
def r_form (K : PySem.W.Frag) : Hp → List D → (D → Hp → Prop) → Prop := fun H ds q => ∃ a k m bs, ds = [.ref a, .tup [.int k, dq m]] ∧ (-1 ≤ k ∧ k < (bs : List Bar).length) ∧ HandOk a H ∧ ∀ d H', PlOk K bs H' d k m → Hr a H H' → HandOk a H' → q d H'
theorem ok_law_form (T : TX K mg) : Cal P w K mg base CX0 2 "_law_form" ["_law_hand_here", "_law_row_here"] (spH K (r_form K)) := by
  refine cal_hand (f_law_form T) (g_law_form T) sc_law_form bd_law_form (fun H ds d ⟨_, _, _, _, e, _⟩ => by rw [e]; rfl) fun cdv A outer s H E hr => ⟨_, (pss_one (ps_ret (pe_ifExp (pt_cmpR op_eq (pe_cal (ok_law_take T) (hr.mono (by decide)) rfl pass0 (pa_cons (pv 0) (pa_cons pe_int pa_nil))) pe_int (nomark _)) (pe_callTy call_list_of rfl (n_list T) bo_list (pa_cons (pv 1) pa_nil)) (pe_callTy (r := rTupOf K) call_tuple_of rfl (n_tuple T) bo_tuple (pa_cons (pv 1) pa_nil))))), ?_⟩
  rintro H ds q ⟨a, k, m, bs, rfl, hk, ok, hq⟩
  refine sd_retZ (zd_if (zt_test (zd_eqI (zd_take (yd_var rfl) yd_int ok fun i H1 p1 p2 p3 p4 => ⟨i, rfl, zd_of yd_int fun H2 e2 => ⟨0, rfl, _, rfl, ?_⟩⟩))))
  have ok2 := p4.same e2
  have hr2 := p3.trans (Hr.same p4 e2)
  split
  · refine zd_ofL (yl_listT (yd_var (d := .tup [.int k, dq m]) rfl)) fun p us H3 hp e3 hl hv => ?_
    have hh := hr2.trans (Hr.same ok2 e3)
    exact ⟨Hr.kp ok hh, hq _ H3 (.lst hk hl hv) hh (ok2.same e3)⟩
  · refine zd_of (yd_tupT (yd_var (d := .tup [.int k, dq m]) rfl)) fun H3 e3 => ?_
    have hh := hr2.trans (Hr.same ok2 e3)
    exact ⟨Hr.kp ok hh, hq _ H3 (.tup hk) hh (ok2.same e3)⟩
end K19
set_option maxHeartbeats 4000000
set_option exponentiation.threshold 20000
namespace K19
open PySem PySem.Spec PyProof.Rows L2
variable {P : Program} {w : World} {K : PySem.W.Frag} {mg : Str → Option Value} {base : Heap}
theorem sc_law_hand : FnScope ["_law_script", "_law_great", "_law_mixed", "_law_cell", "_law_size_here"] ["_law_script"] (defScope s_law_hand) := ⟨rfl, rfl, rfl, by decide +kernel, rfl, by decide +kernel, by decide +kernel⟩
theorem bd_law_hand : Bnd "_law_hand" "_law_hand" s_law_hand ["_law_script"] := fun _ _ _ _ _ _ us hl => match us, hl with | [_], _ => rfl
/-- a list as it was given: it stands whatever else goes on -/
theorem sqL_mu {a b : Addr} {us : List V} {H H' : Hp} (h : SqL K H a us) (hb : H b = none) (m : ∀ x o, x ≠ b → H x = some o → H' x = some o) : SqL K H' a us := by
  have nb : ∀ {o}, H a = some o → a ≠ b := fun {o} e z => by rw [z, hb] at e; cases e
  rcases h with (h | ⟨o, h⟩) | h
  · exact .inl (.inl (m _ _ (nb h) h))
  · exact .inl (.inr ⟨o, m _ _ (nb h) h⟩)
  · exact .inr h
theorem sqL_same {a : Addr} {us : List V} {H H' : Hp} (h : SqL K H a us) (e : Same H H') : SqL K H' a us := by
  rcases h with (h | ⟨o, h⟩) | h
  · exact .inl (.inl (e _ _ h))
  · exact .inl (.inr ⟨o, e _ _ h⟩)
  · exact .inr h
theorem yd_lenLS {R : Hp → Hp → Prop} [Rl R] {g : Gm} {H : Hp} {te : TE} {a : Addr} {vs : List V} (h : Yd R K te g H (.ref a)) (hl : ∀ H1, R H H1 → SqL K H1 a vs) : Yd R K (tCB (rLenX K) (tCons te tNil)) g H (.int vs.length) :=
  yd_cb (ya_cons h ya_nil) fun us H1 e rs Q q => by
    cases rs with
    | cons r1 r2 =>
      cases r2
      cases r1
      exact ⟨_, vs.length, rfl, .inl ⟨vs, hl H1 e, rfl⟩, q _ H1 (Rl.self e) .int⟩
theorem yi2_listS {R : Hp → Hp → Prop} [Rl R] {g : Gm} {H : Hp} {te : TE} {ds : List D} {a : Addr} {us : List V} (h : Yd Same K te g H (.ref a)) (hl : ∀ H1, Same H H1 → SqL K H1 a us) (hR : ∀ H1 H2, Same H H1 → R H1 H2 → SqL K H2 a us ∧ RpL K H2 us ds) (hn : us.length = ds.length) : Yi2 R K (iList K te) g H ds.length (fun i => ds.getD i .non) := fun s H1 e ty Q q =>
  h s H1 e ty _ fun v H2 e2 rv => by
    cases rv
    have e12 := e.trans e2
    have st : ∀ H3, R H2 H3 → SqL K H3 a us := fun H3 e3 => (hR H2 H3 e12 e3).1
    refine ⟨a, rfl, ⟨us, hl H2 e12⟩, q _ H2 e2 ⟨fun i H3 e3 hi => ⟨us, us[i]'(by omega), st H3 e3, List.getElem?_eq_getElem (by omega)⟩, fun H3 e3 => ⟨us, st H3 e3, by omega⟩, fun i H3 v H4 e3 hi hy => ?_⟩⟩
    obtain ⟨rfl, hy⟩ := hy
    obtain ⟨d, hd, rv⟩ := (hR H2 _ e12 e3).2.getV (hy us (st _ e3))
    refine ⟨Same.refl _, ?_⟩
    show Rp K _ v (ds.getD i .non)
    rw [List.getD_eq_getElem?_getD, hd]
    exact rv
def r_hand (K : PySem.W.Frag) : Hp → List D → (D → Hp → Prop) → Prop := fun H ds q => ∃ a zs, ds = [.ref a] ∧ SqL K H a ((zs : List Int).map V.int) ∧ zs.length ≤ 1000 ∧ ∀ p H', HandOk p H' → q (.ref p) H'
theorem ok_law_hand (T : TX K mg) : Cal P w K mg base CX0 1 "_law_hand" ["_law_script"] (spH K (r_hand K)) := by
  refine cal_hand (f_law_hand T) (g_law_hand T) sc_law_hand bd_law_hand (fun H ds d ⟨_, _, e, _⟩ => by rw [e]; rfl) fun cdv A outer s H E hr => ⟨_, (pss_cons (ps_set (i := 1) sc_law_hand.nd rfl (by first | exact Or.inl rfl | exact Or.inr rfl) (pe_lst pa_nil))
      (pss_cons (ps_set (i := 2) sc_law_hand.nd rfl (by first | exact Or.inl rfl | exact Or.inr rfl) (pe_op op_add (pe_callB (r := rLenX K) call_len rfl (n_len T) bo_len (pa_cons (pv 0) pa_nil)) pe_int))
      (pss_cons (ps_for PassesOwn.never rfl (pi_list (pv 0)) (pg_name (i := 3) sc_law_hand.nd rfl (by first | exact Or.inl rfl | exact Or.inr rfl)) (pss_cons (ps_set (i := 4) sc_law_hand.nd rfl (by first | exact Or.inl rfl | exact Or.inr rfl) (pe_callB call_abs rfl (n_abs T) bo_abs (pa_cons (pe_callTy call_int1 rfl (n_int T) bo_int (pa_cons (pv 3) pa_nil)) pa_nil)))
      (pss_cons (ps_set (i := 2) sc_law_hand.nd rfl (by first | exact Or.inl rfl | exact Or.inr rfl) (pe_op op_add (pe_op op_mod (pe_callTy call_int1 rfl (n_int T) bo_int (pa_cons (pe_op op_add (pe_op op_mul (pv 2) pe_int) (pv 4)) pa_nil)) pe_int) pe_int))
      (pss_one (ps_if (pt_cmpR op_ge (pv 4) (pe_op op_pow pe_int pe_int) (nomark _)) (pss_one (ps_expr (pe_bm PySem.F.plainAttrs_list PySem.F.slot_list_append PySem.F.type_list_append mt_append (pv 1) (pa_cons (pv 4) pa_nil)))) pss_nil)))))
      (pss_one (ps_ret (pe_lst (pa_cons (pv 1) (pa_cons (pv 2) (pa_cons pe_int pa_nil))))))))), ?_⟩
  rintro H ds q ⟨a, zs, rfl, hz, hn, hq⟩
  refine sd_seq (sd_asgN (yl_lst ya_nil) fun b ub H1 hb e1 hlb hvb => ?_)
  have stS : ∀ H2, Mu b H1 H2 → SqL K H2 a (zs.map V.int) := fun H2 m => sqL_mu hz hb fun x o nx q => m x o nx (e1 _ _ q)
  have hvs : RpL K H1 (zs.map V.int) (zs.map D.int) := RpL.of_ints zs
  refine sd_seq (sd_asg (R := Same) (Same.refl _) (yd_I0 (yd_lenLS (yd_var (d := .ref a) rfl) fun H2 e2 => stS H2 (Mu.of e2)) yd_int) fun H2 e2 => ?_)
  have k02 : Kp H H2 := Kp.of (e1.trans e2)
  refine sd_seq (sd_for2 (vs := [3]) (R := MuL b) (yi2_listS (a := a) (us := zs.map V.int) (ds := zs.map D.int) (yd_var (i := 0) rfl) (fun H4 e5 => stS H4 (Mu.of (e2.trans e5))) (fun H4 H5 e5 m5 => ⟨stS H5 ((Mu.of (e2.trans e5)).trans m5.1), RpL.of_ints zs⟩) (by simp)) (fun j hj => tg_name) (fun H4 j g' H' => (∃ x o3 o4 gs, g' = [some (.ref a), some (.ref b), some (.int x), o3, o4] ∧ (gs : List Int).length ≤ j ∧ H' b = some (.lst (gs.map V.int))) ∧ MuL b H4 H') (fun _ _ _ _ h => h.2) (fun H4 e5 => ⟨⟨_, none, none, [], rfl, Nat.le_refl _, ?_⟩, MuL.refl (e5 _ _ (e2 _ _ hlb))⟩) ?_ ?_)
  · cases hvb
    exact e5 _ _ (e2 _ _ hlb)
  · rintro H4 j g' H' e5 hj ⟨⟨x, o3, o4, gs, rfl, hg, hl⟩, m6⟩ H5 e6
    rw [List.length_map] at hj
    have hat : (zs.map D.int).getD j .non = .int (zs.getD j 0) := by
      simp [List.getD_eq_getElem?_getD, List.getElem?_eq_getElem hj]
    rw [hat]
    generalize zs.getD j 0 = z
    refine sd_seq (sd_asg (R := Same) (Same.refl _) (yd_abs (yd_toInt (yd_var (d := .int z) rfl))) fun H6 e7 => ?_)
    generalize (if z < 0 then -z else z) = zz
    refine sd_seq (sd_asg (R := Same) (Same.refl _) (yd_I0 (yd_I (yd_toInt (yd_I0 (yd_I (yd_var (d := .int x) rfl) yd_int (.inr (by decide))) (yd_var (d := .int zz) rfl))) yd_int (by decide)) yd_int) fun H7 e8 => ?_)
    have e67 := e6.trans (e7.trans e8)
    have hl7 := e67 _ _ hl
    refine sd_if (R := Same) (Same.refl _) (yt_test (yd_cmp (yd_var (d := .int zz) rfl) (yd_I yd_int yd_int pow_small))) (fun hb H8 e9 => ?_) fun hb H8 e9 => sd_next ?_
    · refine sd_app (vs := gs.map V.int) (ds := gs.map D.int) (yd_var (d := .int zz) rfl) (yd_var (d := .ref b) rfl) (e9 _ _ hl7) (RpL.of_ints gs) (by rw [List.length_map]; omega) fun H9 u9 m9 hl9 hv9 => ?_
      have e : gs.map D.int ++ [D.int zz] = (gs ++ [zz]).map D.int := by rw [List.map_append]; rfl
      rw [e] at hv9
      have eu := RpL.ints hv9
      subst eu
      exact ⟨⟨_, _, _, gs ++ [zz], rfl, by rw [List.length_append]; exact Nat.succ_le_succ hg, hl9⟩, ⟨m6.1.trans ((Mu.of (e67.trans e9)).trans m9), m6.2.1, ⟨_, hl9⟩⟩⟩
    · exact ⟨⟨_, _, _, gs, rfl, Nat.le_succ_of_le hg, e9 _ _ hl7⟩, ⟨m6.1.trans (Mu.of (e67.trans e9)), m6.2.1, ⟨_, e9 _ _ hl7⟩⟩⟩
  · rintro H4 g' H' e5 ⟨⟨x, o3, o4, gs, rfl, hg, hl⟩, m6⟩
    refine sd_retZ (zd_ofL (yl_lst (ya_cons (yd_var (d := .ref b) rfl) (ya_cons (yd_var (d := .int x) rfl) (ya_cons yd_int ya_nil)))) fun p us H6 hp e6 hl6 hv6 => ?_)
    have eu : us = [.ref b, .int x, .int 0] := by
      cases hv6 with
      | cons r1 l =>
        cases l with
        | cons r2 l =>
          cases l with
          | cons r3 l =>
            cases l
            cases r1
            cases r2
            cases r3
            rfl
    subst eu
    have bp : b ≠ p := fun z => by rw [← z, hl] at hp; cases hp
    exact ⟨(k02.trans (Kp.of e5)).trans ((Kp.mu m6.1 (m6.2.1.choose_spec)).trans (Kp.of e6)), hq p H6 ⟨b, gs, x, 0, hl6, e6 _ _ hl, bp⟩⟩
end K19
set_option maxHeartbeats 4000000
set_option exponentiation.threshold 20000
namespace K19
open PySem PySem.Spec PyProof.Rows L2
variable {P : Program} {w : World} {K : PySem.W.Frag} {mg : Str → Option Value} {base : Heap}
theorem sc_law_any_pose : FnScope ["_law_hand_here", "_law_n", "_law_k"] ["_law_hand_here", "_law_n"] (defScope s_law_any_pose) := ⟨rfl, rfl, rfl, by decide +kernel, rfl, by decide +kernel, by decide +kernel⟩
theorem bd_law_any_pose : Bnd "_law_any_pose" "_law_any_pose" s_law_any_pose ["_law_hand_here", "_law_n"] := fun _ _ _ _ _ _ us hl => match us, hl with | [_, _], _ => rfl
/-- draws, one by one, into a new list -/
theorem zl_draws {Pd : D → Prop} {g : Gm} {H : Hp} {a : Addr} {ta : TA} {te : TE} {m : Int} {j : Nat} {q : Addr → List D → Hp → Prop} (h : Ya Same K ta g H [.int m]) (hm : 0 ≤ m ∧ m ≤ 1000) (ok : HandOk a H)
    (he : ∀ (i : Nat) H', HandOk a H' → Zd K te ((wipeG g [j]).set j (some (.int (i : Int)))) H' fun d H1 => Pd d ∧ Hr a H' H1 ∧ HandOk a H1)
    (hq : ∀ p ds H', ds.length = m.toNat → (∀ d ∈ ds, Pd d) → Hr a H H' → HandOk a H' → ¬ InH a H' p → q p ds H') : Zl K (tLc (iRng1 ta) (gName j) tYes te [j]) g H q := by
  refine zl_lc (yk_range1 h (by omega)) (fun i hi => tg_name) (by omega) (fun p i ds H' => ds.length = i ∧ (∀ d ∈ ds, Pd d) ∧ Hr a H H' ∧ HandOk a H' ∧ ¬ InH a H' p ∧ H p = none) ?_ ?_ ?_
  · intro H1 p e hp
    have hp0 := e.free hp
    have e2 : Same H (L2.upd H1 p (.lst [])) := e.trans (Same.new hp)
    refine ⟨rfl, (fun d h => by cases h), Hr.same ok e2, ok.same e2, ?_, hp0⟩
    have := InH.new (ok.same e) hp
    exact InH.mu (ok.same e) Mu.upd this
  · rintro p i ds H0 us H' hi ⟨h1, h2, h3, h4, h5, h6⟩ hl e
    have ok' := h4.same e
    have np : ¬ InH a H' p := ((Hr.same h4 e) p _ hl h5).2
    intro s ty Q k
    refine he i H' ok' s ty Q fun v d H1 k1 rv ⟨pd, hr1, ok1⟩ => k v d H1 k1 rv ?_
    obtain ⟨hl1, np1⟩ := hr1 p _ (e _ _ hl) np
    refine ⟨hl1, fun H2 mu ⟨l, hl2⟩ => ?_⟩
    obtain ⟨ok2, z⟩ := Hr.mu ok1 mu np1 ⟨_, hl2⟩
    refine ⟨by rw [List.length_append, h1]; rfl, fun d' hd => ?_, fun x o hx nx => ?_, ok2, InH.mu ok1 mu np1, h6⟩
    · rcases List.mem_append.mp hd with w | w
      · exact h2 d' w
      · cases List.mem_singleton.mp w
        exact pd
    · have xp : x ≠ p := fun w => by rw [w, h6] at hx; cases hx
      have := h3.trans ((Hr.same h4 e).trans hr1) x o hx nx
      exact z x o xp this.1 this.2
  · rintro p ds H' ⟨h1, h2, h3, h4, h5, _⟩
    exact hq p ds H' h1 h2 h3 h4 h5
/-- directions of no great size -/
def PoseB (us : List Uv) : Prop := ∀ u ∈ us, bt u.1 ≤ 50 ∧ bt u.2 ≤ 50 ∧ sqU u = 1
def PDir : D → Prop := fun d => ∃ u, d = dUv u ∧ bt u.1 ≤ 50 ∧ bt u.2 ≤ 50 ∧ sqU u = 1
theorem dirOf_one (h : Rat) : sqU (dirOf h) = 1 := by
  have n := one_sq_ne h
  unfold sqU dirOf
  simp only
  grind
theorem PDir.all {ds : List D} (h : ∀ d ∈ ds, PDir d) : ∃ us, ds = us.map dUv ∧ PoseB us := by
  induction ds with
  | nil => exact ⟨[], rfl, fun u h => by cases h⟩
  | cons d ds ih =>
    obtain ⟨us, rfl, p⟩ := ih fun x hx => h x (List.mem_cons_of_mem _ hx)
    obtain ⟨u, rfl, pu⟩ := h d List.mem_cons_self
    refine ⟨u :: us, rfl, fun x hx => ?_⟩
    rcases List.mem_cons.mp hx with rfl | w
    · exact pu
    · exact p x w
def r_hpose : Hp → List D → (D → Hp → Prop) → Prop := fun H ds q => ∃ a n, ds = [.ref a, .int (n : Nat)] ∧ n ≤ 4 ∧ HandOk a H ∧ ∀ us H', us.length = n → PoseB us → Hr a H H' → HandOk a H' → q (dUs us) H'
theorem ok_law_any_pose (T : TX K mg) : Cal P w K mg base CX0 5 "_law_any_pose" ["_law_hand_here", "_law_n"] (spH K r_hpose) := by
  refine cal_hand (f_law_any_pose T) (g_law_any_pose T) sc_law_any_pose bd_law_any_pose (fun H ds d ⟨_, _, e, _⟩ => by rw [e]; rfl) fun cdv A outer s H E hr => ⟨_, (pss_one (ps_ret (pe_callTy (r := rTupOf K) call_tuple_of rfl (n_tuple T) bo_tuple (pa_cons (pe_lc (own := [("_law_k", 2)]) rfl sc_law_any_pose.nd (pi_range1 rfl (n_range T) (pa_cons (pv 1) pa_nil)) (blkOk_by (own := [("_law_k", 2)]) (N := ["_law_hand_here", "_law_n", "_law_k"]) (sc := defScope s_law_any_pose) (by decide +kernel)) (fun _ _ _ _ _ => pg_name (i := 2) sc_law_any_pose.nd rfl (Or.inl rfl)) (fun _ _ _ _ _ => pts_nil) (fun _ _ _ _ _ => (pe_cal (ok_law_direction T) (hr.mono (by decide)) rfl pass0 (pa_cons (pe_cal (ok_law_any_half T) (hr.mono (by decide)) rfl pass0 (pa_cons (pv 0) pa_nil)) pa_nil)))) pa_nil)))), ?_⟩
  rintro H ds q ⟨a, n, rfl, n4, ok, hq⟩
  refine sd_retZ (zd_tupOf (zl_draws (Pd := PDir) (m := (n : Int)) (ya_cons (yd_var rfl) ya_nil) (by omega) ok (fun i H' ok1 => ?_) fun p ds H' hl hp hr1 ok1 np H2 e2 => ?_))
  · refine zd_call (za_cons (zd_h (Pd := PHalf 11) (yd_var rfl) ok1 fun d H1 pd hr1 ok2 => za_nil ?_))
    rcases pd with rfl | ⟨h, rfl, hb⟩
    · exact ⟨_, .inl ⟨rfl, rfl⟩, fun H2 e2 => ⟨⟨_, rfl, by decide +kernel, by decide +kernel, by unfold sqU; decide +kernel⟩, hr1.trans (Hr.same ok2 e2), ok2.same e2⟩⟩
    · have := dirOf_bt h
      exact ⟨_, .inr ⟨h, rfl, by omega, rfl⟩, fun H2 e2 => ⟨⟨_, rfl, by omega, by omega, dirOf_one h⟩, hr1.trans (Hr.same ok2 e2), ok2.same e2⟩⟩
  · obtain ⟨us, rfl, pu⟩ := PDir.all hp
    rw [List.length_map] at hl
    have hh := hr1.trans (Hr.same ok1 e2)
    exact ⟨Hr.kp ok hh, hq us H2 (by omega) pu hh (ok1.same e2)⟩
end K19
set_option maxHeartbeats 4000000
set_option exponentiation.threshold 20000
namespace K19
open PySem PySem.Spec PyProof.Rows L2
variable {P : Program} {w : World} {K : PySem.W.Frag} {mg : Str → Option Value} {base : Heap}
theorem sc_law_drawn_row : FnScope ["_law_hand_here", "_law_n", "_law_row_here", "_law_k", "_law_way", "_law_rest", "_law_number"] ["_law_hand_here"] (defScope s_law_drawn_row) := ⟨rfl, rfl, rfl, by decide +kernel, rfl, by decide +kernel, by decide +kernel⟩
theorem bd_law_drawn_row : Bnd "_law_drawn_row" "_law_drawn_row" s_law_drawn_row ["_law_hand_here"] := fun _ _ _ _ _ _ us hl => match us, hl with | [_], _ => rfl
theorem wtR_le {b : Nat} : ∀ {r : List Rat}, (∀ q ∈ r, bt q ≤ b) → wtR r ≤ (b + 1) * r.length
  | [], _ => by simp [wtR]
  | q :: r, h => by
    have h1 := wtR_le (r := r) fun x hx => h x (List.mem_cons_of_mem _ hx)
    have h2 := h q List.mem_cons_self
    have e : wtR (q :: r) = (bt q + 1) + wtR r := by simp [wtR]
    rw [e, List.length_cons, Nat.mul_succ]
    omega
theorem PQ.all {b : Nat} {ds : List D} (h : ∀ d ∈ ds, PQ b d) : ∃ r : List Rat, ds = r.map dq ∧ ∀ q ∈ r, bt q ≤ b := by
  induction ds with
  | nil => exact ⟨[], rfl, fun u h => by cases h⟩
  | cons d ds ih =>
    obtain ⟨r, rfl, p⟩ := ih fun x hx => h x (List.mem_cons_of_mem _ hx)
    obtain ⟨q, rfl, pq⟩ := h d List.mem_cons_self
    refine ⟨q :: r, rfl, fun x hx => ?_⟩
    rcases List.mem_cons.mp hx with rfl | w
    · exact pq
    · exact p x w
theorem mem_setR {b : Nat} {r : List Rat} {k : Nat} {x : Rat} (h : ∀ q ∈ r, bt q ≤ b) (hx : bt x ≤ b) : ∀ q ∈ r.set k x, bt q ≤ b := fun q hq => by
  rcases List.mem_or_eq_of_mem_set hq with w | rfl
  · exact h q w
  · exact hx
/-- a def asked about a new list -/
theorem yd_callNew {g : Gm} {H : Hp} {te : TE} {ds : List D} {d : D} {rel : Hp → List D → D → Prop} {W : XK} (h : Yl Same K te g H ds) (hr : ∀ p us H1, Same H H1 → H1 p = some (.lst us) → RpL K H1 us ds → rel H1 [.ref p] d) : Yd Same K (tCall (spP K rel) [] W (tCons te tNil)) g H d := fun s H1 e ty Q q =>
  h s H1 e ty _ fun p us H2 hp e2 hl hv => ⟨[.ref p], d, by rw [List.append_nil]; exact .cons .ref .nil, hr p us H2 (e.trans e2) hl hv, fun v H3 e3 rv => q v H3 (e2.trans e3) rv⟩
theorem zd_ar {f : Rat → Rat → Rat} {g : Gm} {H : Hp} {ta tb : TE} {W : XK} {q : D → Hp → Prop} (h : Zd K ta g H fun d1 H1 => Zd K tb g H1 fun d2 H2 => ∃ x y, d1 = dq x ∧ d2 = dq y ∧ Bd x y ∧ ∀ H3, Same H2 H3 → q (dq (f x y)) H3) : Zd K (tCall (spP K (r_ar f)) [] W (tCons ta (tCons tb tNil))) g H q :=
  zd_call (za_cons fun s ty Q k => h s ty Q fun v d1 H1 e r z => k v d1 H1 e r (za_cons fun s ty Q k => z s ty Q fun v d2 H2 e r ⟨x, y, e1, e2, b, w⟩ => k v d2 H2 e r (za_nil ⟨_, ⟨x, y, by rw [e1, e2], b, rfl⟩, w⟩)))
def r_drow (K : PySem.W.Frag) : Hp → List D → (D → Hp → Prop) → Prop := fun H ds q => ∃ a, ds = [.ref a] ∧ HandOk a H ∧ ∀ p us r H', H' p = some (.lst us) → RpL K H' us ((r : List Rat).map dq) → 2 ≤ r.length → r.length ≤ 5 → (∀ q ∈ r, bt q ≤ 200) → HandOk a H' → ¬ InH a H' p → q (.ref p) H'
theorem ok_law_drawn_row (T : TX K mg) : Cal P w K mg base CX0 5 "_law_drawn_row" ["_law_hand_here"] (spH K (r_drow K)) := by
  refine cal_hand (f_law_drawn_row T) (g_law_drawn_row T) sc_law_drawn_row bd_law_drawn_row (fun H ds d ⟨_, e, _⟩ => by rw [e]; rfl) fun cdv A outer s H E hr => ⟨_, (pss_cons (ps_set (i := 1) sc_law_drawn_row.nd rfl (by first | exact Or.inl rfl | exact Or.inr rfl) (pe_op op_add pe_int (pe_cal (ok_law_take T) (hr.mono (by decide)) rfl pass0 (pa_cons (pv 0) (pa_cons pe_int pa_nil)))))
      (pss_cons (ps_setLc (i := 2) (own := [("_law_k", 3)]) rfl sc_law_drawn_row.nd rfl rfl (sw_true rfl rfl rfl (by decide +kernel)) (pi_range1 rfl (n_range T) (pa_cons (pe_op op_add (pv 1) pe_int) pa_nil)) (blkOk_by (own := [("_law_k", 3)]) (N := ["_law_hand_here", "_law_n", "_law_row_here", "_law_k", "_law_way", "_law_rest", "_law_number"]) (sc := defScope s_law_drawn_row) (by decide +kernel)) (fun _ _ _ _ _ => pg_name (i := 3) sc_law_drawn_row.nd rfl (Or.inl rfl)) (fun _ _ _ _ _ => pts_nil) (fun _ _ _ _ _ => (pe_cal (ok_law_wide T) (hr.mono (by decide)) rfl pass0 (pa_cons (pv 0) pa_nil))))
      (pss_cons (ps_set (i := 4) sc_law_drawn_row.nd rfl (by first | exact Or.inl rfl | exact Or.inr rfl) (pe_cal (ok_law_take T) (hr.mono (by decide)) rfl pass0 (pa_cons (pv 0) (pa_cons pe_int pa_nil))))
      (pss_cons (ps_set (i := 3) sc_law_drawn_row.nd rfl (by first | exact Or.inl rfl | exact Or.inr rfl) (pe_cal (ok_law_take T) (hr.mono (by decide)) rfl pass0 (pa_cons (pv 0) (pa_cons (pe_op op_add (pv 1) pe_int) pa_nil))))
      (pss_cons (ps_set (i := 5) sc_law_drawn_row.nd rfl (by first | exact Or.inl rfl | exact Or.inr rfl) (pe_cal (ok_law_less T) (hr.mono (by decide)) rfl pass0 (pa_cons (pe_cal (ok_law_sum T) (hr.mono (by decide)) rfl pass0 (pa_cons (pe_lc (own := [("_law_number", 6)]) rfl sc_law_drawn_row.nd (pi_list (pv 2)) (blkOk_by (own := [("_law_number", 6)]) (N := ["_law_hand_here", "_law_n", "_law_row_here", "_law_k", "_law_way", "_law_rest", "_law_number"]) (sc := defScope s_law_drawn_row) (by decide +kernel)) (fun _ _ _ _ _ => pg_name (i := 6) sc_law_drawn_row.nd rfl (Or.inl rfl)) (fun _ _ _ _ _ => pts_nil) (fun _ _ _ _ _ => (pe_cal (ok_law_size T) (hr.mono (by decide)) rfl pass0 (pa_cons (pv 6) pa_nil)))) pa_nil)) (pa_cons (pe_cal (ok_law_size T) (hr.mono (by decide)) rfl pass0 (pa_cons (pe_ix (r := rIxL K) ix_list (pv 2) (pv 3) (fun _ _ => rfl)) pa_nil)) pa_nil))))
      (pss_cons (ps_if (pt_cmpR op_eq (pv 4) pe_int (nomark _)) (pss_one (ps_asg (pv 5) (pg_sub (pv 2) (pv 3) set_list))) pss_nil)
      (pss_cons (ps_if (pt_cmpR op_eq (pv 4) pe_int (nomark _)) (pss_one (ps_asg (pe_cal (ok_law_times T) (hr.mono (by decide)) rfl pass0 (pa_cons (pe_tup (pa_cons (pe_un un_neg pe_int) (pa_cons pe_int pa_nil))) (pa_cons (pe_cal (ok_law_plus T) (hr.mono (by decide)) rfl pass0 (pa_cons (pv 5) (pa_cons (pe_cal (ok_law_wide T) (hr.mono (by decide)) rfl pass0 (pa_cons (pv 0) pa_nil)) pa_nil))) pa_nil))) (pg_sub (pv 2) (pv 3) set_list))) pss_nil)
      (pss_one (ps_ret (pv 2)))))))))), ?_⟩
  rintro H ds q ⟨a, rfl, ok, hq⟩
  refine sd_seq (sd_asgZ (zd_I0 (zd_of yd_int fun H0 e0 => ⟨1, rfl, zd_take (yd_var rfl) yd_int (ok.same e0) fun i H1 p1 p2 p3 ok1 => ⟨i, rfl, ?_⟩⟩)))
  have hr1 : Hr a H H1 := (Hr.same ok e0).trans p3
  obtain ⟨n, rfl⟩ : ∃ n : Nat, i = n := ⟨i.toNat, by omega⟩
  refine sd_seq (sd_asgZl (zl_draws (Pd := PQ 21) (m := 1 + (n : Int) + 1) (ya_cons (yd_I0 (yd_var (d := .int (1 + (n : Int))) rfl) yd_int) ya_nil) (by omega) ok1 (fun j H' ok2 => zd_h (Pd := PQ 21) (yd_var rfl) ok2 fun d H3 pd h3 ok3 => ⟨pd, h3, ok3⟩) fun p ds H2 hl pq h2 ok2 np us hlp hvp => ?_))
  obtain ⟨r, rfl, hb⟩ := PQ.all pq
  rw [List.length_map] at hl
  have rl : r.length = n + 2 := by omega
  clear hl pq
  have hr2 := hr1.trans h2
  refine sd_seq (sd_asgZ (zd_take (yd_var rfl) yd_int ok2 fun way H3 w1 w2 h3 ok3 => ?_))
  obtain ⟨hl3, np3⟩ := h3 p _ hlp np
  have hv3 := hvp.mono (Hr.kp ok2 h3)
  have hr3 := hr2.trans h3
  refine sd_seq (sd_asgZ (zd_take (many := 1 + (n : Int) + 1) (yd_var rfl) (yd_I0 (yd_var (d := .int (1 + (n : Int))) rfl) yd_int) ok3 (fun k H4 k1 k2 h4 ok4 => ?_) (by omega) (by omega)))
  obtain ⟨hl4, np4⟩ := h4 p _ hl3 np3
  have hv4 := hv3.mono (Hr.kp ok3 h4)
  have hr4 := hr3.trans h4
  obtain ⟨k, rfl⟩ : ∃ c : Nat, k = c := ⟨k.toNat, by omega⟩
  have hk : k < r.length := by omega
  have hqk : (r.map dq)[k]? = some (dq (r.getD k 0)) := by
    rw [List.getElem?_map, List.getElem?_eq_getElem hk, List.getD_eq_getElem?_getD, List.getElem?_eq_getElem hk]
    rfl
  have bk : bt (r.getD k 0) ≤ 21 := hb _ (getD_mem hk)
  have wr := wtR_le hb
  have wa := wtR_abs r
  have bs := bt_sumq (absR r)
  have bkk := bt_abs (r.getD k 0)
  have w5 : wtR r ≤ 110 := Nat.le_trans wr (by rw [rl]; omega)
  have br := bt_sub (sumq (absR r)) (r.getD k 0).abs
  refine sd_seq (sd_asg (R := Same) (d := dq (sumq (absR r) - (r.getD k 0).abs)) (Same.refl _) (yd_ar (yd_callNew (ds := (absR r).map dq) (yl_lc (n := (r.map dq).length) (es := (absR r).map dq) (yi_list (yd_var rfl) hl4 hv4) (fun i hi => tg_name) (by rw [List.length_map]; omega) (by unfold absR; simp) (fun i d hd H5 e5 => ?_)) fun p2 us2 H5 e5 hl5 hv5 => ⟨p2, us2, absR r, rfl, hl5, hv5, by omega, rfl⟩) (yd_size (yd_ixL (yd_var rfl) (yd_var (d := .int (k : Int)) rfl) (fun H5 e5 => ⟨e5 _ _ hl4, hv4.mono e5⟩) (atI_nat hqk))) ?_) fun H5 e5 => ?_)
  · obtain ⟨q, hq2, rfl⟩ := dqs_at hd
    have hi : i < r.length := by
      have := (List.getElem?_eq_some_iff.mp hq2).1
      unfold absR at this
      simpa using this
    rw [getD_abs r i hi] at hq2
    cases hq2
    exact yd_size ((yd_var (d := (r.map dq).getD i .non) rfl).is (dqs_getD hi))
  · show bt _ + bt _ ≤ 9000
    omega
  have hl6 := e5 _ _ hl4
  have hv6 := hv4.mono e5
  have ok6 := ok4.same e5
  have hr6 := hr4.trans (Hr.same ok4 e5)
  have np6 := ((Hr.same ok4 e5) p _ hl4 np4).2
  have hb2 : ∀ q ∈ r, bt q ≤ 200 := fun q hq => Nat.le_trans (hb q hq) (by decide)
  generalize hrest : sumq (absR r) - (r.getD k 0).abs = rest at br ⊢
  have brest : bt rest ≤ 140 := by omega
  have bdrest : ∀ {x : Rat}, bt x ≤ 1000 → Bd rest x := fun {x} h => by show bt rest + bt x ≤ 9000; omega
  have fin : ∀ {H7 : Hp} {us7 : List V} {r7 : List Rat} {o : Option D}, Kp H H7 → H7 p = some (.lst us7) → RpL K H7 us7 (r7.map dq) → r7.length = n + 2 → (∀ q ∈ r7, bt q ≤ 200) → HandOk a H7 → ¬ InH a H7 p → ∀ H8, Same H7 H8 → Kp H H8 ∧ q (.ref p) H8 := fun {H7 us7 r7 o} h1 h2 h3 h4 h5 h6 h7 H8 e8 =>
    ⟨h1.trans (Kp.of e8), hq p us7 r7 H8 (e8 _ _ h2) (h3.mono e8) (by omega) (by omega) h5 (h6.same e8) ((Hr.same h6 e8) p _ h2 h7).2⟩
  have kk : Kp H H5 := Hr.kp ok hr6
  have np5 : ¬ InH a H5 p := np6
  refine sd_seq (sd_if (R := Same) (Same.refl _) (yt_test (yd_eqI (yd_var (d := .int way) rfl) yd_int)) (fun z H7 e7 => ?_) fun z H7 e7 => sd_next ?_)
  · refine sd_setL (a := p) (vs := us) (ds := r.map dq) (d := dq rest) (j := k) (k := (k : Int)) (yd_var (d := dq rest) rfl) (yd_var rfl) (yd_var rfl) (e7 _ _ hl6) (hv6.mono e7) (ixN_nat (by rw [List.length_map]; exact hk)) fun H8 u8 mu8 hl8 hv8 => ?_
    rw [← List.map_set] at hv8
    obtain ⟨ok8, z8⟩ := Hr.mu (ok6.same e7) mu8 ((Hr.same ok6 e7) p _ hl6 np5).2 ⟨_, hl8⟩
    have np8 := InH.mu (ok6.same e7) mu8 ((Hr.same ok6 e7) p _ hl6 np5).2
    have zz : way = 0 := of_decide_eq_true z
    refine sd_seq (sd_ifF (R := Same) (Same.refl _) (yt_test (yd_eqI (yd_var (d := .int way) rfl) yd_int)) (fun H9 e9 => sd_next ?_) (by rw [zz]; rfl))
    exact sd_ret (R := Same) (Same.refl _) (yd_var (d := .ref p) rfl) (fin (o := none) ((kk.trans (Kp.of e7)).trans ((Kp.mu mu8 (e7 _ _ hl6)).trans (Kp.of e9))) (e9 _ _ hl8) (hv8.mono e9) (by rw [List.length_set]; exact rl) (mem_setR hb2 (by omega)) (ok8.same e9) ((Hr.same ok8 e9) p _ hl8 np8).2)
  · have hl7 := e7 _ _ hl6
    have hv7 := hv6.mono e7
    have ok7 := ok6.same e7
    have np7 := ((Hr.same ok6 e7) p _ hl6 np5).2
    have kk7 := kk.trans (Kp.of e7)
    refine sd_seq (sd_if (R := Same) (Same.refl _) (yt_test (yd_eqI (yd_var (d := .int way) rfl) yd_int)) (fun z H8 e8 => ?_) fun z H8 e8 => sd_next ?_)
    · have ok8 := ok7.same e8
      refine sd_setZ (zd_ar (zd_of (yd_qn (q := -1)) fun H9 e9 => zd_ar (zd_of (yd_var (d := dq rest) rfl) fun H10 e10 => zd_h (Pd := PQ 21) (yd_var rfl) (ok8.same (e9.trans e10)) fun d H11 pd h11 ok11 => ?_)))
      obtain ⟨x, rfl, bx⟩ := pd
      have ba := bt_add rest x
      have bm := bt_mul (-1) (rest + x)
      have b1 : bt (-1) ≤ 10 := by decide +kernel
      refine ⟨rest, x, rfl, rfl, bdrest (by omega), fun H12 e12 => ⟨-1, rest + x, rfl, rfl, by show bt _ + bt _ ≤ 9000; omega, fun H13 e13 => ?_⟩⟩
      obtain ⟨hl11, np11⟩ := ((Hr.same ok7 (e8.trans (e9.trans e10))).trans h11) p _ hl7 np7
      have k711 : Kp H7 H11 := Hr.kp ok7 ((Hr.same ok7 (e8.trans (e9.trans e10))).trans h11)
      have e13' := e12.trans e13
      refine ⟨p, (k : Int), k, us, r.map dq, yd_var rfl, yd_var rfl, e13' _ _ hl11, (hv7.mono k711).mono e13', ixN_nat (by rw [List.length_map]; exact hk), fun H14 u14 mu14 hl14 hv14 => ?_⟩
      rw [← List.map_set] at hv14
      have ok13 := ok11.same e13'
      have np13 := ((Hr.same ok11 e13') p _ hl11 np11).2
      obtain ⟨ok14, z14⟩ := Hr.mu ok13 mu14 np13 ⟨_, hl14⟩
      exact sd_ret (R := Same) (Same.refl _) (yd_var (d := .ref p) rfl) (fin (o := none) (kk7.trans (k711.trans ((Kp.of e13').trans (Kp.mu mu14 (e13' _ _ hl11))))) hl14 hv14 (by rw [List.length_set]; exact rl) (mem_setR hb2 (by omega)) ok14 (InH.mu ok13 mu14 np13))
    · exact sd_ret (R := Same) (Same.refl _) (yd_var (d := .ref p) rfl) (fin (o := none) (kk7.trans (Kp.of e8)) (e8 _ _ hl7) (hv7.mono e8) rl hb2 (ok7.same e8) ((Hr.same ok7 e8) p _ hl7 np7).2)
end K19
set_option maxHeartbeats 4000000
set_option exponentiation.threshold 20000
namespace K19
open PySem PySem.Spec PyProof.Rows L2
variable {P : Program} {w : World} {K : PySem.W.Frag} {mg : Str → Option Value} {base : Heap}
theorem sc_law_world : FnScope ["_law_hand_here", "_law_many", "_law_n", "_law_row_here", "_law_k", "_law_other", "_law_bars", "_law_host"] ["_law_hand_here"] (defScope s_law_world) := ⟨rfl, rfl, rfl, by decide +kernel, rfl, by decide +kernel, by decide +kernel⟩
theorem bd_law_world : Bnd "_law_world" "_law_world" s_law_world ["_law_hand_here"] := fun _ _ _ _ _ _ us hl => match us, hl with | [_], _ => rfl
section
variable {g : Gm} {H : Hp} {a : Addr} {ta tb te : TE} {ti : TI} {ds : List D} {q : D → Hp → Prop} {W : XK} {E : En}
theorem InH.new' {p : Addr} {H1 : Hp} (ok : HandOk a H) (hp : H p = none) (e : Same H H1) : ¬ InH a H1 p := fun w => by
  obtain ⟨gl, cs, m, z, hh⟩ := ok
  rw [(hh.same e).in_] at w
  rcases w with w | w
  · rw [w, hh.1] at hp; cases hp
  · rw [w, hh.2.1] at hp; cases hp
/-- draws, one by one, into a new list; each of its own kind -/
theorem zl_drawsI {Pd : Nat → D → Prop} {tr : TA} {m : Int} {j : Nat} {q : Addr → List D → Hp → Prop} (h : Ya Same K tr g H [.int m]) (hm : 0 ≤ m ∧ m ≤ 1000) (ok : HandOk a H)
    (he : ∀ (i : Nat) H', HandOk a H' → Zd K te ((wipeG g [j]).set j (some (.int (i : Int)))) H' fun d H1 => Pd i d ∧ Hr a H' H1 ∧ HandOk a H1)
    (hq : ∀ p ds H', ds.length = m.toNat → (∀ i d, ds[i]? = some d → Pd i d) → Hr a H H' → HandOk a H' → ¬ InH a H' p → q p ds H') : Zl K (tLc (iRng1 tr) (gName j) tYes te [j]) g H q := by
  refine zl_lc (yk_range1 h (by omega)) (fun i hi => tg_name) (by omega) (fun p i ds H' => ds.length = i ∧ (∀ i d, ds[i]? = some d → Pd i d) ∧ Hr a H H' ∧ HandOk a H' ∧ ¬ InH a H' p ∧ H p = none) ?_ ?_ ?_
  · intro H1 p e hp
    have hp0 := e.free hp
    have e2 : Same H (L2.upd H1 p (.lst [])) := e.trans (Same.new hp)
    exact ⟨rfl, (fun i d h => by cases h), Hr.same ok e2, ok.same e2, InH.mu (ok.same e) Mu.upd (InH.new (ok.same e) hp), hp0⟩
  · rintro p i ds H0 us H' hi ⟨h1, h2, h3, h4, h5, h6⟩ hl e
    have ok' := h4.same e
    have np : ¬ InH a H' p := ((Hr.same h4 e) p _ hl h5).2
    intro s ty Q k
    refine he i H' ok' s ty Q fun v d H1 k1 rv ⟨pd, hr1, ok1⟩ => k v d H1 k1 rv ?_
    obtain ⟨hl1, np1⟩ := hr1 p _ (e _ _ hl) np
    refine ⟨hl1, fun H2 mu ⟨l, hl2⟩ => ?_⟩
    obtain ⟨ok2, z⟩ := Hr.mu ok1 mu np1 ⟨_, hl2⟩
    refine ⟨by rw [List.length_append, h1]; rfl, fun i' d' hd => ?_, fun x o hx nx => ?_, ok2, InH.mu ok1 mu np1, h6⟩
    · by_cases hlt : i' < ds.length
      · rw [List.getElem?_append_left hlt] at hd
        exact h2 i' d' hd
      · rw [List.getElem?_append_right (by omega)] at hd
        have e0 : i' - ds.length = 0 := by
          have := (List.getElem?_eq_some_iff.mp hd).1
          simp at this
          omega
        rw [e0] at hd
        cases hd
        have : i' = i := by omega
        rw [this]
        exact pd
    · have xp : x ≠ p := fun w => by rw [w, h6] at hx; cases hx
      have := h3.trans ((Hr.same h4 e).trans hr1) x o hx nx
      exact z x o xp this.1 this.2
  · rintro p ds H' ⟨h1, h2, h3, h4, h5, _⟩
    exact hq p ds H' h1 h2 h3 h4 h5
/-- one of a written list's items, drawn -/
theorem zd_ixTake {m : Int} (h : Yl Same K ta g H ds) (hg : g[0]? = some (some (.ref a))) (ok : HandOk a H) (hm : m = ds.length) (hq : ∀ (i : Nat) x H', ds[i]? = some x → Hr a H H' → HandOk a H' → q x H') (h0 : 0 < m := by decide) (h1 : m < 2 ^ 60 := by decide) :
    Zd K (tOp (rIxL K) ta (tCall (spH K r_takeH) [] W (tCons (tVar 0) (tCons (tC (.int m)) tNil)))) g H q := fun s ty Q k =>
  h s H (Same.refl _) ty _ fun p us H1 hp e1 hl hv => zd_take (q := fun d H2 => ∃ i : Nat, d = .int (i : Int) ∧ i < ds.length ∧ Hr a H1 H2 ∧ HandOk a H2) (yd_var hg) yd_int (ok.same e1) (fun i H2 p1 p2 p3 p4 => ⟨i.toNat, by rw [Int.toNat_of_nonneg p1], by omega, p3, p4⟩) h0 h1 s (ty.mono e1) _ fun v d H2 k2 rv ⟨i, ed, hi, hr, ok2⟩ => by
    subst ed
    cases rv
    have np : ¬ InH a H1 p := fun w => by
      obtain ⟨gl, cs, m, z, hh⟩ := ok
      have h2 : HandAt a H1 gl cs m z := ⟨e1 _ _ hh.1, e1 _ _ hh.2.1, hh.2.2⟩
      rw [h2.in_] at w
      rcases w with w | w
      · rw [w, hh.1] at hp; cases hp
      · rw [w, hh.2.1] at hp; cases hp
    obtain ⟨hl2, _⟩ := hr p _ hl np
    obtain ⟨v, hv2, rv⟩ := hv.get (i := i) (List.getElem?_eq_getElem hi)
    refine ⟨p, us, (i : Int), v, rfl, rfl, SqL.of hl2, atI_nat hv2, k v _ H2 ((Kp.of e1).trans k2) (rv.mono k2) ?_⟩
    exact hq i _ H2 (List.getElem?_eq_getElem hi) ((Hr.same ok e1).trans hr) ok2
/-- min(i, j) -/
theorem zd_min2 {tr : TA} (h : Za K tr g H fun ds H1 => ∃ i j, ds = [.int i, .int j] ∧ q (.int (if j < i then j else i)) H1) : Zd K (tCB (fun xs H Q => ∃ i j, xs = [.int i, .int j] ∧ Q (.int (if j < i then j else i)) H) tr) g H q := fun s ty Q k =>
  h s ty _ fun vs ds H1 e rs ⟨i, j, ed, z⟩ => by
    subst ed
    cases rs with
    | cons r1 l =>
      cases l with
      | cons r2 l =>
        cases l
        cases r1
        cases r2
        exact ⟨i, j, rfl, k _ _ H1 e .int z⟩
/-- xs[k], xs[l] = (x, y) -/
theorem sd_two {to ti ti2 : TE} {x y : D} {p : Addr} {us : List V} {k l : Int} {i j : Nat} (h : Yd Same K te g H (.tup [x, y])) (hf : ∀ H1, Kp H H1 → Yd Same K to g H1 (.ref p)) (hi : ∀ H1, Kp H H1 → Yd Same K ti g H1 (.int k)) (hj : ∀ H1, Kp H H1 → Yd Same K ti2 g H1 (.int l))
    (hl : H p = some (.lst us)) (hv : RpL K H us ds) (ki : ixN ds.length k = some i) (kj : ixN ds.length l = some j) (q : ∀ H' us', Mu p H H' → H' p = some (.lst us') → RpL K H' us' ((ds.set i x).set j y) → E.nx g H') :
    Sd K (tAsg te (gTup K 2 (gCons (gSub to ti rSetL) (gCons (gSub to ti2 rSetL) gNil)))) g H E := fun s Z ty fz =>
  h s H (Same.refl _) ty _ fun v H1 e1 rv => by
    cases rv with
    | tup hs l =>
      rename_i b ws
      cases l with
      | cons r1 l =>
        cases l with
        | cons r2 l =>
          cases l
          rename_i u1 u2
          refine ⟨b, _, rfl, hs, rfl, _, _, rfl, ?_⟩
          refine hf H1 (Kp.of e1) s H1 (Same.refl _) (ty.mono e1) _ fun o H2 e2 ro => hi H1 (Kp.of e1) s H2 e2 ((ty.mono e1).mono e2) _ fun iv H3 e3 ri => ?_
          cases ro
          cases ri
          have e := e1.trans (e2.trans e3)
          have hl3 := e _ _ hl
          have m1 : Kp H3 (L2.upd H3 p (.lst (us.set i u1))) := Kp.upd hl3
          refine ⟨p, us, k, i, rfl, rfl, hl3, by rw [hv.length]; exact ki, _, _, rfl, ?_⟩
          have k4 := (Kp.of e).trans m1
          refine hf _ k4 s _ (Same.refl _) (ty.kp k4) _ fun o H5 e5 ro => hj _ k4 s H5 e5 ((ty.kp k4).mono e5) _ fun iv H6 e6 ri => ?_
          cases ro
          cases ri
          have e56 := e5.trans e6
          have hl6 : H6 p = some (.lst (us.set i u1)) := e56 _ _ upd_same
          have m2 : Kp H6 (L2.upd H6 p (.lst ((us.set i u1).set j u2))) := Kp.upd hl6
          refine ⟨p, _, l, j, rfl, rfl, hl6, by rw [List.length_set, hv.length]; exact kj, rfl, ?_⟩
          have kk := k4.trans ((Kp.of e56).trans m2)
          refine fz.nx _ _ _ (ty.kp kk) (q _ _ ((Mu.of e).trans (Mu.upd.trans ((Mu.of e56).trans Mu.upd))) upd_same ?_)
          have k13 : Kp H1 _ := (Kp.of (e2.trans e3)).trans (m1.trans ((Kp.of e56).trans m2))
          exact ((hv.mono kk).set i (r1.mono k13)).set j (r2.mono k13)
end
/-- the letters of a world's bars -/
def Lets (n : Nat) (row : List Int) : Prop := (∀ x ∈ row, 0 ≤ x ∧ x ≤ n) ∧ ∀ k : Nat, 1 ≤ k → k ≤ n → (k : Int) ∈ row
theorem Lets.perm {n : Nat} {r r' : List Int} (h : Lets n r) (p : r'.Perm r) : Lets n r' := ⟨fun x hx => h.1 x (p.mem_iff.mp hx), fun k a b => p.mem_iff.mpr (h.2 k a b)⟩
def r_world : Hp → List D → (D → Hp → Prop) → Prop := fun H ds q => ∃ a, ds = [.ref a] ∧ HandOk a H ∧ ∀ bs n H', GoodBars bs n → (∀ b ∈ bs, bt b.mark ≤ 21) → HandOk a H' → q (dBars bs) H'
theorem ok_law_world (T : TX K mg) : Cal P w K mg base CX0 5 "_law_world" ["_law_hand_here"] (spH K r_world) := by
  refine cal_hand (f_law_world T) (g_law_world T) sc_law_world bd_law_world (fun H ds d ⟨_, e, _⟩ => by rw [e]; rfl) fun cdv A outer s H E hr => ⟨_, (pss_cons (ps_set (i := 1) sc_law_world.nd rfl (by first | exact Or.inl rfl | exact Or.inr rfl) (pe_ix (r := rIxL K) ix_list (pe_lst (pa_cons pe_int (pa_cons pe_int (pa_cons pe_int (pa_cons pe_int (pa_cons pe_int (pa_cons pe_int (pa_cons pe_int (pa_cons pe_int pa_nil))))))))) (pe_cal (ok_law_take T) (hr.mono (by decide)) rfl pass0 (pa_cons (pv 0) (pa_cons pe_int pa_nil))) (fun _ _ => rfl)))
      (pss_cons (ps_set (i := 2) sc_law_world.nd rfl (by first | exact Or.inl rfl | exact Or.inr rfl) (pe_callB (call_min2 rfl) rfl (n_min T) bo_min (pa_cons (pv 1) (pa_cons (pe_ix (r := rIxL K) ix_list (pe_lst (pa_cons pe_int (pa_cons pe_int (pa_cons pe_int (pa_cons pe_int (pa_cons pe_int (pa_cons pe_int (pa_cons pe_int (pa_cons pe_int pa_nil))))))))) (pe_cal (ok_law_take T) (hr.mono (by decide)) rfl pass0 (pa_cons (pv 0) (pa_cons pe_int pa_nil))) (fun _ _ => rfl)) pa_nil))))
      (pss_cons (ps_setLc (i := 3) (own := [("_law_k", 4)]) rfl sc_law_world.nd rfl rfl (sw_true rfl rfl rfl (by decide +kernel)) (pi_range1 rfl (n_range T) (pa_cons (pv 1) pa_nil)) (blkOk_by (own := [("_law_k", 4)]) (N := ["_law_hand_here", "_law_many", "_law_n", "_law_row_here", "_law_k", "_law_other", "_law_bars", "_law_host"]) (sc := defScope s_law_world) (by decide +kernel)) (fun _ _ _ _ _ => pg_name (i := 4) sc_law_world.nd rfl (Or.inl rfl)) (fun _ _ _ _ _ => pts_nil) (fun _ _ _ _ _ => (pe_ifExp (pt_cmpR op_lt (pv 4) (pv 2) (nomark _)) (pe_op op_add (pv 4) pe_int) (pe_cal (ok_law_take T) (hr.mono (by decide)) rfl pass0 (pa_cons (pv 0) (pa_cons (pe_op op_add (pv 2) pe_int) pa_nil))))))
      (pss_cons (ps_for PassesOwn.never rfl (pi_range3 rfl (n_range T) (pa_cons (pe_op op_sub (pv 1) pe_int) (pa_cons pe_int (pa_cons (pe_un un_neg pe_int) pa_nil)))) (pg_name (i := 4) sc_law_world.nd rfl (by first | exact Or.inl rfl | exact Or.inr rfl)) (pss_cons (ps_set (i := 5) sc_law_world.nd rfl (by first | exact Or.inl rfl | exact Or.inr rfl) (pe_cal (ok_law_take T) (hr.mono (by decide)) rfl pass0 (pa_cons (pv 0) (pa_cons (pe_op op_add (pv 4) pe_int) pa_nil))))
      (pss_one (ps_asg (pe_tup (pa_cons (pe_ix (r := rIxL K) ix_list (pv 3) (pv 5) (fun _ _ => rfl)) (pa_cons (pe_ix (r := rIxL K) ix_list (pv 3) (pv 4) (fun _ _ => rfl)) pa_nil))) (pg_tup (n := 2) rfl (pgs_cons (pg_sub (pv 3) (pv 4) set_list) (pgs_cons (pg_sub (pv 3) (pv 5) set_list) pgs_nil)))))))
      (pss_cons (ps_set (i := 6) sc_law_world.nd rfl (by first | exact Or.inl rfl | exact Or.inr rfl) (pe_lst pa_nil))
      (pss_cons (ps_for PassesOwn.never rfl (pi_range1 rfl (n_range T) (pa_cons (pv 1) pa_nil)) (pg_name (i := 4) sc_law_world.nd rfl (by first | exact Or.inl rfl | exact Or.inr rfl)) (pss_cons (ps_set (i := 7) sc_law_world.nd rfl (by first | exact Or.inl rfl | exact Or.inr rfl) (pe_ifExp (pt_cmpR op_eq (pe_cal (ok_law_take T) (hr.mono (by decide)) rfl pass0 (pa_cons (pv 0) (pa_cons pe_int pa_nil))) pe_int (nomark _)) (pe_op op_sub (pv 4) pe_int) (pe_op op_sub (pe_cal (ok_law_take T) (hr.mono (by decide)) rfl pass0 (pa_cons (pv 0) (pa_cons (pe_op op_add (pv 4) pe_int) pa_nil))) pe_int)))
      (pss_one (ps_expr (pe_bm PySem.F.plainAttrs_list PySem.F.slot_list_append PySem.F.type_list_append mt_append (pv 6) (pa_cons (pe_tup (pa_cons (pv 7) (pa_cons (pe_cal (ok_law_wide T) (hr.mono (by decide)) rfl pass0 (pa_cons (pv 0) pa_nil)) (pa_cons (pe_ix (r := rIxL K) ix_list (pv 3) (pv 4) (fun _ _ => rfl)) pa_nil)))) pa_nil))))))
      (pss_one (ps_ret (pe_callTy (r := rTupOf K) call_tuple_of rfl (n_tuple T) bo_tuple (pa_cons (pv 6) pa_nil)))))))))), ?_⟩
  rintro H ds q ⟨a, rfl, ok, hq⟩
  refine sd_seq (sd_asgZ (zd_ixTake (ds := [.int 2, .int 1, .int 3, .int 2, .int 3, .int 4, .int 3, .int 6]) (yl_lst (ya_cons yd_int (ya_cons yd_int (ya_cons yd_int (ya_cons yd_int (ya_cons yd_int (ya_cons yd_int (ya_cons yd_int (ya_cons yd_int ya_nil))))))))) rfl ok rfl fun i x H1 hx hr1 ok1 => ?_))
  obtain ⟨many, rfl, m1, m6⟩ : ∃ m : Nat, x = .int (m : Int) ∧ 1 ≤ m ∧ m ≤ 6 := by
    rcases i with _ | _ | _ | _ | _ | _ | _ | _ | i <;> cases hx
    · exact ⟨2, rfl, by decide, by decide⟩
    · exact ⟨1, rfl, by decide, by decide⟩
    · exact ⟨3, rfl, by decide, by decide⟩
    · exact ⟨2, rfl, by decide, by decide⟩
    · exact ⟨3, rfl, by decide, by decide⟩
    · exact ⟨4, rfl, by decide, by decide⟩
    · exact ⟨3, rfl, by decide, by decide⟩
    · exact ⟨6, rfl, by decide, by decide⟩
  clear hx
  refine sd_seq (sd_asgZ (zd_min2 (za_cons (zd_of (yd_var (d := .int (many : Int)) rfl) fun H2 e2 => za_cons (zd_ixTake (ds := [.int 2, .int 1, .int 2, .int 3, .int 2, .int 2, .int 3, .int 4]) (yl_lst (ya_cons yd_int (ya_cons yd_int (ya_cons yd_int (ya_cons yd_int (ya_cons yd_int (ya_cons yd_int (ya_cons yd_int (ya_cons yd_int ya_nil))))))))) rfl (ok1.same e2) rfl fun i x H3 hx hr3 ok3 => za_nil ?_)))))
  obtain ⟨n0, rfl, n1, n4⟩ : ∃ m : Nat, x = .int (m : Int) ∧ 1 ≤ m ∧ m ≤ 4 := by
    rcases i with _ | _ | _ | _ | _ | _ | _ | _ | i <;> cases hx
    · exact ⟨2, rfl, by decide, by decide⟩
    · exact ⟨1, rfl, by decide, by decide⟩
    · exact ⟨2, rfl, by decide, by decide⟩
    · exact ⟨3, rfl, by decide, by decide⟩
    · exact ⟨2, rfl, by decide, by decide⟩
    · exact ⟨2, rfl, by decide, by decide⟩
    · exact ⟨3, rfl, by decide, by decide⟩
    · exact ⟨4, rfl, by decide, by decide⟩
  clear hx
  refine ⟨_, _, rfl, ?_⟩
  obtain ⟨n, hn, n1, n4, nm⟩ : ∃ n : Nat, (if (n0 : Int) < (many : Int) then (n0 : Int) else (many : Int)) = (n : Int) ∧ 1 ≤ n ∧ n ≤ 4 ∧ n ≤ many := by
    by_cases h : (n0 : Int) < (many : Int)
    · exact ⟨n0, by rw [if_pos h], n1, n4, by omega⟩
    · exact ⟨many, by rw [if_neg h], m1, by omega, Nat.le_refl _⟩
  rw [hn]
  clear hn
  have hr3' : Hr a H H3 := hr1.trans ((Hr.same ok1 e2).trans hr3)
  refine sd_seq (sd_asgZl (zl_drawsI (Pd := fun i d => ∃ x : Int, d = .int x ∧ 0 ≤ x ∧ x ≤ n ∧ (i < n → x = (i : Int) + 1)) (m := (many : Int)) (ya_cons (yd_var (d := .int (many : Int)) rfl) ya_nil) (by omega) ok3 (fun i H' ok4 => ?_) fun p ds H4 hl pq h4 ok4 np us hlp hvp => ?_))
  · refine zd_if (zt_of (yt_test (yd_cmp (yd_var (d := .int (i : Int)) rfl) (yd_var (d := .int (n : Int)) rfl))) fun H5 e5 => ?_)
    split
    · rename_i h
      have h := of_decide_eq_true h
      exact zd_of (yd_I0 (yd_var (d := .int (i : Int)) rfl) yd_int) fun H6 e6 => ⟨⟨(i : Int) + 1, rfl, by omega, by omega, fun _ => rfl⟩, Hr.same ok4 (e5.trans e6), ok4.same (e5.trans e6)⟩
    · rename_i h
      have h : ¬ ((i : Int) < n) := fun z => h (decide_eq_true z)
      exact zd_take (many := (n : Int) + 1) (yd_var rfl) (yd_I0 (yd_var (d := .int (n : Int)) rfl) yd_int) (ok4.same e5) (fun x H6 x1 x2 h6 ok6 => ⟨⟨x, rfl, x1, by omega, fun z => absurd (by omega) h⟩, (Hr.same ok4 e5).trans h6, ok6⟩) (by omega) (by omega)
  obtain ⟨row, rfl, lets⟩ : ∃ row : List Int, ds = row.map D.int ∧ Lets n row := by
    have all : ∀ (ds : List D), (∀ d ∈ ds, ∃ x : Int, d = .int x) → ∃ row : List Int, ds = row.map D.int := by
      intro ds
      induction ds with
      | nil => exact fun _ => ⟨[], rfl⟩
      | cons d ds ih =>
        intro h
        obtain ⟨x, rfl⟩ := h d List.mem_cons_self
        obtain ⟨row, rfl⟩ := ih fun d hd => h d (List.mem_cons_of_mem _ hd)
        exact ⟨x :: row, rfl⟩
    obtain ⟨row, rfl⟩ := all ds fun d hd => by
      obtain ⟨i, hi⟩ := List.getElem?_of_mem hd
      obtain ⟨x, e, _⟩ := pq i d hi
      exact ⟨x, e⟩
    rw [List.length_map] at hl
    refine ⟨row, rfl, fun x hx => ?_, fun k k1 k2 => ?_⟩
    · obtain ⟨i, hi⟩ := List.getElem?_of_mem hx
      obtain ⟨y, e, y0, y1, _⟩ := pq i (.int x) (by rw [List.getElem?_map, hi]; rfl)
      cases e
      exact ⟨y0, y1⟩
    · have hlt : k - 1 < row.length := by omega
      obtain ⟨y, e, _, _, y2⟩ := pq (k - 1) (.int row[k - 1]) (by rw [List.getElem?_map, List.getElem?_eq_getElem hlt]; rfl)
      cases e
      have : row[k - 1] = (k : Int) := by
        rw [y2 (by omega)]
        omega
      rw [← this]
      exact List.getElem_mem hlt
  rw [List.length_map] at hl
  have rl : row.length = many := by omega
  clear hl pq
  have k4 : Kp H H4 := Hr.kp ok (hr3'.trans h4)
  refine sd_seq (sd_forR3 (lo := (many : Int) - 1) (hi := 0) (c := -1) (ya_cons (yd_I0 (yd_var (d := .int (many : Int)) rfl) yd_int) (ya_cons yd_int (ya_cons (yd_neg yd_int) ya_nil))) (RgC.neg (by omega) (by omega) (by decide) (by decide))
    (fun _ g' H' => ∃ (o4 o5 : Option D) (us : List V) (row : List Int), g' = [some (.ref a), some (.int (many : Int)), some (.int (n : Int)), some (.ref p), o4, o5, none, none] ∧ row.length = many ∧ Lets n row ∧ H' p = some (.lst us) ∧ RpL K H' us (row.map D.int) ∧ HandOk a H' ∧ ¬ InH a H' p ∧ Kp H H') (fun H5 e5 => ⟨_, _, us, row, rfl, rl, lets, e5 _ _ hlp, hvp.mono e5, ok4.same e5, ((Hr.same ok4 e5) p _ hlp np).2, k4.trans (Kp.of e5)⟩) ?_ ?_)
  · rintro i g' H5 hi ⟨o4, o5, us, row, rfl, rl, lets, hlp, hvp, ok5, np5, k5⟩
    obtain ⟨k, hk, hk2⟩ : ∃ k : Nat, (many : Int) - 1 + (i : Int) * -1 = (k : Int) ∧ k < many := ⟨((many : Int) - 1 - i).toNat, by omega, by omega⟩
    rw [hk]
    refine sd_seq (sd_asgZ (zd_take (many := (k : Int) + 1) (yd_var rfl) (yd_I0 (yd_var (d := .int (k : Int)) rfl) yd_int) ok5 (fun o H6 o1 o2 h6 ok6 => ?_) (by omega) (by omega)))
    obtain ⟨o, rfl⟩ : ∃ c : Nat, o = c := ⟨o.toNat, by omega⟩
    obtain ⟨hl6, np6⟩ := h6 p _ hlp np5
    have hv6 := hvp.mono (Hr.kp ok5 h6)
    have lk : k < row.length := by omega
    have lo : o < row.length := by omega
    have at_ : ∀ {j : Nat} (h : j < row.length), atI (row.map D.int) (j : Int) = some (.int row[j]) := fun {j} h => atI_nat (by rw [List.getElem?_map, List.getElem?_eq_getElem h]; rfl)
    refine sd_two (x := .int row[o]) (y := .int row[k]) (p := p) (k := (k : Int)) (l := (o : Int)) (i := k) (j := o) (yd_tup (ya_cons (yd_ixL (yd_var rfl) (yd_var (d := .int (o : Int)) rfl) (fun H7 e7 => ⟨e7 _ _ hl6, hv6.mono e7⟩) (at_ lo)) (ya_cons (yd_ixL (yd_var rfl) (yd_var (d := .int (k : Int)) rfl) (fun H7 e7 => ⟨e7 _ _ hl6, hv6.mono e7⟩) (at_ lk)) ya_nil))) (fun H7 _ => yd_var rfl) (fun H7 _ => yd_var rfl) (fun H7 _ => yd_var rfl) hl6 hv6 (ixN_nat (by rw [List.length_map]; exact lk)) (ixN_nat (by rw [List.length_map]; exact lo)) fun H7 u7 mu7 hl7 hv7 => ?_
    obtain ⟨ok7, z7⟩ := Hr.mu ok6 mu7 np6 ⟨_, hl7⟩
    rw [← List.map_set, ← List.map_set] at hv7
    exact ⟨_, _, u7, (row.set k row[o]).set o row[k], rfl, by rw [List.length_set, List.length_set]; exact rl, lets.perm (List.set_set_perm lk lo), hl7, hv7, ok7, InH.mu ok6 mu7 np6, k5.trans ((Hr.kp ok5 h6).trans (Kp.mu mu7 hl6))⟩
  clear lets rl hvp hlp k4
  rintro g' H5 ⟨o4, o5, us, row, rfl, rl, lets, hlp, hvp, ok5, np5, k5⟩
  refine sd_seq (sd_asgN (yl_lst ya_nil) fun b ub H6 hb e6 hlb hvb => ?_)
  cases hvb
  have nb : ¬ InH a H6 b := InH.new' ok5 hb e6
  have bp : b ≠ p := fun z => by rw [z, hlp] at hb; cases hb
  refine sd_seq (sd_forR1 (R := Same) (n := (many : Int)) (Same.refl _) (ya_cons (yd_var (d := .int (many : Int)) rfl) ya_nil) (by omega)
    (fun _ i g' H' => ∃ (o4 o7 : Option D) (ub : List V) (bs : List Bar), g' = [some (.ref a), some (.int (many : Int)), some (.int (n : Int)), some (.ref p), o4, o5, some (.ref b), o7] ∧ bs.length = i ∧ i ≤ many ∧ (∀ (j : Nat) (b : Bar), bs[j]? = some b → (-1 ≤ b.host ∧ b.host ≤ (j : Int) - 1) ∧ bt b.mark ≤ 21 ∧ row[j]? = some (b.letter : Int)) ∧ H' b = some (.lst ub) ∧ RpL K H' ub (bs.map dBar) ∧ H' p = some (.lst us) ∧ RpL K H' us (row.map D.int) ∧ HandOk a H' ∧ ¬ InH a H' p ∧ ¬ InH a H' b ∧ Kp H H') (fun H7 e7 => ?_) ?_ ?_)
  · exact ⟨_, _, [], [], rfl, rfl, Nat.zero_le _, (fun j b h => by cases h), e7 _ _ hlb, .nil, e7 _ _ (e6 _ _ hlp), hvp.mono (e6.trans e7), ok5.same (e6.trans e7), ((Hr.same ok5 (e6.trans e7)) p _ hlp np5).2, ((Hr.same (ok5.same e6) e7) b _ hlb nb).2, k5.trans (Kp.of (e6.trans e7))⟩
  · rintro H7 i g' H8 e7 hi ⟨o4, o7, ub, bs, rfl, bl, _, hbs, hlb, hvb, hlp, hvp, ok8, np8, nb8, k8⟩
    have hi : i < many := by omega
    refine sd_seq (sd_asgZ (zd_imp (q' := fun d H9 => ∃ host : Int, d = .int host ∧ -1 ≤ host ∧ host ≤ (i : Int) - 1 ∧ Hr a H8 H9 ∧ HandOk a H9) (zd_if (zt_test (zd_eqI (zd_take (yd_var rfl) yd_int ok8 fun x H9 p1 p2 p3 ok9 => ⟨x, rfl, zd_of yd_int fun H10 e10 => ⟨0, rfl, _, rfl, ?_⟩⟩)))) ?_))
    · have ok10 := ok9.same e10
      have h10 := p3.trans (Hr.same ok9 e10)
      split
      · exact zd_of (yd_I0 (yd_var (d := .int (i : Int)) rfl) yd_int) fun H11 e11 => ⟨(i : Int) - 1, rfl, by omega, by omega, h10.trans (Hr.same ok10 e11), ok10.same e11⟩
      · exact zd_I0 (zd_take (many := (i : Int) + 1) (yd_var rfl) (yd_I0 (yd_var (d := .int (i : Int)) rfl) yd_int) ok10 (fun y H11 y1 y2 h11 ok11 => ⟨y, rfl, zd_of yd_int fun H12 e12 => ⟨1, rfl, y - 1, rfl, by omega, by omega, h10.trans (h11.trans (Hr.same ok11 e12)), ok11.same e12⟩⟩) (by omega) (by omega))
    rintro d H9 ⟨host, rfl, c1, c2, h9, ok9⟩
    obtain ⟨hlb9, nb9⟩ := h9 b _ hlb nb8
    obtain ⟨hlp9, np9⟩ := h9 p _ hlp np8
    have hvb9 := hvb.mono (Hr.kp ok8 h9)
    have hvp9 := hvp.mono (Hr.kp ok8 h9)
    have k9 := k8.trans (Hr.kp ok8 h9)
    refine sd_appZ (a := b) (w := ub) (yd_var rfl) hlb9 fun H10 e10 => zd_tup (za_cons (zd_of (yd_var (d := .int host) rfl) fun H11 e11 => za_cons (zd_h (Pd := PQ 21) (yd_var rfl) (ok9.same (e10.trans e11)) fun x H12 px h12 ok12 => za_cons (zd_of (d := .int (row.getD i 0)) (yd_ixL (a := p) (vs := us) (ds := row.map D.int) (yd_var rfl) (yd_var (d := .int (i : Int)) rfl) (fun H13 e13 => ?_) (atI_nat ?_)) fun H13 e13 => za_nil ⟨(by decide : 3 ≤ 100000), fun H14 e14 => ?_⟩))))
    · obtain ⟨hlp12, np12⟩ := h12 p _ (e10.trans e11 _ _ hlp9) ((Hr.same ok9 (e10.trans e11)) p _ hlp9 np9).2
      exact ⟨e13 _ _ hlp12, ((hvp9.mono (e10.trans e11)).mono (Hr.kp (ok9.same (e10.trans e11)) h12)).mono e13⟩
    · rw [List.getElem?_map, List.getElem?_eq_getElem (by omega), List.getD_eq_getElem?_getD, List.getElem?_eq_getElem (by omega)]
      rfl
    · have e911 := e10.trans e11
      have e1214 := e13.trans e14
      have ok11 := ok9.same e911
      have hh : Hr a H9 H14 := (Hr.same ok9 e911).trans (h12.trans (Hr.same ok12 e1214))
      have ok14 := ok12.same e1214
      obtain ⟨hlb14, nb14⟩ := hh b _ hlb9 nb9
      obtain ⟨hlp14, np14⟩ := hh p _ hlp9 np9
      have k914 := Hr.kp ok9 hh
      refine ⟨ub, bs.map dBar, hlb14, hvb9.mono k914, by rw [List.length_map]; omega, fun H15 u15 mu15 hl15 hv15 => ?_⟩
      obtain ⟨mk, rfl, bmk⟩ := px
      obtain ⟨ok15, z15⟩ := Hr.mu ok14 mu15 nb14 ⟨_, hl15⟩
      obtain ⟨hlp15, np15⟩ := z15 p _ (Ne.symm bp) hlp14 np14
      have hrow : i < row.length := by omega
      obtain ⟨lt, hlt⟩ : ∃ c : Nat, row.getD i 0 = (c : Int) := ⟨(row.getD i 0).toNat, by
        have := (lets.1 (row.getD i 0) (by rw [List.getD_eq_getElem?_getD, List.getElem?_eq_getElem hrow]; exact List.getElem_mem hrow)).1
        omega⟩
      have k1415 : Kp H14 H15 := Kp.mu mu15 hlb14
      refine ⟨_, _, u15, bs ++ [⟨host, mk, lt⟩], rfl, by rw [List.length_append, bl]; rfl, by omega, fun j b' hj => ?_, hl15, ?_, hlp15, (hvp9.mono k914).mono k1415, ok15, np15, InH.mu ok14 mu15 nb14, k9.trans (k914.trans k1415)⟩
      · by_cases hlt2 : j < bs.length
        · rw [List.getElem?_append_left hlt2] at hj
          exact hbs j b' hj
        · rw [List.getElem?_append_right (by omega)] at hj
          have e0 : j - bs.length = 0 := by
            have := (List.getElem?_eq_some_iff.mp hj).1
            simp at this
            omega
          rw [e0] at hj
          cases hj
          have : j = i := by omega
          subst this
          refine ⟨⟨c1, c2⟩, bmk, ?_⟩
          rw [List.getElem?_eq_getElem hrow, ← hlt, List.getD_eq_getElem?_getD, List.getElem?_eq_getElem hrow]
          rfl
      · rw [List.map_append]
        rw [hlt] at hv15
        exact hv15
  · rintro H7 g' H8 e7 ⟨o4, o7, ub, bs, rfl, bl, _, hbs, hlb, hvb, hlp, hvp, ok8, np8, nb8, k8⟩
    have bl : bs.length = many := by omega
    refine sd_ret (R := Same) (Same.refl _) (yd_tupL (yd_var (d := .ref b) rfl) fun H9 e9 => ⟨e9 _ _ hlb, hvb.mono e9⟩) fun H9 e9 => ⟨k8.trans (Kp.of e9), hq bs n H9 ⟨by omega, by omega, fun i b hb => (hbs i b hb).1, fun b hb => ?_, n1, n4, fun k k1 k2 => ?_⟩ (fun b hb => ?_) (ok8.same e9)⟩
    · obtain ⟨i, hi⟩ := List.getElem?_of_mem hb
      have := lets.1 _ (List.mem_of_getElem? (hbs i b hi).2.2)
      omega
    · obtain ⟨i, hi⟩ := List.getElem?_of_mem (lets.2 k k1 k2)
      have hlt : i < bs.length := by
        have := (List.getElem?_eq_some_iff.mp hi).1
        omega
      refine ⟨bs[i], List.getElem_mem hlt, ?_⟩
      have h := (hbs i bs[i] (List.getElem?_eq_getElem hlt)).2.2
      rw [hi] at h
      injection h with h
      omega
    · obtain ⟨i, hi⟩ := List.getElem?_of_mem hb
      exact (hbs i b hi).2.1
end K19
set_option maxHeartbeats 4000000
set_option exponentiation.threshold 20000
namespace K19
open PySem PySem.Spec PyProof.Rows L2
variable {P : Program} {w : World} {K : PySem.W.Frag} {mg : Str → Option Value} {base : Heap}
theorem sc_law_closed : FnScope ["_law_hand_here", "_law_n", "_law_pose", "_law_row_here", "_law_k", "_law_x", "_law_y", "_law_one", "_law_other", "_law_sine_here"] ["_law_hand_here"] (defScope s_law_closed) := ⟨rfl, rfl, rfl, by decide +kernel, rfl, by decide +kernel, by decide +kernel⟩
theorem bd_law_closed : Bnd "_law_closed" "_law_closed" s_law_closed ["_law_hand_here"] := fun _ _ _ _ _ _ us hl => match us, hl with | [_], _ => rfl
def addP (s : Uv) (p : Uv × Rat) : Uv := (s.1 + p.2 * p.1.1, s.2 + p.2 * p.1.2)
def xyTo (r0 : Rat) (us : List Uv) (rs : List Rat) (i : Nat) : Uv := ((List.zip us rs).take i).foldl addP (0, r0)
theorem addP_lin : ∀ (l : List (Uv × Rat)) (s : Uv), l.foldl addP s = (s.1 + (l.foldl addP (0, 0)).1, s.2 + (l.foldl addP (0, 0)).2)
  | [], s => by simp [Rat.add_zero]
  | p :: l, s => by
    rw [List.foldl_cons, List.foldl_cons, addP_lin l (addP s p), addP_lin l (addP (0, 0) p)]
    unfold addP
    simp only [Rat.zero_add]
    congr 1 <;> rw [Rat.add_assoc]
theorem closed_spot {r0 : Rat} {u v : Uv} {us : List Uv} {rs : List Rat} (h : u.1 * v.2 - u.2 * v.1 ≠ 0) (hl : us.length = rs.length) {x y : Rat} (hx : xyTo r0 us rs us.length = (x, y)) :
    spotR (upU :: u :: v :: us) (r0 :: ((y * v.1 - x * v.2) / (u.1 * v.2 - u.2 * v.1)) :: ((x * u.2 - y * u.1) / (u.1 * v.2 - u.2 * v.1)) :: rs) = (0, 0) := by
  have e : spotR (upU :: u :: v :: us) (r0 :: ((y * v.1 - x * v.2) / (u.1 * v.2 - u.2 * v.1)) :: ((x * u.2 - y * u.1) / (u.1 * v.2 - u.2 * v.1)) :: rs) = (List.zip us rs).foldl addP (addP (addP (addP (0, 0) (upU, r0)) (u, (y * v.1 - x * v.2) / (u.1 * v.2 - u.2 * v.1))) (v, (x * u.2 - y * u.1) / (u.1 * v.2 - u.2 * v.1))) := rfl
  have e2 : (List.zip us rs).foldl addP (0, r0) = (x, y) := by
    rw [← hx]
    unfold xyTo
    rw [List.take_of_length_le]
    rw [List.length_zip]
    omega
  rw [addP_lin] at e2
  rw [e, addP_lin]
  generalize (List.zip us rs).foldl addP (0, 0) = t at *
  obtain ⟨t1, t2⟩ := t
  obtain ⟨u1, u2⟩ := u
  obtain ⟨v1, v2⟩ := v
  simp only [addP, Prod.mk.injEq] at *
  generalize hs : u1 * v2 - u2 * v1 = sn at *
  constructor <;> grind
theorem xyTo_step {r0 : Rat} {us : List Uv} {rs : List Rat} {i : Nat} {u : Uv} {q : Rat} (h1 : us[i]? = some u) (h2 : rs[i]? = some q) : xyTo r0 us rs (i + 1) = addP (xyTo r0 us rs i) (u, q) := by
  unfold xyTo
  have h : (List.zip us rs)[i]? = some (u, q) := by
    rw [List.getElem?_zip_eq_some]
    exact ⟨h1, h2⟩
  rw [List.take_add_one, h, Option.toList_some, List.foldl_append]
  rfl
def r_closed (K : PySem.W.Frag) : Hp → List D → (D → Hp → Prop) → Prop := fun H ds q => ∃ a, ds = [.ref a] ∧ HandOk a H ∧ (∀ H', HandOk a H' → q .non H') ∧
  ∀ p us vs r H', H' p = some (.lst vs) → RpL K H' vs ((r : List Rat).map dq) → PoseB us → 2 ≤ us.length → us.length ≤ 4 → r.length = us.length + 1 → wtR r ≤ 1332 → spotR (upU :: us) r = (0, 0) → HandOk a H' → q (.tup [.ref p, dUs us]) H'
theorem ok_law_closed (T : TX K mg) : Cal P w K mg base CX0 6 "_law_closed" ["_law_hand_here"] (spH K (r_closed K)) := by
  refine cal_hand (f_law_closed T) (g_law_closed T) sc_law_closed bd_law_closed (fun H ds d ⟨_, e, _⟩ => by rw [e]; rfl) fun cdv A outer s H E hr => ⟨_, (pss_cons (ps_set (i := 1) sc_law_closed.nd rfl (by first | exact Or.inl rfl | exact Or.inr rfl) (pe_op op_add pe_int (pe_cal (ok_law_take T) (hr.mono (by decide)) rfl pass0 (pa_cons (pv 0) (pa_cons pe_int pa_nil)))))
      (pss_cons (ps_set (i := 2) sc_law_closed.nd rfl (by first | exact Or.inl rfl | exact Or.inr rfl) (pe_cal (ok_law_any_pose T) (hr.mono (by decide)) rfl pass0 (pa_cons (pv 0) (pa_cons (pv 1) pa_nil))))
      (pss_cons (ps_setLc (i := 3) (own := [("_law_k", 4)]) rfl sc_law_closed.nd rfl rfl (sw_true rfl rfl rfl (by decide +kernel)) (pi_range1 rfl (n_range T) (pa_cons (pe_op op_add (pv 1) pe_int) pa_nil)) (blkOk_by (own := [("_law_k", 4)]) (N := ["_law_hand_here", "_law_n", "_law_pose", "_law_row_here", "_law_k", "_law_x", "_law_y", "_law_one", "_law_other", "_law_sine_here"]) (sc := defScope s_law_closed) (by decide +kernel)) (fun _ _ _ _ _ => pg_name (i := 4) sc_law_closed.nd rfl (Or.inl rfl)) (fun _ _ _ _ _ => pts_nil) (fun _ _ _ _ _ => (pe_cal (ok_law_wide T) (hr.mono (by decide)) rfl pass0 (pa_cons (pv 0) pa_nil))))
      (pss_cons (ps_set (i := 5) sc_law_closed.nd rfl (by first | exact Or.inl rfl | exact Or.inr rfl) (pe_tup (pa_cons pe_int (pa_cons pe_int pa_nil))))
      (pss_cons (ps_set (i := 6) sc_law_closed.nd rfl (by first | exact Or.inl rfl | exact Or.inr rfl) (pe_ix (r := rIxL K) ix_list (pv 3) pe_int (fun _ _ => rfl)))
      (pss_cons (ps_for PassesOwn.never rfl (pi_range2 rfl (n_range T) (pa_cons pe_int (pa_cons (pe_op op_add (pv 1) pe_int) pa_nil))) (pg_name (i := 4) sc_law_closed.nd rfl (by first | exact Or.inl rfl | exact Or.inr rfl)) (pss_cons (ps_set (i := 5) sc_law_closed.nd rfl (by first | exact Or.inl rfl | exact Or.inr rfl) (pe_cal (ok_law_plus T) (hr.mono (by decide)) rfl pass0 (pa_cons (pv 5) (pa_cons (pe_cal (ok_law_times T) (hr.mono (by decide)) rfl pass0 (pa_cons (pe_ix (r := rIxL K) ix_list (pv 3) (pv 4) (fun _ _ => rfl)) (pa_cons (pe_ix (r := rIxT K) ix_tup (pe_ix (r := rIxT K) ix_tup (pv 2) (pe_op op_sub (pv 4) pe_int) (fun _ _ => rfl)) pe_int (fun _ _ => rfl)) pa_nil))) pa_nil))))
      (pss_one (ps_set (i := 6) sc_law_closed.nd rfl (by first | exact Or.inl rfl | exact Or.inr rfl) (pe_cal (ok_law_plus T) (hr.mono (by decide)) rfl pass0 (pa_cons (pv 6) (pa_cons (pe_cal (ok_law_times T) (hr.mono (by decide)) rfl pass0 (pa_cons (pe_ix (r := rIxL K) ix_list (pv 3) (pv 4) (fun _ _ => rfl)) (pa_cons (pe_ix (r := rIxT K) ix_tup (pe_ix (r := rIxT K) ix_tup (pv 2) (pe_op op_sub (pv 4) pe_int) (fun _ _ => rfl)) pe_int (fun _ _ => rfl)) pa_nil))) pa_nil)))))))
      (pss_cons (ps_par (i := 7) (j := 8) (by rfl) sc_law_closed.nd rfl rfl (by decide) rfl rfl (pa_cons (pe_ix (r := rIxT K) ix_tup (pv 2) pe_int (fun _ _ => rfl)) (pa_cons (pe_ix (r := rIxT K) ix_tup (pv 2) pe_int (fun _ _ => rfl)) pa_nil)) (by rfl))
      (pss_cons (ps_set (i := 9) sc_law_closed.nd rfl (by first | exact Or.inl rfl | exact Or.inr rfl) (pe_cal (ok_law_sine T) (hr.mono (by decide)) rfl pass0 (pa_cons (pv 2) (pa_cons pe_int (pa_cons pe_int pa_nil)))))
      (pss_cons (ps_if (pt_cmpR (r := rEqD K) (op_eqD hr.units) (pv 9) (pe_tup (pa_cons pe_int (pa_cons pe_int pa_nil))) (nomark _)) (pss_one (ps_ret pe_non)) pss_nil)
      (pss_cons (ps_asg (pe_cal (ok_law_over T) (hr.mono (by decide)) rfl pass0 (pa_cons (pe_cal (ok_law_less T) (hr.mono (by decide)) rfl pass0 (pa_cons (pe_cal (ok_law_times T) (hr.mono (by decide)) rfl pass0 (pa_cons (pv 6) (pa_cons (pe_ix (r := rIxT K) ix_tup (pv 8) pe_int (fun _ _ => rfl)) pa_nil))) (pa_cons (pe_cal (ok_law_times T) (hr.mono (by decide)) rfl pass0 (pa_cons (pv 5) (pa_cons (pe_ix (r := rIxT K) ix_tup (pv 8) pe_int (fun _ _ => rfl)) pa_nil))) pa_nil))) (pa_cons (pv 9) pa_nil))) (pg_sub (pv 3) pe_int set_list))
      (pss_cons (ps_asg (pe_cal (ok_law_over T) (hr.mono (by decide)) rfl pass0 (pa_cons (pe_cal (ok_law_less T) (hr.mono (by decide)) rfl pass0 (pa_cons (pe_cal (ok_law_times T) (hr.mono (by decide)) rfl pass0 (pa_cons (pv 5) (pa_cons (pe_ix (r := rIxT K) ix_tup (pv 7) pe_int (fun _ _ => rfl)) pa_nil))) (pa_cons (pe_cal (ok_law_times T) (hr.mono (by decide)) rfl pass0 (pa_cons (pv 6) (pa_cons (pe_ix (r := rIxT K) ix_tup (pv 7) pe_int (fun _ _ => rfl)) pa_nil))) pa_nil))) (pa_cons (pv 9) pa_nil))) (pg_sub (pv 3) pe_int set_list))
      (pss_one (ps_ret (pe_tup (pa_cons (pv 3) (pa_cons (pv 2) pa_nil)))))))))))))))), ?_⟩
  rintro H ds q ⟨a, rfl, ok, hnon, hq⟩
  refine sd_seq (sd_asgZ (zd_I0 (zd_of yd_int fun H0 e0 => ⟨2, rfl, zd_take (yd_var rfl) yd_int (ok.same e0) fun i H1 p1 p2 p3 ok1 => ⟨i, rfl, ?_⟩⟩)))
  have hr1 : Hr a H H1 := (Hr.same ok e0).trans p3
  obtain ⟨m, rfl⟩ : ∃ m : Nat, i = m := ⟨i.toNat, by omega⟩
  obtain ⟨n, hn, n2, n4⟩ : ∃ n : Nat, 2 + (m : Int) = (n : Int) ∧ 2 ≤ n ∧ n ≤ 4 := ⟨2 + m, by omega, by omega, by omega⟩
  rw [hn]
  refine sd_seq (sd_asgZ (zd_callH (za_of (ya_cons (yd_var rfl) (ya_cons (yd_var (d := .int (n : Int)) rfl) ya_nil)) fun H2 e2 => ⟨a, n, rfl, n4, ok1.same e2, fun us H3 ul pb h3 ok3 => ?_⟩)))
  have hr3 : Hr a H H3 := hr1.trans ((Hr.same ok1 e2).trans h3)
  refine sd_seq (sd_asgZl (zl_draws (Pd := PQ 21) (m := (n : Int) + 1) (ya_cons (yd_I0 (yd_var (d := .int (n : Int)) rfl) yd_int) ya_nil) (by omega) ok3 (fun j H' ok4 => zd_h (Pd := PQ 21) (yd_var rfl) ok4 fun d H5 pd h5 ok5 => ⟨pd, h5, ok5⟩) fun p ds H4 hl pq h4 ok4 np vs hlp hvp => ?_))
  obtain ⟨r, rfl, hb⟩ := PQ.all pq
  rw [List.length_map] at hl
  have k4 := Hr.kp ok (hr3.trans h4)
  obtain ⟨u, v, us, rfl⟩ : ∃ u v us', us = u :: v :: us' := by
    match us, ul with
    | [], h => exact absurd h (by simp; omega)
    | [_], h => exact absurd h (by simp; omega)
    | u :: v :: us', _ => exact ⟨u, v, us', rfl⟩
  obtain ⟨r0, r1, r2, rs, rfl⟩ : ∃ r0 r1 r2 rs, r = r0 :: r1 :: r2 :: rs := by
    have : r.length = n + 1 := by omega
    match r, this with
    | [], h => exact absurd h (by simp)
    | [_], h => exact absurd h (by simp; omega)
    | [_, _], h => exact absurd h (by simp; omega)
    | r0 :: r1 :: r2 :: rs, _ => exact ⟨r0, r1, r2, rs, rfl⟩
  have ul2 : us.length + 2 = n := ul
  have rl2 : (rs.length : Int) + 3 = n + 1 := by
    have : (r0 :: r1 :: r2 :: rs).length = rs.length + 3 := rfl
    omega
  have lens : us.length = rs.length := by omega
  clear hl pq ul
  have b0 : bt r0 ≤ 21 := hb r0 (by simp)
  have bu := pb u (by simp)
  have bv := pb v (by simp)
  have bxy : ∀ i, i ≤ us.length → bt (xyTo r0 us rs i).1 ≤ 21 + 72 * i ∧ bt (xyTo r0 us rs i).2 ≤ 21 + 72 * i := by
    intro i
    induction i with
    | zero => exact fun _ => ⟨by show bt 0 ≤ _; decide +kernel, b0⟩
    | succ i ih =>
      intro hi
      have hu : us[i]? = some us[i] := List.getElem?_eq_getElem (by omega)
      have hq : rs[i]? = some (rs[i]'(by omega)) := List.getElem?_eq_getElem (by omega)
      rw [xyTo_step hu hq]
      obtain ⟨i1, i2⟩ := ih (by omega)
      have pu := pb us[i] (by simp)
      have pr := hb (rs[i]'(by omega)) (by simp)
      have m1 := bt_mul (rs[i]'(by omega)) us[i].1
      have m2 := bt_mul (rs[i]'(by omega)) us[i].2
      have a1 := bt_add (xyTo r0 us rs i).1 ((rs[i]'(by omega)) * us[i].1)
      have a2 := bt_add (xyTo r0 us rs i).2 ((rs[i]'(by omega)) * us[i].2)
      unfold addP
      constructor <;> simp only <;> omega
  refine sd_seq (sd_asg (R := Same) (Same.refl _) (yd_q (q := 0)) fun H5 e5 => ?_)
  refine sd_seq (sd_asg (R := Same) (Same.refl _) (yd_ixL (a := p) (vs := vs) (ds := (r0 :: r1 :: r2 :: rs).map dq) (yd_var rfl) yd_int (fun H6 e6 => ⟨e6 _ _ (e5 _ _ hlp), hvp.mono (e5.trans e6)⟩) (atI_nat (k := 0) rfl)) fun H6 e6 => ?_)
  have e56 := e5.trans e6
  refine sd_seq (sd_forR2 (R := Same) (lo := 3) (n := (n : Int) + 1) (Same.refl _) (ya_cons yd_int (ya_cons (yd_I0 (yd_var (d := .int (n : Int)) rfl) yd_int) ya_nil)) (by decide) (by omega)
    (fun _ i g' H' => ∃ o4 : Option D, g' = [some (.ref a), some (.int (n : Int)), some (dUs (u :: v :: us)), some (.ref p), o4, some (dq (xyTo r0 us rs i).1), some (dq (xyTo r0 us rs i).2), none, none, none] ∧ i ≤ us.length ∧ Same H4 H') (fun H7 e7 => ⟨_, rfl, Nat.zero_le _, e56.trans e7⟩) ?_ ?_)
  · rintro H7 i g' H8 e7 hi ⟨o4, rfl, _, e8⟩
    have hi : i < us.length := by omega
    obtain ⟨k, hk, hk2⟩ : ∃ k : Nat, 3 + (i : Int) = (k : Int) ∧ k = i + 3 := ⟨i + 3, by omega, rfl⟩
    rw [hk]
    obtain ⟨uq, hu⟩ : ∃ x, us[i]? = some x := ⟨_, List.getElem?_eq_getElem hi⟩
    obtain ⟨rq, hq⟩ : ∃ x, rs[i]? = some x := ⟨_, List.getElem?_eq_getElem (lens ▸ hi)⟩
    obtain ⟨x1, x2⟩ := bxy i (by omega)
    have pu := pb uq (List.mem_cons_of_mem _ (List.mem_cons_of_mem _ (List.mem_of_getElem? hu)))
    have pr := hb rq (List.mem_cons_of_mem _ (List.mem_cons_of_mem _ (List.mem_cons_of_mem _ (List.mem_of_getElem? hq))))
    have m1 := bt_mul rq uq.1
    have m2 := bt_mul rq uq.2
    have ir : atI ((r0 :: r1 :: r2 :: rs).map dq) (k : Int) = some (dq rq) := atI_nat (by rw [hk2]; show (rs.map dq)[i]? = _; rw [List.getElem?_map, hq]; rfl)
    have iu : atI ((u :: v :: us).map dUv) ((k : Int) - 1) = some (dUv uq) := by
      have : (k : Int) - 1 = ((i + 2 : Nat) : Int) := by omega
      rw [this]
      exact atI_nat (by show (us.map dUv)[i]? = _; rw [List.getElem?_map, hu]; rfl)
    refine sd_seq (sd_asg (R := Same) (d := dq (xyTo r0 us rs (i + 1)).1) (Same.refl _) ((yd_ar (yd_var (d := dq (xyTo r0 us rs i).1) rfl) (yd_ar (yd_ixL (a := p) (vs := vs) (ds := (r0 :: r1 :: r2 :: rs).map dq) (yd_var rfl) (yd_var (d := .int (k : Int)) rfl) (fun H9 e9 => ⟨e9 _ _ (e8 _ _ hlp), hvp.mono (e8.trans e9)⟩) ir) (yd_ixT (yd_ixT (yd_var (d := dUs (u :: v :: us)) rfl) (yd_I0 (yd_var (d := .int (k : Int)) rfl) yd_int) iu) yd_int rfl) ?_) ?_).is (by rw [xyTo_step hu hq]; rfl)) fun H9 e9 => ?_)
    · show bt _ + bt _ ≤ 9000
      omega
    · show bt _ + bt _ ≤ 9000
      omega
    refine sd_asg (R := Same) (d := dq (xyTo r0 us rs (i + 1)).2) (Same.refl _) ((yd_ar (yd_var (d := dq (xyTo r0 us rs i).2) rfl) (yd_ar (yd_ixL (a := p) (vs := vs) (ds := (r0 :: r1 :: r2 :: rs).map dq) (yd_var rfl) (yd_var (d := .int (k : Int)) rfl) (fun H10 e10 => ⟨e10 _ _ (e9 _ _ (e8 _ _ hlp)), hvp.mono (e8.trans (e9.trans e10))⟩) ir) (yd_ixT (yd_ixT (yd_var (d := dUs (u :: v :: us)) rfl) (yd_I0 (yd_var (d := .int (k : Int)) rfl) yd_int) iu) yd_int rfl) ?_) ?_).is (by rw [xyTo_step hu hq]; rfl)) fun H10 e10 => ⟨_, rfl, by omega, e8.trans (e9.trans e10)⟩
    · show bt _ + bt _ ≤ 9000
      omega
    · show bt _ + bt _ ≤ 9000
      omega
  rintro H7 g' H8 e7 ⟨o4, rfl, _, e8⟩
  have ei : ((n : Int) + 1 - 3).toNat = us.length := by omega
  rw [ei]
  obtain ⟨x1, x2⟩ := bxy us.length (Nat.le_refl _)
  have u2 : us.length ≤ 2 := by omega
  generalize hxy : xyTo r0 us rs us.length = xy at *
  obtain ⟨x, y⟩ := xy
  simp only at x1 x2 ⊢
  refine sd_seq (sd_par (R := Same) (Same.refl _) (ya_cons (yd_ixT (d := dUv u) (yd_var (d := dUs (u :: v :: us)) rfl) yd_int (atI_nat (k := 0) rfl)) (ya_cons (yd_ixT (d := dUv v) (yd_var (d := dUs (u :: v :: us)) rfl) yd_int (atI_nat (k := 1) rfl)) ya_nil)) fun H9 e9 => ?_)
  refine sd_seq (sd_asg (R := Same) (d := dq (u.1 * v.2 - u.2 * v.1)) (Same.refl _) (yd_call (ya_cons (yd_var (d := dUs (u :: v :: us)) rfl) (ya_cons yd_int (ya_cons yd_int ya_nil))) fun _ _ => ⟨u, v, us, rfl, by omega, by unfold Sq; omega, by unfold Sq; omega, rfl⟩) fun H10 e10 => ?_)
  have e48 := e8.trans (e9.trans e10)
  refine sd_seq (sd_if (R := Same) (Same.refl _) (yt_test (yd_eqQ (yd_var (d := dq (u.1 * v.2 - u.2 * v.1)) rfl) (yd_q (q := 0)))) (fun z H11 e11 => sd_ret (R := Same) (Same.refl _) yd_non fun H12 e12 => ⟨k4.trans (Kp.of (e48.trans (e11.trans e12))), hnon H12 (ok4.same (e48.trans (e11.trans e12)))⟩) fun z H11 e11 => sd_next ?_)
  have zn : u.1 * v.2 - u.2 * v.1 ≠ 0 := of_decide_eq_false z
  have e411 := e48.trans e11
  have bs1 := bt_mul u.1 v.2
  have bs2 := bt_mul u.2 v.1
  have bs3 := bt_sub (u.1 * v.2) (u.2 * v.1)
  have c1 := bt_mul y v.1
  have c2 := bt_mul x v.2
  have c3 := bt_sub (y * v.1) (x * v.2)
  have c4 := bt_mul x u.2
  have c5 := bt_mul y u.1
  have c6 := bt_sub (x * u.2) (y * u.1)
  have c7 := bt_div (q := y * v.1 - x * v.2) zn
  have c8 := bt_div (q := x * u.2 - y * u.1) zn
  have spot := closed_spot zn lens hxy
  generalize hs : u.1 * v.2 - u.2 * v.1 = sn at *
  have hl11 := e411 _ _ hlp
  have hv11 := hvp.mono e411
  have ok11 := ok4.same e411
  have np11 := ((Hr.same ok4 e411) p _ hlp np).2
  refine sd_seq (sd_setL (a := p) (vs := vs) (ds := (r0 :: r1 :: r2 :: rs).map dq) (d := dq ((y * v.1 - x * v.2) / sn)) (j := 1) (yd_over (yd_ar (yd_ar (yd_var (d := dq y) rfl) (yd_ixT (d := dq v.1) (yd_var (d := dUv v) rfl) yd_int rfl) ?_) (yd_ar (yd_var (d := dq x) rfl) (yd_ixT (d := dq v.2) (yd_var (d := dUv v) rfl) yd_int rfl) ?_) ?_) (yd_var (d := dq sn) rfl) ?_ zn) (yd_var rfl) yd_int hl11 hv11 (ixN_nat (k := 1) (by simp)) fun H12 u12 mu12 hl12 hv12 => ?_)
  · show bt _ + bt _ ≤ 9000
    omega
  · show bt _ + bt _ ≤ 9000
    omega
  · show bt _ + bt _ ≤ 9000
    omega
  · show bt _ + bt _ ≤ 9000
    omega
  obtain ⟨ok12, z12⟩ := Hr.mu ok11 mu12 np11 ⟨_, hl12⟩
  have np12 := InH.mu ok11 mu12 np11
  rw [← List.map_set] at hv12
  refine sd_seq (sd_setL (a := p) (vs := u12) (ds := ((r0 :: r1 :: r2 :: rs).set 1 ((y * v.1 - x * v.2) / sn)).map dq) (d := dq ((x * u.2 - y * u.1) / sn)) (j := 2) (yd_over (yd_ar (yd_ar (yd_var (d := dq x) rfl) (yd_ixT (d := dq u.2) (yd_var (d := dUv u) rfl) yd_int rfl) ?_) (yd_ar (yd_var (d := dq y) rfl) (yd_ixT (d := dq u.1) (yd_var (d := dUv u) rfl) yd_int rfl) ?_) ?_) (yd_var (d := dq sn) rfl) ?_ zn) (yd_var rfl) yd_int hl12 hv12 (ixN_nat (k := 2) (by simp)) fun H13 u13 mu13 hl13 hv13 => ?_)
  · show bt _ + bt _ ≤ 9000
    omega
  · show bt _ + bt _ ≤ 9000
    omega
  · show bt _ + bt _ ≤ 9000
    omega
  · show bt _ + bt _ ≤ 9000
    omega
  obtain ⟨ok13, z13⟩ := Hr.mu ok12 mu13 np12 ⟨_, hl13⟩
  rw [← List.map_set] at hv13
  refine sd_ret (R := Same) (Same.refl _) (yd_tup (ya_cons (yd_var (d := .ref p) rfl) (ya_cons (yd_var (d := dUs (u :: v :: us)) rfl) ya_nil))) fun H14 e14 => ⟨(k4.trans (Kp.of e411)).trans ((Kp.mu mu12 hl11).trans ((Kp.mu mu13 hl12).trans (Kp.of e14))), ?_⟩
  refine hq p (u :: v :: us) u13 (r0 :: ((y * v.1 - x * v.2) / sn) :: ((x * u.2 - y * u.1) / sn) :: rs) H14 (e14 _ _ hl13) (hv13.mono e14) pb (by show 2 ≤ us.length + 2; omega) (by show us.length + 2 ≤ 4; omega) (by show rs.length + 3 = us.length + 3; omega) ?_ spot (ok13.same e14)
  have w := wtR_le (r := rs) (b := 21) fun q hq => hb q (List.mem_cons_of_mem _ (List.mem_cons_of_mem _ (List.mem_cons_of_mem _ hq)))
  have e : wtR (r0 :: ((y * v.1 - x * v.2) / sn) :: ((x * u.2 - y * u.1) / sn) :: rs) = (bt r0 + 1) + ((bt ((y * v.1 - x * v.2) / sn) + 1) + ((bt ((x * u.2 - y * u.1) / sn) + 1) + wtR rs)) := by simp [wtR]
  rw [e]
  omega
end K19
set_option maxHeartbeats 4000000
/-! The plain law: rows, spots, pushed and flat distances, in Rat. -/
namespace K19
open PySem PySem.Spec PyProof.Rows L2
theorem sq_nn (a : Rat) : 0 ≤ a * a := by
  rcases Rat.le_total (a := 0) (b := a) with q | q
  · exact Rat.mul_nonneg q q
  · have := Rat.mul_nonneg (a := -a) (b := -a) (by grind) (by grind)
    grind
theorem abs_cases (a : Rat) : (0 ≤ a ∧ a.abs = a) ∨ (a < 0 ∧ a.abs = -a) := by
  unfold Rat.abs
  split
  · rename_i h; exact .inl ⟨h, rfl⟩
  · rename_i h; exact .inr ⟨Rat.not_le.mp h, rfl⟩
theorem abs_sq (a : Rat) : a.abs * a.abs = a * a := by
  rcases abs_cases a with ⟨_, e⟩ | ⟨_, e⟩ <;> rw [e] <;> grind
theorem le_of_sq {a b : Rat} (hb : 0 ≤ b) (h : a * a ≤ b * b) : a ≤ b := by
  rcases Rat.le_total (a := a) (b := b) with q | q
  · exact q
  · by_cases e : a = b
    · exact e ▸ Rat.le_refl
    · exfalso
      have h1 : 0 < a - b := by grind
      have h2 : 0 < a + b := by grind
      have := Rat.mul_pos h1 h2
      grind
theorem sq_le {a b : Rat} (ha : 0 ≤ a) (h : a ≤ b) : a * a ≤ b * b := by
  have h1 : 0 ≤ b - a := by grind
  have h2 : 0 ≤ b + a := by grind
  have := Rat.mul_nonneg h1 h2
  grind
theorem spot_from (l : List (Uv × Rat)) (s : Uv) : l.foldl (fun s p => (s.1 + p.2 * p.1.1, s.2 + p.2 * p.1.2)) s = (s.1 + (l.foldl (fun s p => (s.1 + p.2 * p.1.1, s.2 + p.2 * p.1.2)) ((0, 0) : Uv)).1, s.2 + (l.foldl (fun s p => (s.1 + p.2 * p.1.1, s.2 + p.2 * p.1.2)) ((0, 0) : Uv)).2) := addP_lin l s
theorem spotR_nil (r : List Rat) : spotR [] r = (0, 0) := rfl
theorem spotR_nil2 (us : List Uv) : spotR us [] = (0, 0) := by cases us <;> rfl
theorem spotR_cons (u : Uv) (us : List Uv) (q : Rat) (r : List Rat) : spotR (u :: us) (q :: r) = (q * u.1 + (spotR us r).1, q * u.2 + (spotR us r).2) := by
  unfold spotR
  rw [List.zip_cons_cons, List.foldl_cons, spot_from]
  simp only [Rat.zero_add]
theorem sumq_from (l : List Rat) (a : Rat) : l.foldl (fun a b => a + b) a = a + l.foldl (fun a b => a + b) 0 := by
  induction l generalizing a with
  | nil => simp [Rat.add_zero]
  | cons b l ih => rw [List.foldl_cons, List.foldl_cons, ih, ih (0 + b), Rat.zero_add, Rat.add_assoc]
theorem hiR_cons (q : Rat) (r : List Rat) : hiR (q :: r) = q.abs + hiR r := by
  unfold hiR sumq absR
  rw [List.map_cons, List.foldl_cons, sumq_from, Rat.zero_add]
theorem hiR_nn : ∀ r : List Rat, 0 ≤ hiR r
  | [] => by unfold hiR sumq absR; simp
  | q :: r => by
    rw [hiR_cons]
    have := hiR_nn r
    have : 0 ≤ q.abs := Rat.abs_nonneg
    grind
/-- one unit step more -/
theorem step_sq {u s : Uv} {q b : Rat} (hu : sqU u = 1) (hb : 0 ≤ b) (hs : sqU s ≤ b * b) : sqU (q * u.1 + s.1, q * u.2 + s.2) ≤ (q.abs + b) * (q.abs + b) := by
  obtain ⟨u1, u2⟩ := u
  obtain ⟨s1, s2⟩ := s
  unfold sqU at *
  simp only at *
  have lag : (u1 * s1 + u2 * s2) * (u1 * s1 + u2 * s2) + (u1 * s2 - u2 * s1) * (u1 * s2 - u2 * s1) = (u1 * u1 + u2 * u2) * (s1 * s1 + s2 * s2) := by grind
  have n1 := sq_nn (u1 * s2 - u2 * s1)
  generalize hd : u1 * s1 + u2 * s2 = d at lag
  have d2 : d * d ≤ b * b := by
    rw [hu, Rat.one_mul] at lag
    grind
  have d3 : d.abs ≤ b := le_of_sq hb (by rw [abs_sq]; exact d2)
  have e : (q * u1 + s1) * (q * u1 + s1) + (q * u2 + s2) * (q * u2 + s2) = q * q * (u1 * u1 + u2 * u2) + 2 * (q * (u1 * s1 + u2 * s2)) + (s1 * s1 + s2 * s2) := by grind
  rw [e, hu, hd]
  have qd : q * d ≤ q.abs * b := by
    have h1 : q * d ≤ q.abs * d.abs := by
      rcases abs_cases q with ⟨a1, e1⟩ | ⟨a1, e1⟩ <;> rcases abs_cases d with ⟨a2, e2⟩ | ⟨a2, e2⟩ <;> rw [e1, e2]
      · exact Rat.le_refl
      · have := Rat.mul_nonneg (a := q) (b := -d) a1 (by grind)
        grind
      · have := Rat.mul_nonneg (a := -q) (b := d) (by grind) a2
        grind
      · grind
    have h2 : 0 ≤ q.abs * (b - d.abs) := Rat.mul_nonneg Rat.abs_nonneg (by grind)
    grind
  have aq := abs_sq q
  grind
theorem spot_hi : ∀ (us : List Uv) (r : List Rat), (∀ u ∈ us, sqU u = 1) → sqU (spotR us r) ≤ hiR r * hiR r
  | [], r, _ => by
    rw [spotR_nil]
    have := sq_nn (hiR r)
    unfold sqU
    simp only
    grind
  | us, [], _ => by
    rw [spotR_nil2]
    have := sq_nn (hiR [])
    unfold sqU
    simp only
    grind
  | u :: us, q :: r, h => by
    rw [spotR_cons, hiR_cons]
    exact step_sq (h u List.mem_cons_self) (hiR_nn r) (spot_hi us r fun x hx => h x (List.mem_cons_of_mem _ hx))
/-- one number and the rest -/
theorem spot_split : ∀ (us : List Uv) (r : List Rat) (i : Nat) (u : Uv) (q : Rat), (∀ u ∈ us, sqU u = 1) → us[i]? = some u → r[i]? = some q → ∃ s : Uv, spotR us r = (q * u.1 + s.1, q * u.2 + s.2) ∧ sqU s ≤ (hiR r - q.abs) * (hiR r - q.abs) ∧ q.abs ≤ hiR r
  | [], _, _, _, _, _, h, _ => by cases h
  | _, [], _, _, _, _, _, h => by cases h
  | u :: us, q :: r, 0, u', q', h, hu, hq => by
    cases hu
    cases hq
    refine ⟨spotR us r, spotR_cons .., ?_, ?_⟩
    · rw [hiR_cons]
      have e : q.abs + hiR r - q.abs = hiR r := by grind
      rw [e]
      exact spot_hi us r fun x hx => h x (List.mem_cons_of_mem _ hx)
    · rw [hiR_cons]
      have := hiR_nn r
      grind
  | u :: us, q :: r, i + 1, u', q', h, hu, hq => by
    obtain ⟨s, e1, e2, e3⟩ := spot_split us r i u' q' (fun x hx => h x (List.mem_cons_of_mem _ hx)) hu hq
    refine ⟨(q * u.1 + s.1, q * u.2 + s.2), ?_, ?_, ?_⟩
    · rw [spotR_cons, e1]
      simp only
      congr 1 <;> grind
    · rw [hiR_cons]
      have e : q.abs + hiR r - q'.abs = q.abs + (hiR r - q'.abs) := by grind
      rw [e]
      exact step_sq (h u List.mem_cons_self) (by grind) e2
    · rw [hiR_cons]
      have : 0 ≤ q.abs := Rat.abs_nonneg
      grind
theorem fold_max_mem : ∀ (l : List Rat) (m : Rat), l.foldl (fun m q => if m < q then q else m) m = m ∨ l.foldl (fun m q => if m < q then q else m) m ∈ l
  | [], m => .inl rfl
  | q :: l, m => by
    rw [List.foldl_cons]
    rcases fold_max_mem l (if m < q then q else m) with h | h
    · rw [h]
      split
      · exact .inr List.mem_cons_self
      · exact .inl rfl
    · exact .inr (List.mem_cons_of_mem _ h)
theorem gmax_in {l : List Rat} (h : l ≠ []) : gmax l ∈ l := by
  cases l with
  | nil => exact absurd rfl h
  | cons a l =>
    unfold gmax
    rcases fold_max_mem (a :: l) a with e | e
    · show List.foldl _ a (a :: l) ∈ _
      rw [e]
      exact List.mem_cons_self
    · exact e
theorem loR_nn (r : List Rat) : 0 ≤ loR r := by
  unfold loR
  split
  · grind
  · exact Rat.le_refl
/-- no pose brings the ends nearer -/
theorem spot_lo {us : List Uv} {r : List Rat} (h : ∀ u ∈ us, sqU u = 1) (hl : us.length = r.length) : loR r * loR r ≤ sqU (spotR us r) := by
  have sn : 0 ≤ sqU (spotR us r) := by
    have a := sq_nn (spotR us r).1
    have b := sq_nn (spotR us r).2
    unfold sqU
    grind
  unfold loR
  split
  · rename_i hpos
    by_cases hr : r = []
    · subst hr
      exfalso
      revert hpos
      decide +kernel
    obtain ⟨q, hq, eq⟩ := List.mem_map.mp (gmax_in (l := absR r) (by unfold absR; intro z; exact hr (List.map_eq_nil_iff.mp z)))
    obtain ⟨i, hi⟩ := List.getElem?_of_mem hq
    have hlt := (List.getElem?_eq_some_iff.mp hi).1
    obtain ⟨u, hu⟩ : ∃ u, us[i]? = some u := ⟨_, List.getElem?_eq_getElem (hl ▸ hlt)⟩
    obtain ⟨s, e1, e2, e3⟩ := spot_split us r i u q h hu hi
    rw [← eq] at hpos ⊢
    rw [e1]
    have uu := h u (List.mem_of_getElem? hu)
    generalize hiR r = S at *
    obtain ⟨u1, u2⟩ := u
    obtain ⟨s1, s2⟩ := s
    unfold sqU at *
    simp only at *
    -- q² = (q u + s − s)², so |q| ≤ |qu+s| + |s|
    have lag : (u1 * s1 + u2 * s2) * (u1 * s1 + u2 * s2) + (u1 * s2 - u2 * s1) * (u1 * s2 - u2 * s1) = (u1 * u1 + u2 * u2) * (s1 * s1 + s2 * s2) := by grind
    have n1 := sq_nn (u1 * s2 - u2 * s1)
    generalize hd : u1 * s1 + u2 * s2 = d at lag
    have d2 : d * d ≤ (S - q.abs) * (S - q.abs) := by
      rw [uu, Rat.one_mul] at lag
      grind
    have d3 : d.abs ≤ S - q.abs := le_of_sq (by grind) (by rw [abs_sq]; exact d2)
    have lag2 : (q * u1 + s1) * (q * u1 + s1) + (q * u2 + s2) * (q * u2 + s2) = (q * (u1 * u1 + u2 * u2) + (u1 * s1 + u2 * s2)) * (q * (u1 * u1 + u2 * u2) + (u1 * s1 + u2 * s2)) + (u1 * s2 - u2 * s1) * (u1 * s2 - u2 * s1) + ((q * u1 + s1) * (q * u1 + s1) + (q * u2 + s2) * (q * u2 + s2)) * (1 - (u1 * u1 + u2 * u2)) := by grind
    rw [lag2, uu, hd]
    have low : q.abs + q.abs - S ≤ (q * 1 + d).abs := by
      rcases abs_cases q with ⟨a1, f1⟩ | ⟨a1, f1⟩ <;> rcases abs_cases d with ⟨a2, f2⟩ | ⟨a2, f2⟩ <;> rcases abs_cases (q * 1 + d) with ⟨a3, f3⟩ | ⟨a3, f3⟩ <;> rw [f3] <;> grind
    have := sq_le (by grind) low
    rw [abs_sq] at this
    grind
  · grind
/-! gaps -/
theorem spot_zeros : ∀ (us : List Uv) (n : Nat), spotR us (List.replicate n 0) = (0, 0)
  | [], n => rfl
  | us, 0 => spotR_nil2 us
  | u :: us, n + 1 => by
    rw [List.replicate_succ, spotR_cons, spot_zeros us n]
    simp [Rat.zero_mul, Rat.add_zero]
theorem spot_addAt : ∀ (us : List Uv) (r : List Rat) (i : Nat) (q : Rat) (u : Uv), us[i]? = some u → i < r.length → spotR us (r.set i (r.getD i 0 + q)) = ((spotR us r).1 + q * u.1, (spotR us r).2 + q * u.2)
  | [], _, _, _, _, h, _ => by cases h
  | _, [], _, _, _, _, h => absurd h (by simp)
  | v :: us, a :: r, 0, q, u, h, hi => by
    cases h
    show spotR (v :: us) ((a + q) :: r) = _
    rw [spotR_cons, spotR_cons]
    simp only
    congr 1 <;> grind
  | v :: us, a :: r, i + 1, q, u, h, hi => by
    show spotR (v :: us) (a :: r.set i (r.getD i 0 + q)) = _
    rw [spotR_cons, spot_addAt us r i q u h (by simpa using hi), spotR_cons]
    simp only
    congr 1 <;> grind
theorem spot_sub : ∀ (us : List Uv) (p q : List Rat), p.length = q.length → spotR us (subR p q) = ((spotR us p).1 - (spotR us q).1, (spotR us p).2 - (spotR us q).2)
  | [], p, q, _ => by
    show ((0 : Rat), (0 : Rat)) = (0 - 0, 0 - 0)
    decide +kernel
  | u :: us, [], [], _ => by
    show spotR (u :: us) [] = ((spotR (u :: us) []).1 - (spotR (u :: us) []).1, (spotR (u :: us) []).2 - (spotR (u :: us) []).2)
    rw [spotR_nil2]
    decide +kernel
  | u :: us, a :: p, b :: q, h => by
    show spotR (u :: us) ((a - b) :: subR p q) = _
    rw [spotR_cons, spotR_cons, spotR_cons, spot_sub us p q (by simpa using h)]
    simp only
    congr 1 <;> grind
  | u :: us, [], b :: q, h => by cases h
  | u :: us, a :: p, [], h => by cases h
theorem stand_row {us : List Uv} {n : Nat} (hn : us.length = n) : ∀ (st : List (Nat × Rat)) (r : List Rat), (∀ p ∈ st, p.1 ≤ n) → r.length = n + 1 → st.foldl (stp us) (spotR (upU :: us) r) = spotR (upU :: us) (st.foldl addAt r)
  | [], r, _, _ => rfl
  | p :: st, r, h, hl => by
    rw [List.foldl_cons, List.foldl_cons]
    have hp := h p List.mem_cons_self
    have hlt : p.1 < (upU :: us).length := by rw [List.length_cons, hn]; omega
    have hu : (upU :: us)[p.1]? = some (dirL us p.1) := by
      unfold dirL
      rw [List.getD_eq_getElem?_getD, List.getElem?_eq_getElem hlt]
      rfl
    have e : stp us (spotR (upU :: us) r) p = spotR (upU :: us) (addAt r p) := by
      unfold addAt
      rw [spot_addAt _ r p.1 p.2 _ hu (by omega)]
      rfl
    rw [e]
    exact stand_row hn st (addAt r p) (fun x hx => h x (List.mem_cons_of_mem _ hx)) (by rw [addAt_len]; exact hl)
theorem walk_let {bs : List Bar} {n : Nat} (G : GoodBars bs n) : ∀ (f : Nat) (k : Int) (m : Rat), ∀ p ∈ walk bs f k m, p.1 ≤ n
  | 0, k, m, p, h => by
    cases List.mem_singleton.mp h
    exact Nat.zero_le _
  | f + 1, k, m, p, h => by
    unfold walk at h
    split at h
    · cases List.mem_singleton.mp h
      exact Nat.zero_le _
    · split at h
      · cases List.mem_singleton.mp h
        exact Nat.zero_le _
      · rename_i b hb
        rcases List.mem_cons.mp h with rfl | h
        · exact G.let_ b (List.mem_of_getElem? hb)
        · exact walk_let G f _ _ p h
theorem gap_spot {us : List Uv} {bs : List Bar} (G : GoodBars bs us.length) (k : Int) (m : Rat) (j : Int) (l : Rat) : gapU us (steps bs k m) (steps bs j l) = spotR (upU :: us) (drow bs us.length k m j l) := by
  have h : ∀ k m, standR us (steps bs k m) = spotR (upU :: us) (rowOf us.length (steps bs k m)) := fun k m => by
    unfold standR rowOf
    rw [← stand_row (n := us.length) rfl (steps bs k m) (List.replicate (us.length + 1) 0) (walk_let G _ _ _) (by simp), spot_zeros]
  unfold gapU drow
  rw [spot_sub _ _ _ (by rw [rowOf_len, rowOf_len]), h, h]
/-! flat poses -/
theorem flat_spot : ∀ (us : List Uv) (r : List Rat), FlatOk us → (spotR us r).1 = 0
  | [], r, _ => rfl
  | us, [], _ => by rw [spotR_nil2]
  | u :: us, q :: r, h => by
    rw [spotR_cons]
    simp only
    rw [flat_spot us r fun x hx => h x (List.mem_cons_of_mem _ hx)]
    rcases h u List.mem_cons_self with rfl | rfl <;> simp [Rat.mul_zero, Rat.add_zero]
theorem flat_sq {us : List Uv} {r : List Rat} {len : Rat} (h : FlatOk us) (e : (spotR (upU :: us) r).2.abs = len) : sqU (spotR (upU :: us) r) = len * len := by
  have h1 := flat_spot (upU :: us) r fun u hu => by
    rcases List.mem_cons.mp hu with rfl | w
    · exact .inl rfl
    · exact h u w
  unfold sqU
  rw [h1, ← e, abs_sq]
  grind
theorem posesL_all : ∀ {n : Nat} {us : List Uv}, us.length = n → FlatOk us → us ∈ posesL n := by
  have key : ∀ (n : Nat) (us : List Uv), us.length = n → FlatOk us → ∃ c, c < 2 ^ n ∧ poseOf n c = us := by
    intro n
    induction n with
    | zero =>
      intro us h _
      exact ⟨0, by decide, by cases us with
        | nil => rfl
        | cons a l => cases h⟩
    | succ n ih =>
      intro us h f
      have ne : us ≠ [] := fun z => by rw [z] at h; cases h
      obtain ⟨c, hc, e⟩ := ih us.dropLast (by rw [List.length_dropLast, h]; rfl) fun u hu => f u ((List.dropLast_subset _) hu)
      have last := List.dropLast_concat_getLast ne
      rcases f _ (List.getLast_mem ne) with z | z
      · refine ⟨2 * c, by rw [Nat.pow_succ]; omega, ?_⟩
        unfold poseOf
        rw [show 2 * c / 2 = c by omega, e, if_pos (by omega)]
        rw [z] at last
        exact last
      · refine ⟨2 * c + 1, by rw [Nat.pow_succ]; omega, ?_⟩
        unfold poseOf
        rw [show (2 * c + 1) / 2 = c by omega, e, if_neg (by omega)]
        rw [z] at last
        exact last
  intro n us h f
  obtain ⟨c, hc, e⟩ := key n us h f
  exact List.mem_map.mpr ⟨c, List.mem_range.mpr hc, e⟩
theorem flatAns_some {n : Nat} {r : List Rat} {len : Rat} {us : List Uv} (h : flatAns n r len = some us) : us.length = n ∧ FlatOk us ∧ sqU (spotR (upU :: us) r) = len * len := by
  have h1 := posesL_mem (List.mem_of_find?_eq_some h)
  have h2 := List.find?_some h
  exact ⟨h1.1, h1.2, flat_sq h1.2 (of_decide_eq_true h2)⟩
/-- each number turned up, or each down -/
def alignS (up : Bool) (r : List Rat) : List Uv := r.map fun q => if (decide (0 ≤ q)) = up then (0, 1) else (0, -1)
theorem align_ok (up : Bool) (r : List Rat) : FlatOk (alignS up r) := fun u hu => by
  obtain ⟨q, _, rfl⟩ := List.mem_map.mp hu
  split
  · exact .inl rfl
  · exact .inr rfl
theorem align_hi (up : Bool) : ∀ r : List Rat, (spotR (alignS up r) r).2 = if up = true then hiR r else -hiR r
  | [] => by
    show (0 : Rat) = _
    have : hiR [] = 0 := rfl
    rw [this]
    cases up <;> simp
  | q :: r => by
    have e : alignS up (q :: r) = (if (decide (0 ≤ q)) = up then (0, 1) else (0, -1)) :: alignS up r := rfl
    rw [e, spotR_cons, align_hi up r, hiR_cons]
    simp only
    rcases abs_cases q with ⟨a1, f1⟩ | ⟨a1, f1⟩ <;> rw [f1] <;> cases up <;> simp [a1] <;> grind
theorem flatAns_hi {n : Nat} {r : List Rat} (h : r.length = n + 1) : ∃ us, flatAns n r (hiR r) = some us := by
  cases r with
  | nil => cases h
  | cons q r =>
    have hl : r.length = n := by simpa using h
    have key : ∃ us ∈ posesL n, flatHit (q :: r) (hiR (q :: r)) us = true := by
      refine ⟨alignS (decide (0 ≤ q)) r, posesL_all (by unfold alignS; rw [List.length_map]; exact hl) (align_ok _ _), decide_eq_true ?_⟩
      rw [spotR_cons, align_hi, hiR_cons]
      simp only
      have nn := hiR_nn r
      rcases abs_cases q with ⟨a1, f1⟩ | ⟨a1, f1⟩
      · rw [f1, if_pos (decide_eq_true a1)]
        rcases abs_cases (q * upU.2 + hiR r) with ⟨a3, f3⟩ | ⟨a3, f3⟩ <;> rw [f3] <;> grind
      · rw [f1, if_neg (by simp; grind)]
        rcases abs_cases (q * upU.2 + -hiR r) with ⟨a3, f3⟩ | ⟨a3, f3⟩ <;> rw [f3] <;> grind
    unfold flatAns
    cases hf : (posesL n).find? (flatHit (q :: r) (hiR (q :: r))) with
    | some us => exact ⟨us, rfl⟩
    | none =>
      obtain ⟨us, h1, h2⟩ := key
      rw [List.find?_eq_none] at hf
      exact absurd h2 (hf us h1)
/-! what flat poses reach -/
theorem signsL_all : ∀ {n : Nat} {s : List Int}, s.length = n → (∀ z ∈ s, z = 1 ∨ z = -1) → s ∈ signsL n
  | 0, s, h, _ => by
    cases s with
    | nil => exact List.mem_singleton.mpr rfl
    | cons a l => cases h
  | n + 1, s, h, f => by
    have ne : s ≠ [] := fun z => by rw [z] at h; cases h
    have ih := signsL_all (n := n) (s := s.dropLast) (by rw [List.length_dropLast, h]; rfl) fun u hu => f u ((List.dropLast_subset _) hu)
    have last := List.dropLast_concat_getLast ne
    refine List.mem_flatMap.mpr ⟨_, ih, ?_⟩
    rcases f _ (List.getLast_mem ne) with z | z <;> rw [z] at last
    · exact List.mem_cons.mpr (.inl last.symm)
    · exact List.mem_cons_of_mem _ (List.mem_singleton.mpr last.symm)
def upS (s : List Int) : List Uv := s.map fun z : Int => (0, (z : Rat))
theorem tot_from (l : List (Int × Rat)) (a : Rat) : l.foldl (fun t p => t + (p.1 : Rat) * p.2) a = a + l.foldl (fun t p => t + (p.1 : Rat) * p.2) 0 := by
  induction l generalizing a with
  | nil => simp [Rat.add_zero]
  | cons b l ih => rw [List.foldl_cons, List.foldl_cons, ih, ih (0 + _), Rat.zero_add, Rat.add_assoc]
theorem tot_spot (a : Rat) (r : List Rat) (s : List Int) : totR (a :: r) s = (spotR (upU :: upS s) (a :: r)).2 := by
  have key : ∀ (s : List Int) (r : List Rat), (List.zip s r).foldl (fun t p => t + (p.1 : Rat) * p.2) 0 = (spotR (upS s) r).2 := by
    intro s
    induction s with
    | nil => intro r; rfl
    | cons z s ih =>
      intro r
      cases r with
      | nil => rfl
      | cons q r =>
        show (List.zip (z :: s) (q :: r)).foldl _ 0 = (spotR ((0, (z : Rat)) :: upS s) (q :: r)).2
        rw [List.zip_cons_cons, List.foldl_cons, tot_from, ih r, spotR_cons]
        simp only
        grind
  unfold totR
  show (List.zip s r).foldl _ a = _
  rw [tot_from, key, spotR_cons]
  simp only
  grind
theorem reach_flat {n : Nat} {r : List Rat} (h : r.length = n + 1) (len : Rat) : reachB r len = (flatAns n r len).isSome := by
  cases r with
  | nil => cases h
  | cons a r =>
    have hl : r.length = n := by simpa using h
    have e : (reachB (a :: r) len = true) ↔ (flatAns n (a :: r) len).isSome = true := by
      unfold reachB flatAns
      rw [List.any_eq_true, List.find?_isSome]
      have en : (a :: r).length - 1 = n := by rw [h]; rfl
      rw [en]
      constructor
      · rintro ⟨s, hs, ht⟩
        obtain ⟨s1, s2⟩ := signsL_mem hs
        refine ⟨upS s, posesL_all (by unfold upS; rw [List.length_map]; exact s1) (fun u hu => ?_), ?_⟩
        · obtain ⟨z, hz, rfl⟩ := List.mem_map.mp hu
          rcases s2 z hz with rfl | rfl
          · exact .inl rfl
          · exact .inr rfl
        · unfold flatHit
          rw [← tot_spot]
          exact ht
      · rintro ⟨us, hu, ht⟩
        obtain ⟨u1, u2⟩ := posesL_mem hu
        have back : ∀ us : List Uv, FlatOk us → ∃ s : List Int, upS s = us ∧ ∀ z ∈ s, z = 1 ∨ z = -1 := by
          intro us
          induction us with
          | nil => exact fun _ => ⟨[], rfl, fun z hz => by cases hz⟩
          | cons u us ih =>
            intro f
            obtain ⟨s, e, hz⟩ := ih fun x hx => f x (List.mem_cons_of_mem _ hx)
            rcases f u List.mem_cons_self with rfl | rfl
            · exact ⟨1 :: s, by rw [← e]; rfl, fun z h => by
                rcases List.mem_cons.mp h with rfl | w
                · exact .inl rfl
                · exact hz z w⟩
            · exact ⟨-1 :: s, by rw [← e]; rfl, fun z h => by
                rcases List.mem_cons.mp h with rfl | w
                · exact .inr rfl
                · exact hz z w⟩
        obtain ⟨s, e, hz⟩ := back us u2
        refine ⟨s, signsL_all (by rw [← u1, ← e]; unfold upS; rw [List.length_map]) hz, ?_⟩
        rw [tot_spot, e]
        exact ht
    cases h1 : reachB (a :: r) len <;> cases h2 : (flatAns n (a :: r) len).isSome <;> simp_all
end K19
set_option maxHeartbeats 4000000
/-! What the law asks of two places of one Arms: sizes, and what chains are. -/
namespace K19
open PySem PySem.Spec PyProof.Rows L2
/-- two places the law may ask about -/
structure Ask (bs : List Bar) (n : Nat) (k : Int) (m : Rat) (j : Int) (l : Rat) : Prop where
  G : GoodBars bs n
  k0 : -1 ≤ k
  k1 : k < bs.length
  j0 : -1 ≤ j
  j1 : j < bs.length
  w : wtS (steps bs k m) + wtS (steps bs j l) ≤ 1400
theorem walk_len (bs : List Bar) : ∀ (f : Nat) (k : Int) (m : Rat), (walk bs f k m).length ≤ f + 1
  | 0, _, _ => Nat.le_refl _
  | f + 1, k, m => by
    unfold walk
    split
    · simp
    · split
      · simp
      · rw [List.length_cons]
        have := walk_len bs f ‹Bar›.host ‹Bar›.mark
        omega
theorem wtT_le {us : List Uv} (h : PoseB us) : ∀ st : List (Nat × Rat), wtT us st ≤ wtS st + 100 * st.length
  | [] => by simp [wtT]
  | p :: st => by
    have ih := wtT_le h st
    rw [wtT_cons, wtS_cons, List.length_cons]
    have hd : bt (dirL us p.1).1 ≤ 50 ∧ bt (dirL us p.1).2 ≤ 50 := by
      unfold dirL
      rw [List.getD_eq_getElem?_getD]
      cases hx : (upU :: us)[p.1]? with
      | none => exact ⟨by decide +kernel, by decide +kernel⟩
      | some u =>
        rcases List.mem_cons.mp (List.mem_of_getElem? hx) with rfl | w
        · exact ⟨by decide +kernel, by decide +kernel⟩
        · exact ⟨(h u w).1, (h u w).2.1⟩
    omega
theorem wtP_le : ∀ (us : List Uv) (r : List Rat), (∀ u ∈ us, bt u.1 ≤ 50 ∧ bt u.2 ≤ 50) → wtP us r ≤ wtR r + 100 * us.length
  | [], r, _ => by simp [wtP]
  | us, [], _ => by cases us <;> simp [wtP]
  | u :: us, q :: r, h => by
    have ih := wtP_le us r fun x hx => h x (List.mem_cons_of_mem _ hx)
    have hu := h u List.mem_cons_self
    have e : wtP (u :: us) (q :: r) = (bt q + bt u.1 + bt u.2 + 1) + wtP us r := by simp [wtP]
    rw [e, wtR_cons, List.length_cons]
    omega
theorem PoseB.up {us : List Uv} (h : PoseB us) : ∀ u ∈ upU :: us, bt u.1 ≤ 50 ∧ bt u.2 ≤ 50 := fun u hu => by
  rcases List.mem_cons.mp hu with rfl | w
  · exact ⟨by decide +kernel, by decide +kernel⟩
  · exact ⟨(h u w).1, (h u w).2.1⟩
theorem PoseB.one {us : List Uv} (h : PoseB us) : ∀ u ∈ upU :: us, sqU u = 1 := fun u hu => by
  rcases List.mem_cons.mp hu with rfl | w
  · unfold sqU
    decide +kernel
  · exact (h u w).2.2
theorem PoseB.ok {us : List Uv} (h : PoseB us) : PoseOk us := fun u hu => ⟨by
  have := h u hu
  unfold Sq
  omega, (h u hu).2.2⟩
theorem FlatOk.b {us : List Uv} (h : FlatOk us) : PoseB us := fun u hu => by
  rcases h u hu with rfl | rfl
  · exact ⟨by decide +kernel, by decide +kernel, by unfold sqU; decide +kernel⟩
  · exact ⟨by decide +kernel, by decide +kernel, by unfold sqU; decide +kernel⟩
section
variable {bs : List Bar} {n : Nat} {k : Int} {m : Rat} {j : Int} {l : Rat} {us : List Uv} {K : PySem.W.Frag} {H : Hp} {x y : D}
theorem Ask.two (A : Ask bs n k m j l) (hx : PlOk K bs H x k m) (hy : PlOk K bs H y j l) : Two K H bs n x k m y j l := ⟨A.G, hx, hy, Nat.le_trans A.w (by decide)⟩
theorem Ask.tt (A : Ask bs n k m j l) : Two K H bs n (.tup [.int k, dq m]) k m (.tup [.int j, dq l]) j l := A.two (.tup ⟨A.k0, A.k1⟩) (.tup ⟨A.j0, A.j1⟩)
theorem Ask.pl (A : Ask bs n k m j l) : PlW bs k m ∧ PlW bs j l := by
  have := A.w
  exact ⟨⟨A.k0, A.k1, by omega⟩, ⟨A.j0, A.j1, by omega⟩⟩
theorem Ask.wr (A : Ask bs n k m j l) : wtR (drow bs n k m j l) ≤ 1420 := by
  have h := drow_wt bs n k m j l
  have := A.w
  have := A.G.n4
  omega
theorem Ask.len (A : Ask bs n k m j l) : (drow bs n k m j l).length = n + 1 := drow_len bs n k m j l
theorem Ask.wt (A : Ask bs us.length k m j l) (h : PoseB us) : wtT us (steps bs k m) ≤ 3000 ∧ wtT us (steps bs j l) ≤ 3000 := by
  have h1 := wtT_le h (steps bs k m)
  have h2 := wtT_le h (steps bs j l)
  have l1 : (steps bs k m).length ≤ _ := walk_len bs (k + 1).toNat k m
  have l2 : (steps bs j l).length ≤ _ := walk_len bs (j + 1).toNat j l
  have a := A.w
  have f := A.G.few
  have := A.k1
  have := A.j1
  constructor <;> omega
theorem Ask.wp (A : Ask bs us.length k m j l) (h : PoseB us) : wtP (upU :: us) (drow bs us.length k m j l) ≤ 1920 := by
  have h1 := wtP_le (upU :: us) (drow bs us.length k m j l) h.up
  have := A.wr
  have := A.G.n4
  rw [List.length_cons] at h1
  omega
theorem Ask.gap (A : Ask bs us.length k m j l) : gapU us (steps bs k m) (steps bs j l) = spotR (upU :: us) (drow bs us.length k m j l) := gap_spot A.G k m j l
theorem Ask.gapSq (A : Ask bs us.length k m j l) (h : PoseB us) : Sq (gapU us (steps bs k m) (steps bs j l)) := by
  rw [A.gap]
  have w := A.wp h
  obtain ⟨h1, h2⟩ := spot_bt (upU :: us) (drow bs us.length k m j l) (List.zip (upU :: us) (drow bs us.length k m j l)).length
  have e : spotTo (upU :: us) (drow bs us.length k m j l) (List.zip (upU :: us) (drow bs us.length k m j l)).length = spotR (upU :: us) (drow bs us.length k m j l) := by
    unfold spotTo spotR
    rw [List.take_length]
  rw [e] at h1 h2
  unfold Sq
  omega
theorem bt_hi (r : List Rat) : bt (hiR r) ≤ 1 + wtR r := by
  have := bt_sumq (absR r)
  rw [wtR_abs] at this
  exact this
theorem bt_mem {r : List Rat} {q : Rat} (h : q ∈ r) : bt q ≤ wtR r := by
  induction r with
  | nil => cases h
  | cons a l ih =>
    rw [wtR_cons]
    rcases List.mem_cons.mp h with rfl | w
    · omega
    · have := ih w
      omega
theorem bt_lo (r : List Rat) (h : r ≠ []) : bt (loR r) ≤ 3 * wtR r + 4 := by
  unfold loR
  split
  · have g := bt_mem (gmax_in (l := absR r) (by unfold absR; intro z; exact h (List.map_eq_nil_iff.mp z)))
    rw [wtR_abs] at g
    have a := bt_add (gmax (absR r)) (gmax (absR r))
    have b := bt_sub (gmax (absR r) + gmax (absR r)) (hiR r)
    have c := bt_hi r
    omega
  · have : bt 0 ≤ 4 := by decide +kernel
    omega
end
/-! chains -/
theorem chain_at {r : List Rat} {i : Nat} (h : i < r.length - 1) : (chainB r)[i]? = some ⟨(i : Int) - 1, r.getD i 0, i + 1⟩ := by
  unfold chainB
  rw [List.getElem?_map, List.getElem?_range h]
  rfl
theorem chain_len (r : List Rat) : (chainB r).length = r.length - 1 := by
  unfold chainB
  rw [List.length_map, List.length_range]
theorem chain_good {r : List Rat} (h1 : 2 ≤ r.length) (h2 : r.length ≤ 5) : GoodBars (chainB r) (r.length - 1) := by
  have at_ : ∀ {i : Nat} {b : Bar}, (chainB r)[i]? = some b → i < r.length - 1 ∧ b = ⟨(i : Int) - 1, r.getD i 0, i + 1⟩ := fun {i b} hb => by
    have hi := (List.getElem?_eq_some_iff.mp hb).1
    rw [chain_len] at hi
    rw [chain_at hi] at hb
    cases hb
    exact ⟨hi, rfl⟩
  refine ⟨by rw [chain_len]; omega, by rw [chain_len]; omega, fun i b hb => ?_, fun b hb => ?_, by omega, by omega, fun k k1 k2 => ?_⟩
  · obtain ⟨_, rfl⟩ := at_ hb
    exact ⟨by simp only; omega, Int.le_refl _⟩
  · obtain ⟨i, hi⟩ := List.getElem?_of_mem hb
    obtain ⟨h, rfl⟩ := at_ hi
    simp only
    omega
  · exact ⟨_, List.mem_of_getElem? (chain_at (r := r) (i := k - 1) (by omega)), by simp only; omega⟩
theorem chain_steps {r : List Rat} (h1 : 2 ≤ r.length) (h2 : r.length ≤ 5) (i : Nat) (hi : i < r.length - 1) (m : Rat) : steps (chainB r) (i : Int) m = (i + 1, m) :: steps (chainB r) ((i : Int) - 1) (r.getD i 0) := by
  have := steps_pos (chain_good h1 h2) (k := (i : Int)) (m := m) (b := ⟨(i : Int) - 1, r.getD i 0, i + 1⟩) (by omega) (by rw [Int.toNat_natCast]; exact chain_at hi)
  exact this
theorem take_wt {r : List Rat} {i : Nat} (h : i < r.length) : wtR (r.take (i + 1)) = wtR (r.take i) + (bt (r.getD i 0) + 1) := by
  rw [List.take_add_one, List.getElem?_eq_getElem h, Option.toList_some]
  unfold wtR
  rw [List.map_append, List.sum_append, List.getD_eq_getElem?_getD, List.getElem?_eq_getElem h]
  simp
theorem chain_wt {r : List Rat} (h1 : 2 ≤ r.length) (h2 : r.length ≤ 5) : ∀ (i : Nat) (m : Rat), i ≤ r.length - 1 → wtS (steps (chainB r) ((i : Int) - 1) m) = (bt m + 1) + wtR (r.take i)
  | 0, m, _ => by
    rw [steps_neg (by omega)]
    simp [wtS, wtR]
  | i + 1, m, hi => by
    have e : ((i + 1 : Nat) : Int) - 1 = (i : Int) := by omega
    rw [e, chain_steps h1 h2 i (by omega), wtS_cons, chain_wt h1 h2 i _ (by omega), take_wt (by omega)]
    simp only
    omega
theorem take_spot {us : List Uv} {r : List Rat} {i : Nat} {u : Uv} {q : Rat} (hu : us[i]? = some u) (hq : r[i]? = some q) : spotTo us r (i + 1) = ((spotTo us r i).1 + q * u.1, (spotTo us r i).2 + q * u.2) :=
  spotTo_step (p := (u, q)) (by rw [List.getElem?_zip_eq_some]; exact ⟨hu, hq⟩)
theorem chain_stand {us : List Uv} {r : List Rat} (hl : r.length = us.length + 1) (h1 : 2 ≤ r.length) (h2 : r.length ≤ 5) : ∀ (i : Nat) (m : Rat) (s : Uv), i ≤ r.length - 1 →
    (steps (chainB r) ((i : Int) - 1) m).foldl (stp us) s = (s.1 + (m * (dirL us i).1 + (spotTo (upU :: us) r i).1), s.2 + (m * (dirL us i).2 + (spotTo (upU :: us) r i).2))
  | 0, m, s, _ => by
    rw [steps_neg (by omega)]
    show stp us s (0, m) = _
    unfold stp
    have e : spotTo (upU :: us) r 0 = (0, 0) := rfl
    rw [e]
    simp only
    congr 1 <;> rw [Rat.add_zero]
  | i + 1, m, s, hi => by
    have e : ((i + 1 : Nat) : Int) - 1 = (i : Int) := by omega
    have hu : (upU :: us)[i]? = some (dirL us i) := by
      have hlt : i < (upU :: us).length := by rw [List.length_cons]; omega
      unfold dirL
      rw [List.getD_eq_getElem?_getD, List.getElem?_eq_getElem hlt]
      rfl
    have hq : r[i]? = some (r.getD i 0) := by
      rw [List.getD_eq_getElem?_getD, List.getElem?_eq_getElem (by omega)]
      rfl
    rw [e, chain_steps h1 h2 i (by omega), List.foldl_cons, chain_stand hl h1 h2 i _ _ (by omega), take_spot hu hq]
    unfold stp
    simp only
    congr 1 <;> grind
theorem chain_end {us : List Uv} {r : List Rat} (hl : r.length = us.length + 1) (h1 : 2 ≤ r.length) (h2 : r.length ≤ 5) : standR us (steps (chainB r) ((r.length : Int) - 2) (r.getD (r.length - 1) 0)) = spotR (upU :: us) r := by
  have e : ((r.length - 1 : Nat) : Int) - 1 = (r.length : Int) - 2 := by omega
  have h := chain_stand hl h1 h2 (r.length - 1) (r.getD (r.length - 1) 0) (0, 0) (Nat.le_refl _)
  rw [e] at h
  have hlt : r.length - 1 < (upU :: us).length := by rw [List.length_cons]; omega
  have hu : (upU :: us)[r.length - 1]? = some (dirL us (r.length - 1)) := by
    unfold dirL
    rw [List.getD_eq_getElem?_getD, List.getElem?_eq_getElem hlt]
    rfl
  have hq : r[r.length - 1]? = some (r.getD (r.length - 1) 0) := by
    rw [List.getD_eq_getElem?_getD, List.getElem?_eq_getElem (by omega)]
    rfl
  have t := take_spot hu hq
  have e3 : spotTo (upU :: us) r (r.length - 1 + 1) = spotR (upU :: us) r := by
    unfold spotTo spotR
    rw [List.take_of_length_le]
    rw [List.length_zip]
    omega
  unfold standR
  rw [h, ← e3, t]
  simp only
  congr 1 <;> grind
theorem chain_ask {r : List Rat} {m : Rat} (h1 : 2 ≤ r.length) (h2 : r.length ≤ 5) (hw : wtR r ≤ 1332) (hm : bt m ≤ 21) : Ask (chainB r) (r.length - 1) ((r.length : Int) - 2) (r.getD (r.length - 1) 0) (-1) m := by
  have e : ((r.length - 1 : Nat) : Int) - 1 = (r.length : Int) - 2 := by omega
  have w := chain_wt h1 h2 (r.length - 1) (r.getD (r.length - 1) 0) (Nat.le_refl _)
  have t := take_wt (r := r) (i := r.length - 1) (by omega)
  rw [show r.length - 1 + 1 = r.length by omega, List.take_length] at t
  rw [e] at w
  refine ⟨chain_good h1 h2, by omega, by rw [chain_len]; omega, by decide, by rw [chain_len]; omega, ?_⟩
  rw [w, steps_neg (by decide)]
  have : wtS [(0, m)] = bt m + 1 := by simp [wtS]
  omega
theorem Ask.swap {bs : List Bar} {n : Nat} {k : Int} {m : Rat} {j : Int} {l : Rat} (A : Ask bs n k m j l) : Ask bs n j l k m := ⟨A.G, A.j0, A.j1, A.k0, A.k1, by have := A.w; omega⟩
/-- a chain that closes -/
theorem chain_closed {us : List Uv} {r : List Rat} (hl : r.length = us.length + 1) (h1 : 2 ≤ r.length) (h2 : r.length ≤ 5) (hs : spotR (upU :: us) r = (0, 0)) :
    spotR (upU :: us) (drow (chainB r) us.length ((r.length : Int) - 2) (r.getD (r.length - 1) 0) (-1) 0) = (0, 0) ∧ spotR (upU :: us) (drow (chainB r) us.length (-1) 0 ((r.length : Int) - 2) (r.getD (r.length - 1) 0)) = (0, 0) := by
  have n : us.length = r.length - 1 := by omega
  have G : GoodBars (chainB r) us.length := by rw [n]; exact chain_good h1 h2
  have z : standR us (steps (chainB r) (-1) 0) = (0, 0) := by
    rw [steps_neg (by decide)]
    show stp us (0, 0) (0, 0) = _
    unfold stp
    simp only [Rat.zero_mul, Rat.add_zero]
  rw [← gap_spot G, ← gap_spot G]
  unfold gapU
  rw [chain_end hl h1 h2, hs, z]
  decide +kernel
theorem lo_zero {us : List Uv} {r : List Rat} (h : ∀ u ∈ us, sqU u = 1) (hl : us.length = r.length) (hs : spotR us r = (0, 0)) : loR r = 0 := by
  have b := spot_lo h hl
  rw [hs] at b
  have n := loR_nn r
  have e : sqU ((0, 0) : Uv) = 0 := by unfold sqU; decide +kernel
  rw [e] at b
  have := le_of_sq (a := loR r) (b := 0) Rat.le_refl (by grind)
  grind
/-! the world's bars -/
theorem walk_marks {bs : List Bar} {c : Nat} (h : ∀ b ∈ bs, bt b.mark ≤ c) : ∀ (f : Nat) (k : Int) (m : Rat), bt m ≤ c → wtS (walk bs f k m) ≤ (c + 1) * (walk bs f k m).length
  | 0, k, m, hm => by
    show wtS [(0, m)] ≤ (c + 1) * 1
    simp [wtS]
    omega
  | f + 1, k, m, hm => by
    have one : wtS [(0, m)] ≤ (c + 1) * [((0, m) : Nat × Rat)].length := by
      simp [wtS]
      omega
    unfold walk
    split
    · exact one
    · split
      · exact one
      · rename_i b hb
        have ih := walk_marks h f b.host b.mark (h b (List.mem_of_getElem? hb))
        rw [wtS_cons, List.length_cons, Nat.mul_succ]
        simp only
        omega
theorem world_ask {bs : List Bar} {n : Nat} {k : Int} {m : Rat} {j : Int} {l : Rat} (G : GoodBars bs n) (h : ∀ b ∈ bs, bt b.mark ≤ 21) (k0 : -1 ≤ k) (k1 : k < bs.length) (hm : bt m ≤ 21) (j0 : -1 ≤ j) (j1 : j < bs.length) (hl : bt l ≤ 21) : Ask bs n k m j l := by
  refine ⟨G, k0, k1, j0, j1, ?_⟩
  have f := G.few
  have one : ∀ (k : Int) (m : Rat), k < bs.length → bt m ≤ 21 → wtS (steps bs k m) ≤ 22 * 7 := fun k m hk hm => by
    have a : wtS (steps bs k m) ≤ 22 * (steps bs k m).length := walk_marks h _ k m hm
    have b : (steps bs k m).length ≤ (k + 1).toNat + 1 := walk_len bs _ k m
    omega
  have a := one k m k1 hm
  have b := one j l j1 hl
  omega
end K19
set_option maxHeartbeats 4000000
/-! A run that wakes none of the sleeping generators goes the same way whatever they are. -/
namespace K19
open PySem
open Sem (wp)
/-- no frame of a generator -/
def ngF : Frame → Bool
  | .gen .. => false
  | _ => true
def ngS : GenState → Bool
  | .suspended _ _ _ _ fs _ => fs.all ngF
  | _ => true
def ngE : End → Bool
  | .susp _ _ _ _ _ _ fs => fs.all ngF
  | _ => true
theorem ng_split : ∀ {fs : List Frame}, fs.all ngF = true → splitAtGen fs = none
  | [], _ => rfl
  | .gen .. :: _, h => by simp [ngF] at h
  | .ret k h0 g l c p kp :: fs, h => by
    have h2 : fs.all ngF = true := by simpa [ngF] using h
    show (splitAtGen fs).map _ = none
    rw [ng_split h2]
    rfl
theorem unsup0 {M : Model} {Γ : Ctx} {p : Pos} {w : String} {s s' : Shared} {e : End} (h : Runs M Γ p (.unsupported w) [] s e s') : False := by cases h
theorem unsup {M : Model} {Γ : Ctx} {p : Pos} {w : String} {fs : List Frame} {s s' : Shared} {e : End} (h : Runs M Γ p (.unsupported w) fs s e s') : False := by
  cases h with
  | segRet h _ => exact unsup0 h
  | segGen h _ => exact unsup0 h
  | segSuspOut _ h => exact unsup0 h
  | segSuspGen _ h _ _ => exact unsup0 h
/-- one that can't be woken, seen as x is -/
def stk : GenState → GenState
  | .suspended _ _ c p fs cl => .suspended (fun _ => .unsupported "") [] c p (fs.map fun f => .ret (fun _ => .unsupported "") none false [] f.where_.1 f.where_.2 []) false
  | x => x
def isSusp : GenState → Bool
  | .suspended .. => true
  | _ => false
theorem stk_seen (x : GenState) : (stk x).seen = x.seen := by
  cases x with
  | suspended k l c p fs cl =>
    show (_, some ((c, p) :: List.map Frame.where_ (fs.map _))) = (_, some ((c, p) :: fs.map Frame.where_))
    rw [List.map_map]
    rfl
  | _ => rfl
theorem stk_bare (x : GenState) : (stk x).bare = true := by cases x <;> rfl
/-- the sleepers as they are in truth -/
def un (f : Nat → Option GenState) (s : Shared) : Shared := { s with gens := s.gens.mapIdx fun i x => (f i).getD x }
structure UnOk (f : Nat → Option GenState) (s : Shared) : Prop where
  dom : ∀ i G, f i = some G → isSusp G = true ∧ s.gens[i]? = some (stk G)
  ng : ∀ i x, f i = none → s.gens[i]? = some x → ngS x = true
section
variable {f : Nat → Option GenState} {s : Shared}
theorem un_get (i : Nat) : (un f s).gens[i]? = (s.gens[i]?).map fun x => (f i).getD x := by
  unfold un
  rw [Array.getElem?_mapIdx]
theorem un_size : (un f s).gens.size = s.gens.size := by
  unfold un
  rw [Array.size_mapIdx]
theorem un_set {g : Nat} {x : GenState} (h : f g = none) : un f (s.setGen g x) = (un f s).setGen g x := by
  unfold un Shared.setGen
  congr 1
  apply Array.ext_getElem?
  intro i
  rw [Array.getElem?_mapIdx, Array.getElem?_setIfInBounds, Array.getElem?_setIfInBounds, Array.getElem?_mapIdx, Array.size_mapIdx]
  by_cases e : g = i
  · subst e
    simp only [if_true]
    split
    · rw [Option.map_some, h]; rfl
    · rfl
  · rw [if_neg e, if_neg e]
theorem un_push {x : GenState} (h : f s.gens.size = none) : un f { s with gens := s.gens.push x } = { un f s with gens := (un f s).gens.push x } := by
  unfold un
  congr 1
  apply Array.ext_getElem?
  intro i
  rw [Array.getElem?_mapIdx, Array.getElem?_push, Array.getElem?_push, Array.getElem?_mapIdx, Array.size_mapIdx]
  by_cases e : i = s.gens.size
  · subst e
    rw [if_pos rfl, if_pos rfl, Option.map_some, h]
    rfl
  · rw [if_neg e, if_neg e]
theorem UnOk.top (U : UnOk f s) : f s.gens.size = none := by
  cases h : f s.gens.size with
  | none => rfl
  | some G =>
    have := (U.dom _ _ h).2
    rw [Array.getElem?_eq_none (Nat.le_refl _)] at this
    cases this
theorem UnOk.set {g : Nat} {x : GenState} (U : UnOk f s) (h : f g = none) (hx : ngS x = true) : UnOk f (s.setGen g x) where
  dom := fun i G q => by
    have ne : g ≠ i := fun e => by rw [e, q] at h; cases h
    refine ⟨(U.dom i G q).1, ?_⟩
    show (s.gens.setIfInBounds g x)[i]? = _
    rw [Array.getElem?_setIfInBounds, if_neg ne]
    exact (U.dom i G q).2
  ng := fun i y q hy => by
    replace hy : (s.gens.setIfInBounds g x)[i]? = some y := hy
    rw [Array.getElem?_setIfInBounds] at hy
    split at hy
    · split at hy
      · cases hy; exact hx
      · cases hy
    · exact U.ng i y q hy
theorem UnOk.push {x : GenState} (U : UnOk f s) (hx : ngS x = true) : UnOk f { s with gens := s.gens.push x } where
  dom := fun i G q => by
    obtain ⟨a, b⟩ := U.dom i G q
    refine ⟨a, ?_⟩
    have lt := (Array.getElem?_eq_some_iff.mp b).1
    show (s.gens.push x)[i]? = _
    rw [Array.getElem?_push, if_neg (Nat.ne_of_lt lt)]
    exact b
  ng := fun i y q hy => by
    replace hy : (s.gens.push x)[i]? = some y := hy
    rw [Array.getElem?_push] at hy
    split at hy
    · cases hy; exact hx
    · exact U.ng i y q hy
theorem UnOk.awake (U : UnOk f s) {g : Nat} {x : GenState} (h : s.gens[g]? = some x) (hx : isSusp x = false) : f g = none := by
  cases q : f g with
  | none => rfl
  | some G =>
    obtain ⟨a, b⟩ := U.dom g G q
    rw [h] at b
    cases b
    cases G <;> first | cases a; done | cases hx
theorem un_at (U : UnOk f s) {g : Nat} {x : GenState} (q : f g = none) (h : s.gens[g]? = some x) : (un f s).gens[g]? = some x := by
  rw [un_get, h, Option.map_some, q]
  rfl
end
theorem ng_state {e : End} (h : ngE e = true) : ngS e.genState = true := by
  cases e with
  | ret _ => rfl
  | susp v g l k c p fs => exact h
theorem runs_un {M : Model} {f : Nat → Option GenState} {Γ : Ctx} {p : Pos} {t : Sem PySem.Fin} {fs : List Frame} {s s' : Shared} {e : End} (h : Runs M Γ p t fs s e s') : fs.all ngF = true → UnOk f s → UnOk f s' ∧ ngE e = true ∧ Runs M Γ p t fs (un f s) e (un f s') := by
  induction h with
  | done => exact fun _ U => ⟨U, rfl, .done⟩
  | raise => exact fun _ U => ⟨U, rfl, .raise⟩
  | again q _ ih => exact fun n U => let ⟨a, b, c⟩ := ih n U; ⟨a, b, .again q c⟩
  | rule _ ih => exact fun n U => let ⟨a, b, c⟩ := ih n U; ⟨a, b, .rule c⟩
  | «at» _ ih => exact fun n U => let ⟨a, b, c⟩ := ih n U; ⟨a, b, .at c⟩
  | load q _ ih => exact fun n U => let ⟨a, b, c⟩ := ih n U; ⟨a, b, .load q c⟩
  | update q _ ih => exact fun n U => let ⟨a, b, c⟩ := ih n ⟨U.dom, U.ng⟩; ⟨a, b, .update q c⟩
  | loadIfAlive _ ih => exact fun n U => let ⟨a, b, c⟩ := ih n U; ⟨a, b, .loadIfAlive c⟩
  | point _ ih => exact fun n U => let ⟨a, b, c⟩ := ih n U; ⟨a, b, .point c⟩
  | alloc _ ih => exact fun n U => let ⟨a, b, c⟩ := ih n ⟨U.dom, U.ng⟩; ⟨a, b, .alloc c⟩
  | fresh _ ih => exact fun n U => let ⟨a, b, c⟩ := ih n ⟨U.dom, U.ng⟩; ⟨a, b, .fresh c⟩
  | ask _ ih => exact fun n U => let ⟨a, b, c⟩ := ih n U; ⟨a, b, .ask c⟩
  | choose q _ ih => exact fun n U => let ⟨a, b, c⟩ := ih n ⟨U.dom, U.ng⟩; ⟨a, b, .choose q c⟩
  | os _ ih => exact fun n U => let ⟨a, b, c⟩ := ih n ⟨U.dom, U.ng⟩; ⟨a, b, .os c⟩
  | handled _ ih => exact fun n U => let ⟨a, b, c⟩ := ih n U; ⟨a, b, .handled c⟩
  | @genState g st _ _ _ s _ _ q _ ih =>
    intro n U
    obtain ⟨a, b, c⟩ := ih n U
    cases z : f g with
    | none => exact ⟨a, b, .genState (un_at U z q) c⟩
    | some G =>
      have hs := (U.dom g G z).2
      rw [q] at hs
      cases hs
      rw [stk_seen] at c
      exact ⟨a, b, .genState (st := G) (by rw [un_get, q, Option.map_some, z]; rfl) c⟩
  | stack _ ih => exact fun n U => let ⟨a, b, c⟩ := ih n U; ⟨a, b, .stack c⟩
  | thread _ ih => exact fun n U => let ⟨a, b, c⟩ := ih n U; ⟨a, b, .thread c⟩
  | newGen _ ih =>
    intro n U
    obtain ⟨a, b, c⟩ := ih n (U.push rfl)
    rw [un_push U.top] at c
    exact ⟨a, b, .newGen (by rw [un_size]; exact c)⟩
  | call _ _ ih1 ih2 =>
    intro n U
    obtain ⟨a1, b1, c1⟩ := ih1 rfl U
    obtain ⟨a2, b2, c2⟩ := ih2 rfl a1
    exact ⟨a2, b2, .call c1 c2⟩
  | callSusp _ ih =>
    intro n U
    obtain ⟨a1, b1, c1⟩ := ih rfl U
    refine ⟨a1, ?_, .callSusp c1⟩
    have b1 : List.all _ ngF = true := b1
    show List.all (_ ++ _) ngF = true
    rw [List.all_append, b1]
    rfl
  | yield => exact fun _ U => ⟨U, rfl, .yield⟩
  | resumeFresh q _ qu _ ih1 ih2 =>
    intro n U
    have z := U.awake q rfl
    obtain ⟨a1, b1, c1⟩ := ih1 rfl (U.set z rfl)
    rw [un_set z] at c1
    obtain ⟨a2, b2, c2⟩ := ih2 rfl (a1.set z (ng_state b1))
    rw [un_set z] at c2
    exact ⟨a2, b2, .resumeFresh (un_at U z q) c1 qu c2⟩
  | @resumeSuspended Γ p g r l k s k₀ l₀ c₀ p₀ fs cl e₁ s₁ e s' q hr qu _ ih1 ih2 =>
    intro n U
    cases z : f g with
    | some G =>
      exfalso
      have hs := (U.dom g G z)
      rw [q] at hs
      obtain ⟨a, b⟩ := hs
      cases G <;> first | (cases a; done) | skip
      cases b
      exact unsup hr
    | none =>
      obtain ⟨a1, b1, c1⟩ := ih1 (U.ng g _ z q) (U.set z rfl)
      rw [un_set z] at c1
      obtain ⟨a2, b2, c2⟩ := ih2 rfl (a1.set z (ng_state b1))
      rw [un_set z] at c2
      exact ⟨a2, b2, .resumeSuspended (un_at U z q) c1 qu c2⟩
  | resumeJustStarted q v _ ih =>
    intro n U
    obtain ⟨a, b, c⟩ := ih n U
    exact ⟨a, b, .resumeJustStarted (un_at U (U.awake q rfl) q) v c⟩
  | resumeThrowFresh q _ ih =>
    intro n U
    have z := U.awake q rfl
    obtain ⟨a, b, c⟩ := ih n (U.set z rfl)
    rw [un_set z] at c
    exact ⟨a, b, .resumeThrowFresh (un_at U z q) c⟩
  | resumeRunning q _ ih =>
    intro n U
    obtain ⟨a, b, c⟩ := ih n U
    exact ⟨a, b, .resumeRunning (un_at U (U.awake q rfl) q) c⟩
  | resumeFinished q _ ih =>
    intro n U
    obtain ⟨a, b, c⟩ := ih n U
    exact ⟨a, b, .resumeFinished (un_at U (U.awake q rfl) q) c⟩
  | segRet _ _ ih1 ih2 =>
    intro n U
    obtain ⟨a1, b1, c1⟩ := ih1 rfl U
    obtain ⟨a2, b2, c2⟩ := ih2 (by simpa [ngF] using n) a1
    exact ⟨a2, b2, .segRet c1 c2⟩
  | segGen _ _ _ _ => exact fun n => absurd n (by simp [ngF])
  | segSuspOut q _ ih =>
    intro n U
    obtain ⟨a1, b1, c1⟩ := ih rfl U
    refine ⟨a1, ?_, .segSuspOut q c1⟩
    have b1 : List.all _ ngF = true := b1
    show List.all (_ ++ _) ngF = true
    rw [List.all_append, b1, n]
    rfl
  | segSuspGen q _ _ _ _ _ => exact fun n => by rw [ng_split n] at q; cases q
theorem wakes_js {M : Model} {Γ : Ctx} {p : Pos} {g : Nat} {v : Value} {c : Code} {s : Shared} (hv : v ≠ .none) (q : s.gens[g]? = some (.fresh c)) : Wakes M Γ p g (.send v) s .justStarted s := by
  unfold Wakes
  rw [q]
  cases v <;> first | exact absurd rfl hv | exact ⟨rfl, rfl⟩
theorem wp_un {α : Type} {M : Model} {f : Nat → Option GenState} {Γ : Ctx} {t : Sem α} : ∀ {Q : α → Pos → Shared → Prop} {E : Value → Pos → Shared → Prop} {p : Pos} {s : Shared}, UnOk f s → wp M Γ t Q E p s →
    wp M Γ t (fun a p' s' => ∃ z, UnOk f z ∧ s' = un f z ∧ Q a p' z) (fun e p' s' => ∃ z, UnOk f z ∧ s' = un f z ∧ E e p' z) p (un f s) := by
  induction t with
  | pure a => intro Q E p s U h; exact ⟨s, U, rfl, h⟩
  | raise e => intro Q E p s U h; exact ⟨s, U, rfl, h⟩
  | unsupported _ => intro Q E p s _ h; exact h
  | finish _ => intro Q E p s _ h; exact h
  | rule _ k ih => intro Q E p s U h; exact ih () U h
  | «at» p' k ih => intro Q E p s U h; exact ih () U h
  | load a _ k ih => intro Q E p s U h; obtain ⟨o, ho, h⟩ := h; exact ⟨o, ho, ih o U h⟩
  | update a _ g k ih => intro Q E p s U h; exact ⟨h.1, ih () (s := { s with heap := s.heap.update a g }) ⟨U.dom, U.ng⟩ h.2⟩
  | loadIfAlive a k ih => intro Q E p s U h; exact ih _ U h
  | point _ k ih => intro Q E p s U h; exact ih () U h
  | register _ _ => intro Q E p s _ h; exact h
  | alloc o k ih => intro Q E p s U h; exact ih _ (s := { s with heap := s.heap.push o }) ⟨U.dom, U.ng⟩ h
  | fresh k ih => intro Q E p s U h; exact ih _ (s := { s with toks := s.toks + 1 }) ⟨U.dom, U.ng⟩ h
  | ask k ih => intro Q E p s U h; exact ih _ U h
  | choose src m k ih => intro Q E p s U h; exact ⟨h.1, ih _ (s := { s with drawn := s.drawn.bump src }) ⟨U.dom, U.ng⟩ h.2⟩
  | os q _ k ih => intro Q E p s U h; exact ih _ (s := { s with os := (Os.step s.os q).1 }) ⟨U.dom, U.ng⟩ h
  | call c hd _ _ k ih =>
    intro Q E p s U h
    obtain ⟨r, s', hr, h⟩ := h
    obtain ⟨a, _, c1⟩ := runs_un (f := f) hr rfl U
    exact ⟨r, un f s', c1, ih r a h⟩
  | handled own k ih => intro Q E p s U h; exact ih _ U h
  | genState g k ih =>
    intro Q E p s U h
    obtain ⟨st, hs, h⟩ := h
    cases z : f g with
    | none => exact ⟨st, un_at U z hs, ih _ U h⟩
    | some G =>
      have h2 := (U.dom g G z).2
      rw [hs] at h2
      cases h2
      rw [stk_seen] at h
      exact ⟨G, by rw [un_get, hs, Option.map_some, z]; rfl, ih _ U h⟩
  | newGen c k ih =>
    intro Q E p s U h
    have := ih _ (U.push (x := .fresh c) rfl) h
    rw [un_push U.top] at this
    show wp M Γ (k (un f s).gens.size) _ _ p _
    rw [un_size]
    exact this
  | resume g r _ k ih =>
    intro Q E p s U h
    obtain ⟨res, s', hw, h⟩ := h
    unfold Wakes at hw
    split at hw
    · exact hw.elim
    · rename_i c q
      have z := U.awake q rfl
      split at hw
      · obtain ⟨e₁, s₁, hr, qu, rfl, rfl⟩ := hw
        obtain ⟨a1, b1, c1⟩ := runs_un (f := f) hr rfl (U.set z rfl)
        rw [un_set z] at c1
        refine ⟨_, un f (s₁.setGen g e₁.genState), ?_, ih _ (a1.set z (ng_state b1)) h⟩
        unfold Wakes
        rw [un_at U z q]
        exact ⟨e₁, un f s₁, c1, qu, rfl, un_set z⟩
      · obtain ⟨rfl, rfl⟩ := hw
        rename_i hv
        exact ⟨_, un f s', wakes_js (fun e => hv e) (un_at U z q), ih _ U h⟩
      · obtain ⟨rfl, rfl⟩ := hw
        refine ⟨_, un f (s.setGen g .finished), ?_, ih _ (U.set z rfl) h⟩
        unfold Wakes
        rw [un_at U z q]
        exact ⟨rfl, un_set z⟩
    · rename_i k₀ l₀ c₀ p₀ fs cl q
      obtain ⟨e₁, s₁, hr, qu, rfl, rfl⟩ := hw
      cases z : f g with
      | some G =>
        exfalso
        have hs := (U.dom g G z)
        rw [q] at hs
        obtain ⟨a, b⟩ := hs
        cases G <;> first | (cases a; done) | skip
        cases b
        exact unsup hr
      | none =>
        obtain ⟨a1, b1, c1⟩ := runs_un (f := f) hr (U.ng g _ z q) (U.set z rfl)
        rw [un_set z] at c1
        refine ⟨_, un f (s₁.setGen g e₁.genState), ?_, ih _ (a1.set z (ng_state b1)) h⟩
        unfold Wakes
        rw [un_at U z q]
        exact ⟨e₁, un f s₁, c1, qu, rfl, un_set z⟩
    · rename_i q
      obtain ⟨rfl, rfl⟩ := hw
      refine ⟨_, un f s', ?_, ih _ U h⟩
      unfold Wakes
      rw [un_at U (U.awake q rfl) q]
      exact ⟨rfl, rfl⟩
    · rename_i q
      obtain ⟨rfl, rfl⟩ := hw
      refine ⟨_, un f s', ?_, ih _ U h⟩
      unfold Wakes
      rw [un_at U (U.awake q rfl) q]
      exact ⟨rfl, rfl⟩
  | yield _ _ _ _ => intro Q E p s _ h; exact h
  | stack k ih => intro Q E p s U h; exact ih _ U h
  | fork _ _ => intro Q E p s _ h; exact h
  | thread k ih => intro Q E p s U h; exact ih _ U h
  | await _ _ _ _ _ => intro Q E p s _ h; exact h
/-- all that sleep, put out of reach -/
def sleepers (s : Shared) : Nat → Option GenState := fun i => (s.gens[i]?).bind fun x => if isSusp x = true then some x else none
def lull (s : Shared) : Shared := { s with gens := s.gens.map fun x => stk x }
theorem lull_ok (s : Shared) : UnOk (sleepers s) (lull s) where
  dom := fun i G h => by
    unfold sleepers at h
    cases q : s.gens[i]? with
    | none => rw [q] at h; cases h
    | some x =>
      rw [q] at h
      replace h : (if isSusp x = true then some x else none) = some G := h
      split at h
      · cases h
        refine ⟨by assumption, ?_⟩
        show (s.gens.map _)[i]? = _
        rw [Array.getElem?_map, q]
        rfl
      · cases h
  ng := fun i x h q => by
    replace q : (s.gens.map fun x => stk x)[i]? = some x := q
    rw [Array.getElem?_map] at q
    unfold sleepers at h
    cases z : s.gens[i]? with
    | none => rw [z] at q; cases q
    | some y =>
      rw [z] at q h
      replace h : (if isSusp y = true then some y else none) = none := h
      split at h
      · cases h
      · cases q
        cases y <;> first | rfl | (rename_i a; exact absurd rfl a)
theorem lull_un (s : Shared) : un (sleepers s) (lull s) = s := by
  unfold un lull sleepers
  obtain ⟨h, g, d, t, o⟩ := s
  show Shared.mk h _ d t o = Shared.mk h g d t o
  congr 1
  apply Array.ext_getElem?
  intro i
  rw [Array.getElem?_mapIdx, Array.getElem?_map]
  cases q : g[i]? with
  | none => rfl
  | some x =>
    rw [Option.map_some, Option.map_some]
    show some (Option.getD (if isSusp x = true then some x else none) (stk x)) = some x
    cases x <;> rfl
theorem un_sleep {s z : Shared} (U : UnOk (sleepers s) z) {i : Nat} {G : GenState} (h : s.gens[i]? = some G) (hs : isSusp G = true) : (un (sleepers s) z).gens[i]? = some G := by
  have q : sleepers s i = some G := by
    unfold sleepers
    rw [h]
    show (if isSusp G = true then some G else none) = some G
    rw [if_pos hs]
  rw [un_get, (U.dom i G q).2, Option.map_some, q]
  rfl
theorem wpAny_un {α : Type} {M : Model} {A : Around} {s : Shared} {t : Sem α} {Q : α → Shared → Prop} {E : Value → Shared → Prop} (h : wpAny M A t Q E (lull s)) :
    wpAny M A t (fun a s' => ∃ z, UnOk (sleepers s) z ∧ s' = un (sleepers s) z ∧ Q a z) (fun e s' => ∃ z, UnOk (sleepers s) z ∧ s' = un (sleepers s) z ∧ E e z) s := fun Γ p hΓ => by
  have := wp_un (lull_ok s) (h Γ p hΓ)
  rw [lull_un] at this
  exact this
end K19
set_option maxHeartbeats 4000000
/-! The machine's steps where a generator may sleep over another one: no cleanup of it is ever seen. -/
namespace K19
open PySem
open Sem (wp)
/-- a yield inside «yield from» over a generator: nothing of it is registered -/
structure OkY (s : Shared) (t : Thread) : Prop where
  cur : ∃ v g l k, t.cur = .yield v g l k
  fr : ∃ fs b rest, splitAtGen t.stack = some (fs, b, rest) ∧ fs.any Frame.guarded = false
  de : ∃ a as kw o n, t.code = .builtin "proto.yield_from" ⟨.ref a :: as, kw⟩ ∧ s.heap.get? a = some o ∧ o.genNumber? = some n
theorem OkY.forget {s s' : Shared} {t t' : Thread} (h : OkY s t) (hs : s'.forget = s.forget) (ht : t'.forget = t.forget) : OkY s' t' := by
  obtain ⟨⟨v, g, l, k, e1⟩, ⟨fs, b, rest, e2, e3⟩, a, as, kw, o, n, e4, e5, e6⟩ := h
  obtain ⟨cur, code, pos, st⟩ := t
  obtain ⟨cur', code', pos', st'⟩ := t'
  simp only [Thread.forget, Thread.mk.injEq] at ht
  obtain ⟨rfl, rfl, rfl, hst⟩ := ht
  have eh := (Shared.forget_eq hs).1
  refine ⟨⟨v, g, l, k, e1⟩, ?_, a, as, kw, o, n, e4, by rw [eh]; exact e5, e6⟩
  have x1 := splitAtGen_forgetAll st'
  have x2 := splitAtGen_forgetAll st
  rw [hst, x2] at x1
  replace e2 : splitAtGen st = some (fs, b, rest) := e2
  rw [e2] at x1
  cases h' : splitAtGen st' with
  | none => rw [h'] at x1; cases x1
  | some y =>
    obtain ⟨fs', b', rest'⟩ := y
    rw [h'] at x1
    simp only [Option.map_some, Option.some.injEq, Prod.mk.injEq] at x1
    refine ⟨fs', b', rest', rfl, ?_⟩
    have z : (forgetAll fs').any Frame.guarded = (forgetAll fs).any Frame.guarded := by rw [x1.1]
    rw [any_guarded_forgetAll, any_guarded_forgetAll] at z
    rw [z]
    exact e3
section
variable (den : Code → Sem PySem.Fin) (prog : Program) (w : World)
theorem OkY.life {s : Shared} {t : Thread} (h : OkY s t) (hz : s.asleep) (others : List Value) : lifeStep den prog w others s t = step den prog w s t := by
  obtain ⟨⟨v, g, l, k, e1⟩, ⟨fs, b, rest, e2, e3⟩, a, as, kw, o, n, e4, e5, e6⟩ := h
  obtain ⟨cur, code, pos, st⟩ := t
  obtain ⟨g0, k0, c0, p0⟩ := b
  replace e1 : cur = .yield v g l k := e1
  replace e2 : splitAtGen st = _ := e2
  replace e4 : code = _ := e4
  subst e1 e4
  obtain ⟨hr, hc⟩ := hz
  have sh : closingShows s fs (.builtin "proto.yield_from" ⟨.ref a :: as, kw⟩) g = false := by
    unfold closingShows
    rw [e3]
    show (false || (g && delegateShows s (.ref a))) = false
    have : delegateShows s (.ref a) = false := by
      unfold delegateShows
      simp only [e5, e6, hr]
      rfl
    rw [this]
    simp
  have nc : stepCounting den prog w s ⟨.yield v g l k, .builtin "proto.yield_from" ⟨.ref a :: as, kw⟩, pos, st⟩ = step den prog w s ⟨.yield v g l k, .builtin "proto.yield_from" ⟨.ref a :: as, kw⟩, pos, st⟩ := by
    unfold stepCounting
    simp [hc]
  unfold lifeStep
  split
  · simp only [collectorTurn?, e2, sh, Bool.false_and, Bool.false_eq_true, if_false]
    simp only [Thread.atItsEnd, Bool.false_eq_true, if_false]
    exact nc
  · exact nc
theorem OkY.sstep {s : Shared} {t : Thread} (h : OkY s t) (hz : s.asleep) : sstep den prog w (.single s t) = (step den prog w s t).lift := by
  have hl := fun o => h.life den prog w hz o
  obtain ⟨⟨v, g, l, k, e1⟩, _, _⟩ := h
  obtain ⟨cur, code, pos, st⟩ := t
  replace e1 : cur = .yield v g l k := e1
  subst e1
  have hm : ∀ pr, (Config.single s ⟨.yield v g l k, code, pos, st⟩).moves pr = [.run 0] := fun pr => by
    simp [Config.moves, Config.single, movesFrom, Thread.moves, Thread.atomic, Thread.rests, Thread.tells]
  have hp : (Config.single s ⟨.yield v g l k, code, pos, st⟩).pick w = .ok (.run 0, .single s ⟨.yield v g l k, code, pos, st⟩) := by
    have h1 : (Config.single s ⟨.yield v g l k, code, pos, st⟩).collect? w.params = none := by
      simp [Config.collect?, Config.single, (nothing_to_collect _ _ _ s ⟨.yield v g l k, code, pos, st⟩ hz.1).1]
    have h2 : (Config.single s ⟨.yield v g l k, code, pos, st⟩).collectable = [] := by
      simp [Config.collectable, Config.single, (nothing_to_collect w.params _ _ s ⟨.yield v g l k, code, pos, st⟩ hz.1).2]
    simp only [Config.pick, h1, h2, Config.pickThread, hm]
    cases w.params.lifetimes <;> simp
  have hr : (Config.single s ⟨.yield v g l k, code, pos, st⟩).run den prog w 0 = (step den prog w s ⟨.yield v g l k, code, pos, st⟩).lift := by
    simp only [Config.run, Config.single]
    first
      | (simp [hl, others_single, frozenBadly, ThreadState.insideWrite, Thread.finalizes]; split <;> simp_all [Step.lift, Config.single]; done)
      | (simp [hl, others_single, frozenBadly, ThreadState.insideWrite, Thread.finalizes]; split <;> simp_all [Step.lift, Config.single] <;> split <;> simp; done)
  simp only [PySem.sstep, hp, Config.move, hr]
end

/-! ### what is reached -/
inductive Ev (M : Model) (Φ : Shared → Thread → Prop) : Shared → Thread → Prop
  | now {s t} : Φ s t → Ev M Φ s t
  | step {s t s' t'} : stepK M.den M.prog M.w s t = .go s' t' → (t.loud = false ∨ OkY s t) → Ev M Φ s' t' → Ev M Φ s t
section
variable {M : Model} {Φ Ψ : Shared → Thread → Prop} {s : Shared} {t : Thread}
theorem Ev.trans (h : Ev M Φ s t) (k : ∀ s' t', Φ s' t' → Ev M Ψ s' t') : Ev M Ψ s t := by
  induction h with
  | now q => exact k _ _ q
  | step a b _ ih => exact .step a b ih
theorem Ev.mono (h : Ev M Φ s t) (k : ∀ s' t', Φ s' t' → Ψ s' t') : Ev M Ψ s t := h.trans fun s' t' q => .now (k s' t' q)
/-- the true machine follows -/
theorem Ev.sched (h : Ev M Φ s t) : ∀ {s₁ : Shared} {t₁ : Thread}, s₁.forget = s.forget → t₁.forget = t.forget → s₁.asleep →
    ∃ n s₂ t₂ s' t', schedN M.den M.prog M.w n (.single s₁ t₁) = .running (.single s₂ t₂) ∧ s₂.forget = s'.forget ∧ t₂.forget = t'.forget ∧ s₂.asleep ∧ s₂.heap.life = s₁.heap.life ∧ Φ s' t' := by
  induction h with
  | @now s t q => exact fun {s₁ t₁} a b c => ⟨0, s₁, t₁, s, t, rfl, a, b, c, rfl, q⟩
  | @step s t s' t' hs hl _ ih =>
    intro s₁ t₁ a b c
    have e := (stepK_forget M.den M.prog M.w s t).trans (step_same M.den M.prog M.w a b).symm
    rw [hs] at e
    cases hr : PySem.step M.den M.prog M.w s₁ t₁ with
    | halt o x => rw [hr] at e; cases e
    | go s₂ t₂ =>
      rw [hr] at e
      simp only [Step.forget] at e
      injection e with e1 e2
      have lf := step_life M.den M.prog M.w s₁ s₂ t₁ t₂ hr
      have hz : s₂.asleep := by simp only [Shared.asleep, lf]; exact c
      have st : sstep M.den M.prog M.w (.single s₁ t₁) = .go (.single s₂ t₂) := by
        rcases hl with hl | hy
        · have hc : t₁.calm = true := by
            rw [← Thread.calm_forget, b, Thread.calm_forget, Thread.calm_eq, hl]
            cases hh : t.refused with
            | false => rfl
            | true =>
              obtain ⟨what, q⟩ := stepK_refused M.den M.prog M.w (s := s) hh
              rw [hs] at q
              cases q
          rcases sstep_single M.den M.prog M.w s₁ t₁ hc c with q | q
          · rw [q, hr]; rfl
          · rw [hr] at q; cases q
        · rw [(hy.forget a b).sstep M.den M.prog M.w c, hr]
          rfl
      obtain ⟨n, s₃, t₃, s', t', q1, q2, q3, q4, q5, q6⟩ := ih e1.symm e2.symm hz
      refine ⟨n + 1, s₃, t₃, s', t', ?_, q2, q3, q4, q5.trans lf, q6⟩
      simp only [schedN, st]
      exact q1
end
/-- a generator that sleeps, whose cleanup will not be seen -/
def SlpOk (h : Heap) : GenState → Prop
  | .suspended _ _ c _ fs cl => cl = false ∨ (fs.any Frame.guarded = false ∧ ∃ a as kw o n, c = .builtin "proto.yield_from" ⟨.ref a :: as, kw⟩ ∧ h.get? a = some o ∧ o.genNumber? = some n)
  | _ => True
/-- the thread ends -/
theorem end_sched {den : Code → Sem PySem.Fin} {prog : Program} {w : World} {s : Shared} {f : Flow} {c : Code} {p : Pos} (hz : s.asleep) (hg : ∀ x ∈ s.gens, SlpOk s.heap x) :
    ∃ s', schedN den prog w 1 (.single s ⟨.pure (.done f), c, p, []⟩) = .halted (.done f) s' ∧ s'.heap = s.heap ∧ s'.os = s.os ∧ s'.rest = s.rest := by
  obtain ⟨hr, hc⟩ := hz
  have lw : leftWithCleanup (forgetSuspended (w.params.lifetimes == .anyTime) s).gens = false := by
    unfold leftWithCleanup forgetSuspended
    rw [Array.any_eq_false']
    intro x hx
    obtain ⟨y, hy, rfl⟩ := Array.mem_map.mp hx
    have q := hg y hy
    cases y with
    | suspended k l c' p' fs cl =>
      cases cl with
      | false => simp
      | true =>
        rcases q with q | ⟨q1, a, as, kw, o, n, rfl, q3, q4⟩
        · cases q
        have sh : closingShows s fs (.builtin "proto.yield_from" ⟨.ref a :: as, kw⟩) true = false := by
          unfold closingShows
          rw [q1]
          show (false || (true && delegateShows s (.ref a))) = false
          have : delegateShows s (.ref a) = false := by
            unfold delegateShows
            simp only [q3, q4, hr]
            rfl
          rw [this]
          rfl
        simp [sh]
    | _ => simp
  have hl : ∀ others, lifeStep den prog w others s ⟨.pure (.done f), c, p, []⟩ = .halt (.done f) (forgetSuspended (w.params.lifetimes == .anyTime) s) := fun others => by
    have hstep : step den prog w (forgetSuspended (w.params.lifetimes == .anyTime) s) ⟨.pure (.done f), c, p, []⟩ = .halt (.done f) (forgetSuspended (w.params.lifetimes == .anyTime) s) := by
      have fin : ∀ z : Shared, leftWithCleanup z.gens = false → finish (.done f) z = .halt (.done f) z := fun z hz => by
        unfold finish
        rw [if_neg (by rw [hz]; exact Bool.false_ne_true)]
      exact fin _ lw
    have nc : stepCounting den prog w (forgetSuspended (w.params.lifetimes == .anyTime) s) ⟨.pure (.done f), c, p, []⟩ = .halt (.done f) (forgetSuspended (w.params.lifetimes == .anyTime) s) := by
      unfold stepCounting
      simp [forgetSuspended_heap, hc, hstep]
    unfold lifeStep
    rw [if_pos (by simp [Thread.special, Thread.atItsEnd])]
    simp only [collectorTurn?, Bool.false_and, Bool.false_eq_true, if_false, Thread.atItsEnd, List.isEmpty_nil, if_true]
    exact nc
  have hp : (Config.single s ⟨.pure (.done f), c, p, []⟩).pick w = .ok (.run 0, .single s ⟨.pure (.done f), c, p, []⟩) := pick_single w s _ (by simp [Thread.calm, Thread.atCollectorCode, Thread.yieldsInsideHandler]) hr
  have hrun : (Config.single s ⟨.pure (.done f), c, p, []⟩).run den prog w 0 = .halt (.done f) (forgetSuspended (w.params.lifetimes == .anyTime) s) := by
    simp only [Config.run, Config.single]
    simp [hl, others_single, Thread.finalizes]
  refine ⟨forgetSuspended (w.params.lifetimes == .anyTime) s, ?_, rfl, rfl, rfl⟩
  simp only [schedN, PySem.sstep, hp, Config.move, hrun]
end K19
set_option maxHeartbeats 4000000
/-! What a tree does in the machine, with any stack below: all that the library shows of it holds here too. -/
namespace K19
open PySem
open Sem (wp)
section
variable {M : Model} {Φ : Shared → Thread → Prop}
theorem ev_step {s s' : Shared} {t t' : Thread} (h : M.step s t = .go s' t') (k : Ev M Φ s' t') : Ev M Φ s t := by
  cases hl : t.loud with
  | true => rw [Model.step_loud M hl] at h; cases h
  | false => exact .step (by rw [← Model.step_quiet M hl]; exact h) (.inl hl) k
theorem ev_reach {base : List Frame} {s s' : Shared} {t : Sem PySem.Fin} {c : Code} {p : Pos} {pre : List Frame} {e : End} (h : Reach M base s t c p pre s' e) :
    (∀ t' c' p' pre', Exits e t' c' p' pre' → Ev M Φ s' ⟨t', c', p', pre' ++ base⟩) → Ev M Φ s ⟨t, c, p, pre ++ base⟩ := by
  induction h with
  | exit hx => exact fun k => k _ _ _ _ hx
  | step hs _ ih => exact fun k => ev_step hs (ih k)
theorem ev_ret {Γ : Ctx} {base : List Frame} {s s' : Shared} {t : Sem PySem.Fin} {p : Pos} {r : Result} (h : Runs M Γ p t [] s (.ret r) s') (hf : Γ.Fits base)
    (k : ∀ c' p', Ev M Φ s' ⟨leafOf r, c', p', base⟩) : Ev M Φ s ⟨t, Γ.code, p, base⟩ :=
  ev_reach (pre := []) (runs_reach h base hf) fun t' c' p' pre' hx => by
    obtain ⟨rfl, rfl⟩ := hx
    exact k c' p'
/-- a tree, inside a greater one -/
theorem ev_wp {α : Type} {Γ : Ctx} {base : List Frame} {K : α → Sem PySem.Fin} {Hx : Value → Sem PySem.Fin} {gd : Bool → Bool} {lv : List Value → List Value} (hf : Γ.Fits base) (m : Sem α) :
    ∀ {Q : α → Pos → Shared → Prop} {E : Value → Pos → Shared → Prop} {p : Pos} {s : Shared}, wp M Γ m Q E p s → (∀ a p' s', Q a p' s' → Ev M Φ s' ⟨K a, Γ.code, p', base⟩) → (∀ x p' s', E x p' s' → Ev M Φ s' ⟨Hx x, Γ.code, p', base⟩) →
      Ev M Φ s ⟨m.wrap K Hx gd lv, Γ.code, p, base⟩ := by
  induction m with
  | pure a => intro Q E p s h hQ _; exact hQ a p s h
  | raise x => intro Q E p s h _ hE; exact hE x p s h
  | unsupported w => intro Q E p s h; exact h.elim
  | finish x => intro Q E p s h; exact h.elim
  | register a k => intro Q E p s h; exact h.elim
  | yield v g l k => intro Q E p s h; exact h.elim
  | fork c k => intro Q E p s h; exact h.elim
  | await a f d l k => intro Q E p s h; exact h.elim
  | rule tag k ih => intro Q E p s h hQ hE; exact ev_step (step_rule ..) (ih () h hQ hE)
  | «at» p' k ih => intro Q E p s h hQ hE; exact ev_step (step_at ..) (ih () h hQ hE)
  | load a part k ih => intro Q E p s h hQ hE; obtain ⟨o, ho, h⟩ := h; exact ev_step (step_load _ _ _ _ _ _ _ ho) (ih o h hQ hE)
  | update a part f k ih => intro Q E p s h hQ hE; obtain ⟨ho, h⟩ := h; exact ev_step (step_update _ _ _ _ _ _ _ _ ho) (ih () h hQ hE)
  | alloc o k ih => intro Q E p s h hQ hE; exact ev_step (step_alloc ..) (ih _ h hQ hE)
  | loadIfAlive a k ih => intro Q E p s h hQ hE; exact ev_step (step_loadIfAlive ..) (ih _ h hQ hE)
  | point l k ih => intro Q E p s h hQ hE; exact ev_step (step_point ..) (ih () h hQ hE)
  | fresh k ih => intro Q E p s h hQ hE; exact ev_step (step_fresh ..) (ih _ h hQ hE)
  | ask k ih => intro Q E p s h hQ hE; exact ev_step (step_ask ..) (ih _ h hQ hE)
  | choose src n k ih => intro Q E p s h hQ hE; obtain ⟨hn, h⟩ := h; exact ev_step (step_choose _ _ _ _ _ _ _ hn) (ih _ h hQ hE)
  | os q l k ih => intro Q E p s h hQ hE; exact ev_step (step_os ..) (ih _ h hQ hE)
  | call c h g l k ih =>
    intro Q E p s hw hQ hE
    obtain ⟨r, s₁, hr, hw⟩ := hw
    refine ev_step (step_call ..) (ev_ret (Γ := Γ.enter c h p) (show Runs M (Γ.enter c h p) p (M.den c) [] s (.ret r) s₁ from hr) (hf.enter c _ h (gd g) (lv l) p []) fun c' p' => ?_)
    exact ev_step (step_leaf_ret ..) (ih r hw hQ hE)
  | handled own k ih =>
    intro Q E p s h hQ hE
    refine ev_step (step_handled ..) ?_
    cases own with
    | true =>
      have h' : wp M Γ (k Γ.own) Q E p s := h
      rw [hf.own] at h'
      exact ih _ h' hQ hE
    | false =>
      have h' : wp M Γ (k Γ.handled) Q E p s := h
      rw [hf.handled] at h'
      exact ih _ h' hQ hE
  | newGen c k ih => intro Q E p s h hQ hE; exact ev_step (step_newGen ..) (ih _ h hQ hE)
  | genState g k ih => intro Q E p s h hQ hE; obtain ⟨st, hg, h⟩ := h; exact ev_step (step_genState _ _ _ _ _ _ hg) (ih _ h hQ hE)
  | stack k ih =>
    intro Q E p s h hQ hE
    have h' : wp M Γ (k ((Γ.code, p) :: Γ.below)) Q E p s := h
    rw [hf.below] at h'
    exact ev_step (step_stack ..) (ih _ h' hQ hE)
  | thread k ih => intro Q E p s h hQ hE; exact ev_step (step_thread ..) (ih _ h hQ hE)
  | resume g r l k ih =>
    intro Q E p s h hQ hE
    obtain ⟨res, s₁, hw, h⟩ := h
    unfold Wakes at hw
    split at hw
    · exact hw.elim
    · rename_i c q
      split at hw
      · obtain ⟨e₁, s₂, hr, qu, rfl, rfl⟩ := hw
        refine ev_step (step_resume_fresh _ _ _ _ _ _ _ q) ?_
        refine ev_reach (pre := []) (runs_reach hr _ (hf.wake c g _ (lv l) p)) fun t' c' p' pre' hx => ?_
        exact ev_step (step_exit_gen _ _ _ _ _ _ _ hx qu) (ih _ h hQ hE)
      · rename_i v hv
        obtain ⟨rfl, rfl⟩ := hw
        exact ev_step (step_resume_justStarted _ _ _ _ _ _ _ q (fun e => hv (by rw [e]))) (ih _ h hQ hE)
      · obtain ⟨rfl, rfl⟩ := hw
        exact ev_step (step_resume_throwFresh _ _ _ _ _ _ _ _ q) (ih _ h hQ hE)
    · rename_i k₀ l₀ c₀ p₀ fs cl q
      obtain ⟨e₁, s₂, hr, qu, rfl, rfl⟩ := hw
      refine ev_step (step_resume_suspended _ _ _ _ _ _ _ _ q) ?_
      refine ev_reach (runs_reach hr _ (hf.wake c₀ g _ (lv l) p)) fun t' c' p' pre' hx => ?_
      exact ev_step (step_exit_gen _ _ _ _ _ _ _ hx qu) (ih _ h hQ hE)
    · rename_i q
      obtain ⟨rfl, rfl⟩ := hw
      exact ev_step (step_resume_running _ _ _ _ _ _ _ _ q) (ih _ h hQ hE)
    · rename_i q
      obtain ⟨rfl, rfl⟩ := hw
      exact ev_step (step_resume_finished _ _ _ _ _ _ _ _ q) (ih _ h hQ hE)
end
/-! ### the judgements -/
def wpE {α : Type} (M : Model) (A : Around) (t : Sem α) (Q : α → Shared → Prop) (E : Value → Shared → Prop) (s : Shared) : Prop :=
  ∀ (Γ : Ctx) (base : List Frame) (p : Pos) (K : α → Sem PySem.Fin) (Hx : Value → Sem PySem.Fin) (gd : Bool → Bool) (lv : List Value → List Value) (Φ : Shared → Thread → Prop), Γ.Fits base → Γ.In A →
    (∀ a p' s', Q a s' → Ev M Φ s' ⟨K a, Γ.code, p', base⟩) → (∀ x p' s', E x s' → Ev M Φ s' ⟨Hx x, Γ.code, p', base⟩) → Ev M Φ s ⟨t.wrap K Hx gd lv, Γ.code, p, base⟩
def codeE (M : Model) (A : Around) (c : Code) (R : Result → Shared → Prop) (s : Shared) : Prop :=
  ∀ (Γ : Ctx) (base : List Frame) (p : Pos) (Φ : Shared → Thread → Prop), Γ.code = c → Γ.Fits base → Γ.Below A → (∀ r c' p' s', R r s' → Ev M Φ s' ⟨leafOf r, c', p', base⟩) → Ev M Φ s ⟨M.den c, c, p, base⟩
section
variable {M : Model} {A : Around} {α β : Type} {E : Value → Shared → Prop} {s : Shared}
theorem wpE_of {t : Sem α} {Q : α → Shared → Prop} (h : wpAny M A t Q E s) : wpE M A t Q E s := fun Γ base p K Hx gd lv Φ hf hA hQ hE => ev_wp hf t (h Γ p hA) (fun a p' s' q => hQ a p' s' q) fun x p' s' q => hE x p' s' q
theorem codeE_of {c : Code} {R : Result → Shared → Prop} (h : codeAny M A c R s) : codeE M A c R s := fun Γ base p Φ hc hf hA k => by
  obtain ⟨r, s', hr, hR⟩ := h Γ p hc hA
  subst hc
  exact ev_ret hr hf fun c' p' => k r c' p' s' hR
theorem wpE_pure {a : α} {Q : α → Shared → Prop} (h : Q a s) : wpE M A (pure a) Q E s := wpE_of (wpAny_pure h)
theorem wpE_throw {e : Value} {Q : α → Shared → Prop} (h : E e s) : wpE M A (throw e : Sem α) Q E s := wpE_of (wpAny_throw h)
theorem wpE_mono {t : Sem α} {Q Q' : α → Shared → Prop} {E' : Value → Shared → Prop} (h : wpE M A t Q E s) (hQ : ∀ a s, Q a s → Q' a s) (hE : ∀ e s, E e s → E' e s) : wpE M A t Q' E' s :=
  fun Γ base p K Hx gd lv Φ hf hA kQ kE => h Γ base p K Hx gd lv Φ hf hA (fun a p' s' q => kQ a p' s' (hQ a s' q)) fun x p' s' q => kE x p' s' (hE x s' q)
theorem codeE_mono {c : Code} {R R' : Result → Shared → Prop} (h : codeE M A c R s) (hR : ∀ r s, R r s → R' r s) : codeE M A c R' s := fun Γ base p Φ hc hf hA k => h Γ base p Φ hc hf hA fun r c' p' s' q => k r c' p' s' (hR r s' q)
theorem wpE_bind {m : Sem α} {f : α → Sem β} {Q : β → Shared → Prop} (h : wpE M A m (fun a s' => wpE M A (f a) Q E s') E s) : wpE M A (m >>= f) Q E s := fun Γ base p K Hx gd lv Φ hf hA kQ kE => by
  rw [Sem.bind_eq_wrap', Sem.wrap_wrap]
  exact h Γ base p _ _ _ _ Φ hf hA (fun a p' s' q => q Γ base p' K Hx gd lv Φ hf hA kQ kE) kE
theorem wpE_onRaise {m : Sem α} {k : Value → Sem Unit} {Q : α → Shared → Prop} (h : wpE M A m Q (fun e s' => wpE M A (k e) (fun _ s'' => E e s'') E s') s) : wpE M A (m.onRaise k) Q E s := fun Γ base p K Hx gd lv Φ hf hA kQ kE => by
  rw [Sem.onRaise_eq_wrap, Sem.wrap_wrap]
  refine h Γ base p _ _ _ _ Φ hf hA kQ fun e p' s' q => ?_
  show Ev M Φ s' ⟨((k e).bind fun _ => (Sem.raise e : Sem α)).wrap K Hx gd lv, Γ.code, p', base⟩
  rw [Sem.bind_eq_wrap, Sem.wrap_wrap]
  exact q Γ base p' _ _ _ _ Φ hf hA (fun _ p'' s'' q' => kE e p'' s'' q') kE
theorem wpE_ne {t : Sem α} {Q : α → Shared → Prop} (h : wpE M A t Q (fun _ _ => False) s) : wpE M A t Q E s := wpE_mono h (fun _ _ q => q) fun _ _ q => q.elim
theorem wpE_onRaise0 {m : Sem α} {k : Value → Sem Unit} {Q : α → Shared → Prop} (h : wpE M A m Q (fun _ _ => False) s) : wpE M A (m.onRaise k) Q E s := wpE_onRaise (wpE_mono h (fun _ _ q => q) fun _ _ q => q.elim)
theorem wpE_tryCatch {m : Sem α} {k : Value → Sem α} {Q : α → Shared → Prop} (h : wpE M A m Q (fun e s' => wpE M A (k e) Q E s') s) : wpE M A (m.tryCatch k) Q E s := fun Γ base p K Hx gd lv Φ hf hA kQ kE => by
  rw [Sem.tryCatch_eq_wrap, Sem.wrap_wrap]
  exact h Γ base p _ _ _ _ Φ hf hA kQ fun e p' s' q => q Γ base p' K Hx gd lv Φ hf hA kQ kE
theorem wpE_attempt {m : Sem α} {Q : Except Value α → Shared → Prop} (h : wpE M A m (fun a => Q (.ok a)) (fun e => Q (.error e)) s) : wpE M A m.attempt Q E s := by
  unfold Sem.attempt
  refine wpE_tryCatch ?_
  show wpE M A (m >>= fun a => (pure (Except.ok a) : Sem (Except Value α))) _ _ s
  exact wpE_bind (wpE_mono h (fun a s' q => wpE_pure q) fun e s' q => wpE_pure q)
theorem wpE_keep {vs : List Value} {m : Sem α} {Q : α → Shared → Prop} (h : wpE M A m Q E s) : wpE M A (m.keep vs) Q E s := fun Γ base p K Hx gd lv Φ hf hA kQ kE => by
  rw [Sem.keep_eq_wrap, Sem.wrap_wrap]
  exact h Γ base p _ _ _ _ Φ hf hA kQ kE
theorem wpE_holding {vs : List Value} {m : Sem α} {Q : α → Shared → Prop} (h : wpE M A m Q E s) : wpE M A (holding vs m) Q E s := by
  rw [holding_eq_keep]
  exact wpE_keep h
theorem wpE_run {c : Code} {h : Option Value} {Q : Flow → Shared → Prop} (hc : codeE M (A.mark h) c (fun r s' => match r with | .ok f => Q f s' | .error e => E e s') s) (hnb : h ≠ some byPass := by intro x; cases x) : wpE M A (run c h) Q E s :=
  fun Γ base p K Hx gd lv Φ hf hA kQ kE => by
  refine ev_step (step_call ..) ?_
  refine hc (Γ.enter c h p) _ p Φ rfl (hf.enter c _ h (gd false) (lv []) p []) (hA.enter c h p hnb) fun r c' p' s' q => ev_step (step_leaf_ret ..) ?_
  cases r with
  | ok f => exact kQ f p s' q
  | error e => exact kE e p s' q
theorem wpE_runValue {c : Code} {Q : Value → Shared → Prop} (hc : codeE M A c (fun r s' => match r with | .ok (.ret v) => Q v s' | .ok _ => False | .error e => E e s') s) : wpE M A (runValue c) Q E s := by
  unfold runValue
  refine wpE_bind (wpE_run (h := none) (codeE_mono hc fun r s' q => ?_))
  cases r with
  | error e => exact q
  | ok f =>
    cases f with
    | ret v => exact wpE_pure q
    | next => exact q.elim
    | brk => exact q.elim
    | cont => exact q.elim
theorem wpE_call {f : Value} {pos : List Value} {kw : List (Str × Value)} {Q : Value → Shared → Prop} (hc : codeE M A (.call f ⟨pos, kw⟩) (fun r s' => match r with | .ok (.ret v) => Q v s' | .ok _ => False | .error e => E e s') s) : wpE M A (call f pos kw) Q E s := wpE_runValue hc
theorem wrap_self (t : Sem PySem.Fin) : t.wrap .pure .raise id id = t := by
  rw [← Sem.bind_eq_wrap]
  show t >>= pure = t
  exact bind_pure t
theorem codeE_of_tree {c : Code} {R : Result → Shared → Prop} (h : wpE M (A.under c) (M.den c) (fun fin s' => match fin with | .done f => R (.ok f) s' | .again c' => c'.quiet = true ∧ codeE M A c' R s') (fun e s' => R (.error e) s') s) : codeE M A c R s :=
  fun Γ base p Φ hc hf hA k => by
  have z := h Γ base p .pure .raise id id Φ hf (hc ▸ hA.in) (fun fin p' s' q => ?_) fun e p' s' q => k (.error e) _ p' s' q
  · rw [wrap_self, hc] at z
    exact z
  · cases fin with
    | done f => exact k (.ok f) _ p' s' q
    | again c' => exact ev_step (step_again _ _ _ _ _ _ q.1) (q.2 (Γ.goto c') base p' Φ rfl (hf.goto c') (hA.goto c') k)
end
/-! ### generators -/
/-- gs runs (woken by None): it hands out, or it ends -/
def goE (M : Model) (A : Around) (g : Nat) (gs : GenState) (Y : Value → Shared → GenState → Prop) (R : Result → Shared → Prop) (s : Shared) : Prop :=
  ∀ (Γ : Ctx) (base : List Frame) (p : Pos) (k : GenResult → Sem PySem.Fin) (l : List Value) (Φ : Shared → Thread → Prop), Γ.Fits base → Γ.In A →
    (∀ v s₁ gs', Y v s₁ gs' → Ev M Φ (s₁.setGen g gs') ⟨k (.yielded v), Γ.code, p, base⟩) → (∀ r s₁, R r s₁ → Ev M Φ (s₁.setGen g .finished) ⟨k (End.ret r).result, Γ.code, p, base⟩) →
    match gs with
    | .fresh c => Ev M Φ s ⟨M.den c, c, p, .gen g k l Γ.code p :: base⟩
    | .suspended k₀ _ c₀ p₀ fs _ => Ev M Φ s ⟨k₀ (.send .none), c₀, p₀, fs ++ .gen g k l Γ.code p :: base⟩
    | _ => False
theorem wpE_resume {M : Model} {A : Around} {E : Value → Shared → Prop} {s : Shared} {g : Nat} {gs : GenState} {Q : GenResult → Shared → Prop} (hg : s.gens[g]? = some gs)
    (h : goE M A g gs (fun v s₁ gs' => Q (.yielded v) (s₁.setGen g gs')) (fun r s₁ => Q (End.ret r).result (s₁.setGen g .finished)) (s.setGen g .running)) : wpE M A (resume g (.send .none)) Q E s := fun Γ base p K Hx gd lv Φ hf hA kQ kE => by
  have z := h Γ base p (fun x => (Sem.pure x : Sem GenResult).wrap K Hx gd lv) (lv []) Φ hf hA (fun v s₁ gs' q => kQ _ p _ q) fun r s₁ q => kQ _ p _ q
  cases gs with
  | fresh c => exact ev_step (step_resume_fresh _ _ _ _ _ _ _ hg) z
  | suspended k₀ l₀ c₀ p₀ fs cl => exact ev_step (step_resume_suspended _ _ _ _ _ _ _ _ hg) z
  | running => exact z.elim
  | finished => exact z.elim
end K19
set_option maxHeartbeats 4000000
/-! The hand layer's judgements over the machine itself: generators may sleep over generators. -/
namespace K19
open PySem PySem.Spec PyProof.Rows L2
open Sem (wp)
/-- the generators that some sleeper delegates to -/
abbrev Dl := List (Addr × Obj)
def SlpD (dp : Dl) : GenState → Prop
  | .suspended _ _ c _ fs cl => cl = false ∨ (fs.any Frame.guarded = false ∧ ∃ a as kw o n, c = .builtin "proto.yield_from" ⟨.ref a :: as, kw⟩ ∧ (a, o) ∈ dp ∧ o.genNumber? = some n)
  | _ => True
/-- z: the state as it is seen; f: the sleepers as they are -/
structure Hid (f : Nat → Option GenState) (dp : Dl) (z : Shared) : Prop where
  un : UnOk f z
  ok : ∀ i G, f i = some G → SlpD dp G
  gen : ∀ q ∈ dp, ∃ n, q.2.genNumber? = some n
def PinD (fr : List Addr) (H : Hp) (z : Shared) (dp : Dl) : Prop := ∀ q ∈ dp, z.heap.get? q.1 = some q.2 ∧ H q.1 = none ∧ q.1 ∉ fr ∧ ∀ v, q.2.data ≠ .cell v
section
variable {M : Model} {A : Around} {E : Value → Shared → Prop} {α : Type} {f : Nat → Option GenState} {z : Shared}
/-- what holds of the state as seen holds of the true one -/
theorem wpE_un {t : Sem α} {Q : α → Shared → Prop} (U : UnOk f z) (h : wpAny M A t Q E z) : wpE M A t (fun a s' => ∃ z', UnOk f z' ∧ s' = un f z' ∧ Q a z') (fun e s' => ∃ z', UnOk f z' ∧ s' = un f z' ∧ E e z') (un f z) := wpE_of fun Γ p hA => wp_un U (h Γ p hA)
theorem codeE_un {c : Code} {R : Result → Shared → Prop} (U : UnOk f z) (h : codeAny M A c R z) : codeE M A c (fun r s' => ∃ z', UnOk f z' ∧ s' = un f z' ∧ R r z') (un f z) := codeE_of fun Γ p hc hA => by
  obtain ⟨r, s', hr, hR⟩ := h Γ p hc hA
  obtain ⟨a, _, b⟩ := runs_un (f := f) hr rfl U
  exact ⟨r, un f s', b, s', a, rfl, hR⟩
end
/-- a call's end -/
def CE2 (outer : List Env) (P : Program) (w : World) (H : Hp) (z : Shared) (Q : VK) (u : Value) (s' : Shared) : Prop :=
  ∃ f' dp' z' v H', s' = un f' z' ∧ Hid f' dp' z' ∧ PinD (frs outer) H' z' dp' ∧ z'.os = z.os ∧ AllBare z'.gens ∧ Un (frs outer) [] H H' z.heap z'.heap ∧ HOk P w H' z'.heap ∧ RelV v u ∧ Q v H'
def CR2 (outer : List Env) (P : Program) (w : World) (H : Hp) (z : Shared) (Q : VK) (r : Result) (s' : Shared) : Prop :=
  match r with
  | .ok (.ret u) => CE2 outer P w H z Q u s'
  | _ => False
abbrev noE : XK := fun _ _ _ => False
structure Fn2 (P : Program) (w : World) (K : PySem.W.Frag) (mg : Str → Option Value) (base : Heap) (k : Nat) (f : Addr) (fd : FuncData) (ps : List Str) (sp : Sp) : Prop where
  len : ∀ vs H Q E, sp vs H Q E → vs.length = ps.length
  run : ∀ (A : Around) (outer : List Env) (z : Shared) (H : Hp) (args : Args) (us : List Value) (vs : List V) (Q : VK) (fh : Nat → Option GenState) (dp : Dl), Room k A → Env0 P w K mg base A outer z H → BindsTo z fd args (ps.zip us) → Vals vs us → sp vs H Q noE →
    Hid fh dp z → PinD (frs outer) H z dp → codeE (model P w) A (.call (.ref f) args) (CR2 outer P w H z Q) (un fh z)
section
variable {P : Program} {w : World} {K : PySem.W.Frag} {mg : Str → Option Value} {base : Heap} {k j : Nat} {f : Addr} {fd : FuncData} {ps : List Str} {sp sp' : Sp} {CX : CXT}
theorem Fn2.mono (F : Fn2 P w K mg base j f fd ps sp) (h : j ≤ k) : Fn2 P w K mg base k f fd ps sp := ⟨F.len, fun A outer z H args us vs Q fh dp hr => F.run A outer z H args us vs Q fh dp (hr.mono h)⟩
theorem PinD.after {outer : List Env} {H H' : Hp} {z z' : Shared} {dp : Dl} (h : PinD (frs outer) H z dp) (u : Un (frs outer) [] H H' z.heap z'.heap) : PinD (frs outer) H' z' dp := fun q hq => by
  obtain ⟨a, b, c, d⟩ := h q hq
  exact ⟨u.keep _ _ a b c (by simp), u.free _ _ a b (by simp), c, d⟩
/-- a def that the library's walk serves -/
theorem FnOk.two (F : FnOk P w K mg base CX k f fd ps sp) (hCX : ∀ outer H s e s', CX outer H s noE e s' → False) : Fn2 P w K mg base k f fd ps sp := ⟨F.len, fun A outer z H args us vs Q fh dp hr e0 hb r hsp hd pd => by
  refine codeE_mono (codeE_un hd.un (F.run A outer z H args us vs Q noE hr e0 hb r hsp)) fun r s' ⟨z', u, e, q⟩ => ?_
  cases r with
  | error e => exact (hCX _ _ _ _ _ q).elim
  | ok fl =>
    cases fl with
    | ret v =>
      obtain ⟨v', H', q1, q2, q3, q4, q5, q6⟩ := q
      exact ⟨fh, dp, z', v', H', e, ⟨u, hd.ok, hd.gen⟩, pd.after q3, q1, q2, q3, q4, q5, q6⟩
    | next => exact q
    | brk => exact q
    | cont => exact q⟩
/-- by cases -/
theorem Fn2.or (F : Fn2 P w K mg base k f fd ps sp) (F' : Fn2 P w K mg base k f fd ps sp') : Fn2 P w K mg base k f fd ps (fun vs H Q E => sp vs H Q E ∨ sp' vs H Q E) := ⟨fun vs H Q E h => h.elim (F.len vs H Q E) (F'.len vs H Q E),
  fun A outer z H args us vs Q fh dp hr e0 hb r hsp hd pd => hsp.elim (fun h => F.run A outer z H args us vs Q fh dp hr e0 hb r h hd pd) fun h => F'.run A outer z H args us vs Q fh dp hr e0 hb r h hd pd⟩
theorem Fn2.imp (F : Fn2 P w K mg base k f fd ps sp) (h : ∀ vs H Q E, sp' vs H Q E → sp vs H Q E) : Fn2 P w K mg base k f fd ps sp' := ⟨fun vs H Q E q => F.len vs H Q E (h _ _ _ _ q),
  fun A outer z H args us vs Q fh dp hr e0 hb r hsp => F.run A outer z H args us vs Q fh dp hr e0 hb r (h _ _ _ _ hsp)⟩
end
/-! ### the judgements -/
def EP2 (X : Cx) (pins : List (Addr × Obj)) (σ : L2.St) (Q : VK) (u : Value) (s' : Shared) : Prop := ∃ f' dp' z', s' = un f' z' ∧ Hid f' dp' z' ∧ EP X (dp' ++ pins) σ Q u z'
def TP2 (X : Cx) (pins : List (Addr × Obj)) (σ : L2.St) (Q : Bool → Hp → Prop) (b : Bool) (s' : Shared) : Prop := ∃ f' dp' z', s' = un f' z' ∧ Hid f' dp' z' ∧ TP X (dp' ++ pins) σ Q b z'
def SP2 (X : Cx) (pins : List (Addr × Obj)) (D : Ends) (fl : Flow) (s' : Shared) : Prop := ∃ f' dp' z', s' = un f' z' ∧ Hid f' dp' z' ∧ SP X (dp' ++ pins) D fl z'
def AP2 (X : Cx) (pins : List (Addr × Obj)) (σ : L2.St) (Q : List V → Hp → Prop) (us : List Value) (s' : Shared) : Prop := ∃ f' dp' z', s' = un f' z' ∧ Hid f' dp' z' ∧ AP X (dp' ++ pins) σ Q us z'
abbrev nE : Value → Shared → Prop := fun _ _ => False
structure PE2 (X : Cx) (e : Expr) (t : TE) : Prop where
  run : ∀ pins z σ H Q fh dp, Inv X (dp ++ pins) σ H z → Hid fh dp z → t σ H Q → wpE (model X.prog X.w) X.A (eval e X.env) (EP2 X pins σ Q) nE (un fh z)
structure PT2 (X : Cx) (e : Expr) (t : TT) : Prop where
  run : ∀ pins z σ H Q fh dp, Inv X (dp ++ pins) σ H z → Hid fh dp z → t σ H Q → wpE (model X.prog X.w) X.A (isTrue e X.env (eval e X.env)) (TP2 X pins σ Q) nE (un fh z)
structure PA2 (X : Cx) (es : List Expr) (t : TA) : Prop where
  run : ∀ (pos : Pos) pins z σ H Q fh dp, Inv X (dp ++ pins) σ H z → Hid fh dp z → t σ H Q → wpE (model X.prog X.w) X.A (spliced (backTo pos (starEach es X.env))) (AP2 X pins σ Q) nE (un fh z)
structure PS2 (X : Cx) (st : Stmt) (t : TS) : Prop where
  run : ∀ pins z σ H D fh dp, Inv X (dp ++ pins) σ H z → Hid fh dp z → t D σ H → wpE (model X.prog X.w) X.A (exec st X.env) (SP2 X pins D) nE (un fh z)
structure PSs2 (X : Cx) (st : List Stmt) (t : TS) : Prop where
  run : ∀ pins z σ H D fh dp, Inv X (dp ++ pins) σ H z → Hid fh dp z → t D σ H → wpE (model X.prog X.w) X.A (execs st X.env) (SP2 X pins D) nE (un fh z)
section
variable {X : Cx} {e a b : Expr} {es : List Expr} {st : Stmt} {rest : List Stmt} {te ta tb : TE} {tt tc : TT} {tl : TA} {t u : TS} {pos : Pos}
theorem PE.two (h : PE X e te) (hx : X.xe = nE := by rfl) : PE2 X e te := ⟨fun pins z σ H Q fh dp I hd q => by
  have := wpE_un hd.un (h.run (dp ++ pins) z σ H Q I q)
  rw [hx] at this
  exact wpE_mono this (fun v s' ⟨z', u, e, r⟩ => ⟨fh, dp, z', e, ⟨u, hd.ok, hd.gen⟩, r⟩) fun _ _ ⟨_, _, _, q⟩ => q⟩
theorem PT.two (h : PT X e tt) (hx : X.xe = nE := by rfl) : PT2 X e tt := ⟨fun pins z σ H Q fh dp I hd q => by
  have := wpE_un hd.un (h.run (dp ++ pins) z σ H Q I q)
  rw [hx] at this
  exact wpE_mono this (fun v s' ⟨z', u, e, r⟩ => ⟨fh, dp, z', e, ⟨u, hd.ok, hd.gen⟩, r⟩) fun _ _ ⟨_, _, _, q⟩ => q⟩
theorem PA.two (h : PA X es tl) (hx : X.xe = nE := by rfl) : PA2 X es tl := ⟨fun pos pins z σ H Q fh dp I hd q => by
  have := wpE_un hd.un (h.run pos (dp ++ pins) z σ H Q I q)
  rw [hx] at this
  exact wpE_mono this (fun v s' ⟨z', u, e, r⟩ => ⟨fh, dp, z', e, ⟨u, hd.ok, hd.gen⟩, r⟩) fun _ _ ⟨_, _, _, q⟩ => q⟩
theorem PS.two (h : PS X st t) (hx : X.xe = nE := by rfl) : PS2 X st t := ⟨fun pins z σ H D fh dp I hd q => by
  have := wpE_un hd.un (h.run (dp ++ pins) z σ H D I q)
  rw [hx] at this
  exact wpE_mono this (fun v s' ⟨z', u, e, r⟩ => ⟨fh, dp, z', e, ⟨u, hd.ok, hd.gen⟩, r⟩) fun _ _ ⟨_, _, _, q⟩ => q⟩
theorem PSs.two (h : PSs X rest t) (hx : X.xe = nE := by rfl) : PSs2 X rest t := ⟨fun pins z σ H D fh dp I hd q => by
  have := wpE_un hd.un (h.run (dp ++ pins) z σ H D I q)
  rw [hx] at this
  exact wpE_mono this (fun v s' ⟨z', u, e, r⟩ => ⟨fh, dp, z', e, ⟨u, hd.ok, hd.gen⟩, r⟩) fun _ _ ⟨_, _, _, q⟩ => q⟩
/-! blocks -/
theorem pss2_cons (h1 : PS2 X st t) (h2 : PSs2 X rest u) : PSs2 X (st :: rest) (tSeq t u) := ⟨fun pins z σ H D fh dp I hd h => by
  rw [execs_cons]
  refine wpE_bind (wpE_mono (h1.run pins z σ H { D with nx := u D } fh dp I hd h) (fun fl s1 q => ?_) fun _ _ q => q)
  obtain ⟨f', dp', z', rfl, hd', q⟩ := q
  cases fl with
  | next =>
    obtain ⟨σ', H', I', q⟩ := q
    exact h2.run pins z' σ' H' D f' dp' I' hd' q
  | ret v => exact wpE_pure ⟨f', dp', z', rfl, hd', q⟩
  | brk => exact wpE_pure ⟨f', dp', z', rfl, hd', q⟩
  | cont => exact wpE_pure ⟨f', dp', z', rfl, hd', q⟩⟩
theorem pss2_one (h1 : PS2 X st t) : PSs2 X [st] t := ⟨fun pins z σ H D fh dp I hd h => by
  rw [execs_cons]
  refine wpE_bind (wpE_mono (h1.run pins z σ H D fh dp I hd h) (fun fl s1 q => ?_) fun _ _ q => q)
  cases fl <;> exact wpE_pure q⟩
/-! statements -/
theorem ps2_ret (he : PE2 X e te) : PS2 X (.Return (some e) pos) (tRet te) := ⟨fun pins z σ H D fh dp I hd h => by
  rw [exec_Return_some]
  refine wpE_bind (wpE_of (wpAny_standAt ?_))
  refine wpE_bind (wpE_mono (he.run pins z σ H _ fh dp I hd h) (fun v s1 ⟨f', dp', z', e1, hd', x, H1, I1, r1, q1⟩ => ?_) fun _ _ q => q)
  exact wpE_pure ⟨f', dp', z', e1, hd', x, σ, H1, I1, r1, q1⟩⟩
theorem ps2_if {c : Expr} {p q : List Stmt} (hc : PT2 X c tc) (ha : PSs2 X p t) (hb : PSs2 X q u) : PS2 X (.If c p q pos) (tIfS tc t u) := ⟨fun pins z σ H D fh dp I hd h => by
  rw [exec_If]
  refine wpE_bind (wpE_of (wpAny_standAt ?_))
  refine wpE_bind (wpE_mono (hc.run pins z σ H _ fh dp I hd h) (fun v s1 ⟨f', dp', z', e1, hd', H1, I1, q1⟩ => ?_) fun _ _ q => q)
  subst e1
  cases v with
  | true => exact ha.run pins z' σ H1 D f' dp' I1 hd' q1
  | false => exact hb.run pins z' σ H1 D f' dp' I1 hd' q1⟩
theorem ps2_set {i : Nat} {x : Str} {pos' : Pos} (hN : X.N.Nodup) (hi : X.N[i]? = some x) (hx : Loc X.env.scope x) (he : PE2 X e te) (hs : swapsWith e (some (.Name x pos')) pos.line X.env = pure false := by rfl)
    (hf : X.fn x = true ∨ X.env.scope.names.lookup x = some .local := by first | exact .inl rfl | exact .inr rfl | assumption) : PS2 X (.Assign [.Name x pos'] e pos) (tAsg te (gName i)) := ⟨fun pins z σ H D fh dp I hd h => by
  rw [exec_Assign_Name X.env x pos' e pos hs]
  refine wpE_bind (wpE_of (wpAny_standAt ?_))
  refine wpE_bind (wpE_mono (he.run pins z σ H _ fh dp I hd h) (fun v s1 ⟨f', dp', z', e1, hd', y, H1, I1, r1, q1⟩ => ?_) fun _ _ q => q)
  subst e1
  refine wpE_bind (wpE_of (wpAny_standAt ?_))
  refine wpE_bind (wpE_mono (wpE_un hd'.un (Q := fun _ s2 => Inv X (dp' ++ pins) (σ.set i (some y)) H1 s2) (wpAny_bindName (store_ok (E := nE) I1 hN hi hx r1 (fun s2 I2 => I2) hf))) (fun _ s2 ⟨z2, u2, e2, I2⟩ => ?_) fun _ _ ⟨_, _, _, q⟩ => q)
  exact wpE_pure ⟨f', dp', z2, e2, ⟨u2, hd'.ok, hd'.gen⟩, _, H1, I2, q1⟩⟩
/-! tests -/
theorem pt2_val (h : PE2 X e te) (he : ∀ whole, isTrue e X.env whole = (do let v ← whole; standAt e.pos; holding [v] (truthy v)) := by intro _; rfl) : PT2 X e (tB te) := ⟨fun pins z σ H Q fh dp I hd hq => by
  rw [he]
  refine wpE_bind (wpE_mono (h.run pins z σ H _ fh dp I hd hq) (fun v s1 ⟨f', dp', z', e1, hd', y, H1, I1, r1, c, ec, q1⟩ => ?_) fun _ _ q => q)
  subst ec
  obtain rfl : v = Value.bool c := r1
  refine wpE_bind (wpE_of (wpAny_standAt ?_))
  exact wpE_of (wpAny_holding (wpAny_truthy_bool ⟨f', dp', z', e1, hd', H1, I1, q1⟩))⟩
theorem pt2_not (h : PT2 X a tt) : PT2 X (.UnaryOp .Not a pos) (tNot tt) := ⟨fun pins z σ H Q fh dp I hd hq => by
  show wpE _ _ (do return !(← isTrue a X.env (eval a X.env))) _ _ _
  refine wpE_bind (wpE_mono (h.run pins z σ H _ fh dp I hd hq) (fun v s1 ⟨f', dp', z', e1, hd', H1, I1, q1⟩ => ?_) fun _ _ q => q)
  exact wpE_pure ⟨f', dp', z', e1, hd', H1, I1, q1⟩⟩
/-! expressions -/
theorem pe2_ifExp {c : Expr} (hc : PT2 X c tc) (ha : PE2 X a ta) (hb : PE2 X b tb) : PE2 X (.IfExp c a b pos) (tIf tc ta tb) := ⟨fun pins z σ H Q fh dp I hd hq => by
  rw [arm_eval_IfExp]
  refine wpE_bind (wpE_mono (hc.run pins z σ H _ fh dp I hd hq) (fun v s1 ⟨f', dp', z', e1, hd', H1, I1, q1⟩ => ?_) fun _ _ q => q)
  subst e1
  cases v with
  | true => exact ha.run pins z' σ H1 Q f' dp' I1 hd' q1
  | false => exact hb.run pins z' σ H1 Q f' dp' I1 hd' q1⟩
theorem pa2_cons (ha : PE2 X e te) (hr : PA2 X es tl) (hs : starEach (e :: es) X.env = (false, eval e X.env) :: starEach es X.env := by rfl) : PA2 X (e :: es) (tCons te tl) := ⟨fun pos pins z σ H Q fh dp I hd hq => by
  rw [hs]
  show wpE _ _ (spliced ((false, eval e X.env) :: backTo pos (starEach es X.env))) _ _ _
  rw [spliced]
  refine wpE_bind (wpE_mono (ha.run pins z σ H _ fh dp I hd hq) (fun v s1 ⟨f', dp', z', e1, hd', x, H1, I1, r1, q1⟩ => ?_) fun _ _ q => q)
  subst e1
  simp only [Bool.false_eq_true, if_false]
  refine wpE_bind (wpE_pure ?_)
  refine wpE_bind (wpE_holding (wpE_mono (hr.run pos pins z' σ H1 _ f' dp' I1 hd' q1) (fun us s2 ⟨f2, dp2, z2, e2, hd2, xs, H2, I2, r2, q2⟩ => ?_) fun _ _ q => q))
  exact wpE_pure ⟨f2, dp2, z2, e2, hd2, x :: xs, H2, I2, .cons r1 r2, q2⟩⟩
theorem pe2_tup {x1} (h : PA2 X es tl) : PE2 X (.Tuple es x1 pos) (tTup tl) := ⟨fun pins z σ H Q fh dp I hd hq => by
  rw [arm_eval_Tuple]
  refine wpE_bind (wpE_of (wpAny_standAt ?_))
  refine wpE_bind (wpE_mono (h.run pos pins z σ H _ fh dp I hd hq) (fun us s1 ⟨f', dp', z', e1, hd', xs, H1, I1, r, hz, q⟩ => ?_) fun _ _ q => q)
  subst e1
  have hf : H1 z'.heap.objs.size = none := I1.hok.fresh (Nat.le_refl _)
  refine wpE_mono (wpE_un hd'.un (E := nE) (Q := EP X (dp' ++ pins) σ Q) (wpAny_newTuple ?_ (by rw [← r.length]; exact hz))) (fun v s2 ⟨z2, u2, e2, q2⟩ => ⟨f', dp', z2, e2, ⟨u2, hd'.ok, hd'.gen⟩, q2⟩) fun _ _ ⟨_, _, _, q⟩ => q
  refine ⟨.ref z'.heap.objs.size, upd H1 z'.heap.objs.size (.tup xs), I1.laid (t' := z'.toks) (fun b u e => Heap.get?_push_of_some _ e) (Nat.le_refl _) ?_, rfl, q _ hf⟩
  exact ⟨hz, us, r, ⟨_, Heap.get?_push_size _ rfl, rfl, _, rfl⟩⟩⟩
/-! calls -/
theorem Inv.after2 {pins : List (Addr × Obj)} {dp : Dl} {σ : L2.St} {H : Hp} {z : Shared} {Q : VK} {u : Value} {s' : Shared} (I : Inv X (dp ++ pins) σ H z) (hL : X.env.locals ∈ frs X.stack) (hS : ∀ b ∈ X.fs, b ∈ frs X.stack) (h : CE2 X.stack X.prog X.w H z Q u s') : EP2 X pins σ Q u s' := by
  obtain ⟨f', dp', z', v, H', e, hd, pd, os, bare, un, hok, r, q⟩ := h
  have J : Inv X (dp ++ pins) σ H' z' := I.call' (ch := []) os un hok bare fun b hb => by simp at hb
  refine ⟨f', dp', z', e, hd, v, H', J.pins_of fun p hp => ?_, r, q⟩
  rcases List.mem_append.mp hp with hp | hp
  · obtain ⟨a, b, c, d⟩ := pd p hp
    exact ⟨a, b, fun y => c (by rw [y]; exact hL), fun y => c (hS _ y), d⟩
  · exact J.pin p (List.mem_append_right _ (List.mem_append_right _ hp))
theorem pe2_call {k : Nat} {f : Addr} {fd : FuncData} {ps : List Str} {sp : Sp} {x : Str} {p : Pos} {E : XK} (F : Fn2 X.prog X.w X.K X.mg X.base k f fd ps sp) (hr : Room k X.A) (hg : Gl X x) (hm : X.mg x = some (.ref f)) (hk : PySem.W.keepIn X.K (.ref f) = true) (hb : Binds X.K fd ps [])
    (ha : PA X (e :: es) tl) (hstk : X.stack = X.env :: X.outer ∧ X.env.frame = some X.env.locals := by exact ⟨rfl, rfl⟩) (hx : X.xe = nE := by rfl) (hdb : (x == ("__debug__" : Str)) = false := by decide) (he : starEach (e :: es) X.env = (false, eval e X.env) :: starEach es X.env := by rfl) (hpl : (backTo pos (starEach es X.env)).any (·.1) = false := by rfl) :
    PE2 X (.Call (.Name x p) (e :: es) [] pos) (tCall sp [] noE tl) := ⟨fun pins z σ H Q fh dp I hd hq => by
  have eL : frs X.stack = X.env.locals :: X.fs := by
    rw [hstk.1]
    unfold frs
    rw [List.filterMap_cons, hstk.2]
    rfl
  have hL : X.env.locals ∈ frs X.stack := by rw [eL]; exact List.mem_cons_self
  have hS : ∀ b ∈ X.fs, b ∈ frs X.stack := fun b hb => by rw [eL]; exact List.mem_cons_of_mem _ hb
  rw [arm_eval_Call_Name']
  have ld : wpAny (model X.prog X.w) X.A (eval (.Name x p) X.env) (fun u s' => u = .ref f ∧ Inv X (dp ++ pins) σ H s') nE z := ld_glob I hg hm ⟨rfl, I⟩ hdb
  refine wpE_bind (wpE_mono (wpE_un hd.un ld) (fun u s1 ⟨z1, u1, e1, eu, I1⟩ => ?_) fun _ _ ⟨_, _, _, q⟩ => q)
  subst eu e1
  have args : wpAny (model X.prog X.w) X.A (evalArgs (.ref f) true (backTo pos (starEach (e :: es) X.env)) []) (fun a s' => ∃ us vs H1, a = ⟨us, []⟩ ∧ Inv X (dp ++ pins) σ H1 s' ∧ Vals vs us ∧ sp (vs ++ []) H1 Q noE) nE z1 := by
    have q := ha.run pos (dp ++ pins) z1 σ H _ I1 hq
    rw [hx] at q
    rw [he] at q ⊢
    exact Calls.evalArgs_plain (thn q fun us s2 ⟨vs, H1, I2, r, q⟩ => ⟨us, vs, H1, rfl, I2, r, q⟩)
  show wpE _ _ (callWith pos (.ref f) [] (backTo pos (starEach (e :: es) X.env)) []) _ _ _
  unfold callWith
  refine wpE_bind (wpE_holding (wpE_mono (wpE_un u1 args) (fun a s2 ⟨z2, u2, e2, us, vs, H1, ea, I2, r, q⟩ => ?_) fun _ _ ⟨_, _, _, q⟩ => q))
  subst ea e2
  refine wpE_bind (wpE_of (wpAny_standAt ?_))
  have hplain : ((backTo pos (starEach (e :: es) X.env)).any (·.1) || ([] : List (Option Str × Sem Value)).any (·.1.isNone)) = false := by
    rw [he]
    show ((false || (backTo pos (starEach es X.env)).any (·.1)) || false) = false
    rw [hpl]
    rfl
  simp only [hplain]
  obtain ⟨kp, hkp, L⟩ := PySem.W.looks_keep (M := model X.prog X.w) hk I2.kIn
  have main : wpE (model X.prog X.w) X.A (call (.ref f) us) (EP2 X pins σ Q) nE (un fh z2) := by
    have r2 : Vals (vs ++ []) us := by rw [List.append_nil]; exact r
    have hl : us.length = ps.length := by rw [← r2.length]; exact F.len _ _ _ _ q
    have hbt := hb z2 us I2.kIn (by simpa using hl)
    rw [List.append_nil] at hbt
    have pd : PinD (frs X.stack) H1 z2 dp := fun p hp => by
      obtain ⟨a, b, c, d, e⟩ := I2.pin p (List.mem_append_right _ (List.mem_append_left _ hp))
      refine ⟨a, b, fun y => ?_, e⟩
      rw [eL] at y
      rcases List.mem_cons.mp y with y | y
      · exact c y
      · exact d y
    refine wpE_call (codeE_mono (F.run X.A X.stack z2 H1 ⟨us, []⟩ us (vs ++ []) Q fh dp hr I2.env0 hbt r2 q ⟨u2, hd.ok, hd.gen⟩ pd) fun rr s' hq => ?_)
    cases rr with
    | error e => exact False.elim hq
    | ok fl =>
      cases fl with
      | ret u => exact Inv.after2 I2 hL hS hq
      | next => exact False.elim hq
      | brk => exact False.elim hq
      | cont => exact False.elim hq
  have tail : ∀ {t : Sem Value}, wpE (model X.prog X.w) X.A t (EP2 X pins σ Q) nE (un fh z2) → wpE (model X.prog X.w) X.A (t >>= fun r => holding [r] point >>= fun _ => pure r) (EP2 X pins σ Q) nE (un fh z2) :=
    fun ht => wpE_bind (wpE_mono ht (fun r s2 hr => wpE_of (wpAny_bind (wpAny_holding (wpAny_point (wpAny_pure hr))))) fun _ _ q => q)
  have marked (mk : Value) : wpE (model X.prog X.w) X.A (callMarked mk (.ref f) us []) (EP2 X pins σ Q) nE (un fh z2) := by
    unfold callMarked
    exact wpE_keep main
  refine wpE_bind (wpE_of (PySem.W.Looks.here (s := un fh z2) L ?_))
  rcases hkp with rfl | rfl <;> dsimp only <;> first | exact tail main | (split <;> first | exact tail main | exact tail (marked _))⟩
end
end K19
set_option maxHeartbeats 4000000
/-! Level two: defs by their bodies, loops over lists, try. -/
namespace K19
open PySem PySem.Spec PyProof.Rows L2
open Sem (wp)
section
variable {prog : Program} {w : World} {A : Around} {s : Shared} {R : Result → Shared → Prop}
theorem codeE_func {body : List Stmt} {env : Env} (h : wpE (model prog w) (A.deeper env) (execs body env) (fun f s' => R (.ok (.ret (match f with | .ret v => v | _ => .none))) s') nE s) : codeE (model prog w) A (.func body env) R s := by
  refine codeE_of_tree ?_
  show wpE _ (A.deeper env) (point >>= fun _ => ((execs body env).onRaise (leaving env)) >>= fun f => match f with | .ret v => ret v | _ => ret .none) _ _ s
  refine wpE_bind (wpE_of (wpAny_point ?_))
  refine wpE_bind (wpE_onRaise (wpE_mono h (fun f s' q => ?_) fun _ _ q => q.elim))
  cases f <;> exact wpE_pure q
/-- a def's call up to its body -/
theorem tree_call {a : Addr} {args : Args} {o : Obj} {fd : FuncData} {body : List Stmt} {Q : PySem.Fin → Shared → Prop} {E : Value → Shared → Prop} (hroom : A.depth < recursionLimit) (ho : s.heap.get? a = some o) (hd : o.data = .func fd) (hco : fd.scope.isCoroutine = false) (hgen : fd.scope.isGenerator = false)
    (hb : fd.body = .stmts body) (hcd : s.heap.CodeRec fd.code fd.qualname) (h : wpAny (model prog w) A.in1 (bindArgs fd args) (fun binds s₁ => wpAny (model prog w) A.in1 (newFunctionEnv fd.scope fd.globals fd.closure binds (fd.qualname ++ ".<locals>.") (some a) fd.code none fd.builtins)
      (fun env s₂ => s₂.heap.NoLimit ∧ Q (.again (.func body env)) s₂) E s₁) E s) : wpAny (model prog w) A.in1 ((model prog w).den (.call (.ref a) args)) Q E s := by
  show wpAny _ A.in1 (callAny (.ref a) args) _ _ s
  obtain ⟨c, oc, vs, tq, hc, hoc, hdc, hq⟩ := hcd
  simp only [callAny]
  refine wpAny_bind (wpAny_load ho ?_)
  simp only [hd, callFunction, hco, hgen, hb, hc]
  rw [hc] at h
  refine wpAny_bind (m := field (.ref c) 1) (wpAny_field hoc hdc hq (wpAny_bind (wpAny_pure ?_)))
  refine wpAny_bind (thn h fun binds s₁ h₁ => ?_)
  refine wpAny_bind (thn h₁ fun env s₂ h₂ => ?_)
  exact wpAny_bind (wpAny_enterFrame h₂.1 hroom (wpAny_pure h₂.2))
end
section
variable {P : Program} {w : World} {K : PySem.W.Frag} {mg : Str → Option Value} {base : Heap} {x qual : Str} {params : Arguments} {body : List Stmt} {scope : Scope} {f : Addr} {fd : FuncData} {N ps : List Str} {k : Nat} {sp : Sp}
/-- THE RULE for a def at level two -/
theorem FunD.two (F : FunD K x qual params body scope [] [] f fd) (S : FnScope N ps scope) (len : ∀ vs H Q E, sp vs H Q E → vs.length = ps.length)
    (hbody : ∀ (cdv : Value) (A : Around) (outer : List Env) (z : Shared) (H : Hp) (vs : List V) (Q : VK), Room k (A.deeper (envOfC qual scope z.heap.objs.size f cdv)) → sp vs H Q noE →
      ∃ t, PSs2 (cxOf CX0 P w K mg base N qual scope f cdv A outer z H noE).nox body t ∧ t { nx := fun _ H' => Q .non H', rt := Q } (start N vs) H) : Fn2 P w K mg base (k + 1) f fd ps sp := by
  obtain ⟨oc, od, dV, kV, doc, pm, an, cdv, ct, osl, rfl, lk, hcd, _, _⟩ := F.ex
  refine ⟨len, fun A outer z H args us vs Q fh dp hr e0 hb r hsp hd pd => ?_⟩
  have hl := len _ _ _ _ hsp
  have KX : K.In z.heap := e0.mod.kin.keeps fun b o e => (e0.bs b o e).1
  have lim : z.heap.NoLimit := e0.mod.nolimit.keeps fun b o e => (e0.bs b o e).1
  have hkind : ∀ y ∈ ps.zip us, scope.names.lookup y.1 = some .local ∨ (scope.names.lookup y.1 = some .cell ∧ ((cellsFrom (z.heap.objs.size + 1) scope.names []).lookup y.1).isSome = true) := fun ⟨n, v⟩ hy => by
    rcases S.par n (List.of_mem_zip hy).1 with q | q
    · exact .inl q
    · exact .inr ⟨q, PySem.W.cellsFrom_some _ _ _ (.inl q)⟩
  obtain ⟨t, ht, hq⟩ := hbody cdv A outer z H vs Q (hr.deeper _) hsp
  have ent : wpAny (model P w) A.in1 ((model P w).den (.call (.ref f) args)) (fun fin z1 => fin = .again (.func body (envOfC qual scope z.heap.objs.size f cdv)) ∧ Inv (cxOf CX0 P w K mg base N qual scope f cdv A outer z H noE).nox [] (start N vs) H z1 ∧ ∀ b o, z.heap.get? b = some o → z1.heap.get? b = some o) nE z := by
    refine tree_call hr.depth (KX _ _ lk) rfl S.co S.gen rfl (PySem.W.codeRec_of KX hcd) (hb _ _ _ _ ?_)
    refine wpAny_newFunctionEnv_cells S.kind hkind fun env he s1 x => ?_
    subst he
    exact ⟨lim.keeps x.toInCall.keep, rfl, (inv_start S hr.hd e0 hl r x).wish _, x.toInCall.keep⟩
  refine codeE_of_tree (wpE_mono (wpE_un hd.un ent) (fun fin s' ⟨z1, u1, e1, ef, I, kp⟩ => ?_) fun _ _ ⟨_, _, _, q⟩ => q.elim)
  subst ef e1
  refine ⟨rfl, codeE_func ?_⟩
  have I1 : Inv (cxOf CX0 P w K mg base N qual scope f cdv A outer z H noE).nox (dp ++ []) (start N vs) H z1 := I.pins_of fun p hp => by
    rw [List.append_nil] at hp
    obtain ⟨a, b, c, d⟩ := pd p hp
    exact ⟨kp _ _ a, b, Nat.ne_of_lt (Heap.lt_size a), c, d⟩
  refine wpE_mono (ht.run [] z1 (start N vs) H _ fh dp I1 ⟨u1, hd.ok, hd.gen⟩ hq) (fun fl s' ⟨f', dp', z', e', hd', hs⟩ => ?_) fun _ _ q => q
  subst e'
  have fin : ∀ {σ' : L2.St} {H' : Hp} {v : V} {u : Value}, Inv (cxOf CX0 P w K mg base N qual scope f cdv A outer z H noE).nox (dp' ++ []) σ' H' z' → RelV v u → Q v H' → CE2 outer P w H z Q u (un f' z') := fun {σ' H' v u} J rv q =>
    ⟨f', dp', z', v, H', rfl, hd', fun p hp => (by
      obtain ⟨a, b, c, d, e⟩ := J.pin p (List.mem_append_right _ (List.mem_append_left _ hp))
      exact ⟨a, b, d, e⟩), J.os, J.bare, J.base, J.hok, rv, q⟩
  cases fl with
  | ret u =>
    obtain ⟨v, σ', H', J, rv, q⟩ := hs
    exact fin J rv q
  | next =>
    obtain ⟨σ', H', J, q⟩ := hs
    exact fin (v := V.non) (u := Value.none) J rfl q
  | brk =>
    obtain ⟨_, _, _, q⟩ := hs
    exact q.elim
  | cont =>
    obtain ⟨_, _, _, q⟩ := hs
    exact q.elim
end
/-! ### loops -/
section
variable {prog : Program} {w : World} {A : Around} {R : Result → Shared → Prop} {tg : Expr} {it : Value} {body : List Stmt} {env : Env}
theorem codeE_for (I : Nat → Shared → Prop) (turn : ∀ n s, I n s → wpE (model prog w) A (pyNext it) (fun r s1 => match r with
      | none => R (.ok .next) s1
      | some v => wpE (model prog w) A (letOwnedTupleGo tg it v) (fun _ s2 => wpE (model prog w) A (assign tg env v) (fun _ s3 => wpE (model prog w) A (execs body env) (fun f s4 => match f with
        | .next => ∃ m, m < n ∧ I m s4
        | .cont => ∃ m, m < n ∧ I m s4
        | .brk => R (.ok .next) s4
        | .ret v => R (.ok (.ret v)) s4) nE s3) nE s2) nE s1) nE s) : ∀ (n : Nat) (s : Shared), I n s → codeE (model prog w) A (.forLoop tg it body [] env) R s := by
  intro n
  induction n using Nat.strongRecOn with
  | ind n ih =>
    intro s h
    refine codeE_of_tree ?_
    rw [Around.under_of_weight (c := .forLoop tg it body [] env) rfl]
    show wpE _ A ((forTurn tg it body [] env).onRaise (fun x => do noteFrame x env; theTreesLotGoes x)) _ _ s
    refine wpE_onRaise0 ?_
    unfold forTurn
    refine wpE_bind (wpE_of (wpAny_standAt ?_))
    refine wpE_bind (wpE_onRaise0 (wpE_mono (turn n s h) (fun r s1 q => ?_) fun _ _ q => q))
    cases r with
    | none => exact wpE_pure ⟨rfl, codeE_of (codeAny_block (wpAny_execs_nil q))⟩
    | some v =>
      refine wpE_bind (wpE_mono q (fun _ s2 q => ?_) fun _ _ q => q)
      refine wpE_bind (wpE_mono q (fun _ s3 q => ?_) fun _ _ q => q)
      refine wpE_bind (wpE_mono q (fun f s4 q => ?_) fun _ _ q => q)
      cases f with
      | next =>
        obtain ⟨m, hm, q⟩ := q
        exact wpE_pure ⟨rfl, ih m hm s4 q⟩
      | cont =>
        obtain ⟨m, hm, q⟩ := q
        exact wpE_pure ⟨rfl, ih m hm s4 q⟩
      | brk => exact wpE_pure q
      | ret v => exact wpE_pure q
end
section
variable {X : Cx} {st : Stmt} {pos : Pos} {t u : TS}
theorem no_gen_iter {h : Heap} {it a : Addr} {i n : Nat} {o : Obj} (st : h.IsListIter it a i) (e : h.get? it = some o) (g : o.genNumber? = some n) : False := by
  obtain ⟨o', e', c, d⟩ := st
  rw [e] at e'
  cases e'
  unfold Obj.genNumber? at g
  rw [c, d] at g
  simp at g
theorem ps2_forL {l tg : Expr} {body : List Stmt} {tl : TE} {g : TG} {tb : TS} (hc : X.calm = true) (hl : PE X l tl) (hg : PG X tg g) (hb : PSs2 X body tb) (hs : ∀ x, foldedSetIterable l X.env x = pure x := by intro _; rfl) (hx : X.xe = nE := by rfl) : PS2 X (.For tg l body [] pos) (tFor (iList X.K tl) g tb) := ⟨fun pins z σ H D fh dp I hd h => by
  have fresh : ∀ {pins : List (Addr × Obj)} {σ : L2.St} {H : Hp} {s : Shared}, Inv X pins σ H s → ∀ b ∈ [s.heap.objs.size], FpOk X pins H b := fun {pins σ H s} I1 b hb => by
    have e : b = s.heap.objs.size := by simpa using hb
    subst e
    exact I1.fpOk (Nat.le_refl _) (I1.hok.fresh (Nat.le_refl _))
  have start : wpAny (model X.prog X.w) X.A (eval l X.env) (fun v s1 => wpAny (model X.prog X.w) X.A (pyIter v) (fun itv s2 => ∃ it a H', itv = .ref it ∧ Inv X (dp ++ pins) σ H' s2 ∧ s2.heap.IsListIter it a 0 ∧ FpOk X (dp ++ pins) H' it ∧ ∃ W : Nat → Nat → L2.St → Hp → Prop, (∃ m, W 0 m σ H') ∧ ∀ i m σ H, W i m σ H →
      ((Itl X.K a).stop i H ∧ D.nx σ H) ∨ ((Itl X.K a).go i H ∧ ∃ N : L2.St → Hp → Prop, (∀ σ' H', N σ' H' → ∃ m', m' < m ∧ W (i + 1) m' σ' H') ∧ ∀ x H', (Itl X.K a).yld i H x H' → g x σ H' fun σ2 H2 => tb { D with nx := N, ct := N, bk := D.nx } σ2 H2)) nE s1) nE z := by
    have q := hl.run (dp ++ pins) z σ H _ I h
    rw [hx] at q
    refine thn q fun v s1 ⟨x, H1, I1, r1, a, e, ⟨xs, hq⟩, q1⟩ => ?_
    subst e
    cases r1
    obtain ⟨its, rv, p, hz⟩ := I1.list hq
    refine wpAny_pyIter_list p.isList ?_
    exact ⟨s1.heap.objs.size, a, H1, rfl, I1.kept (t' := s1.toks) fun b o e => Heap.get?_push_of_some _ e, ⟨_, Heap.get?_push_size _ rfl, rfl, rfl⟩, fresh I1 _ (by simp), q1⟩
  rw [exec_For]
  refine wpE_bind (wpE_of (wpAny_standAt ?_))
  refine wpE_bind (wpE_mono (wpE_un hd.un start) (fun v s1 ⟨z1, u1, e1, q1⟩ => ?_) fun _ _ ⟨_, _, _, q⟩ => q)
  subst e1
  refine wpE_bind (wpE_of (wpAny_of_eq (hs v) ?_))
  refine wpE_bind (wpE_of (wpAny_standAt ?_))
  refine wpE_bind (wpE_holding (wpE_mono (wpE_un u1 q1) (fun itv s2 ⟨z2, u2, e2, it, a, H2, ei, I2, st2, f2, W, ⟨m0, w0⟩, turn⟩ => ?_) fun _ _ ⟨_, _, _, q⟩ => q))
  subst ei e2
  unfold runOwn
  refine wpE_onRaise (E := nE) (wpE_run (h := none) ?_)
  have T := turn_list (P := X.prog) (w := X.w) (K := X.K) (tg := tg) a it
  have ne : ∀ {dp : Dl} {s : Shared} {i : Nat} {H : Hp} {σ : L2.St}, Inv X (dp ++ pins) σ H s → s.heap.IsListIter it a i → (∀ q ∈ dp, ∃ n, q.2.genNumber? = some n) → H it = none → ∀ b ∈ [it], FpOk X (dp ++ pins) H b := fun {dp s i H σ} I st hg hn b hb => by
    have e : b = it := by simpa using hb
    subst e
    obtain ⟨_, f1, f3, f4, f5, f6⟩ := f2
    refine ⟨hn, f1, f3, f4, f5, fun p hp y => ?_⟩
    rcases List.mem_append.mp hp with hp' | hp'
    · exact f6 p (List.mem_append_left _ hp') y
    · rcases List.mem_append.mp hp' with hq | hq
      · obtain ⟨n, gn⟩ := hg p hq
        exact no_gen_iter st (by rw [← y]; exact (I.pin p hp).1) gn
      · exact f6 p (List.mem_append_right _ (List.mem_append_right _ hq)) y
  refine codeE_for (fun n s => ∃ fh dp z i σ' H', s = un fh z ∧ Hid fh dp z ∧ Inv X (dp ++ pins) σ' H' z ∧ z.heap.IsListIter it a i ∧ H' it = none ∧ W i n σ' H') ?_ m0 _ ⟨fh, dp, z2, 0, σ, H2, rfl, ⟨u2, hd.ok, hd.gen⟩, I2, st2, f2.1, w0⟩
  rintro n s ⟨fh, dp, z3, i, σ3, H3, rfl, hd3, I3, st3, n3, w3⟩
  have fp3 := ne I3 st3 hd3.gen n3
  rcases turn i n σ3 H3 w3 with ⟨stop, qn⟩ | ⟨go, N, hN, step⟩
  · refine wpE_mono (wpE_un hd3.un (T.done X rfl rfl rfl hc i (dp ++ pins) z3 σ3 H3 nE I3 fp3 st3 stop)) (fun r s4 ⟨z4, u4, e4, er, I4⟩ => ?_) fun _ _ ⟨_, _, _, q⟩ => q
    subst er
    exact ⟨fh, dp, z4, e4, ⟨u4, hd3.ok, hd3.gen⟩, σ3, H3, I4, qn⟩
  · refine wpE_mono (wpE_un hd3.un (T.item X rfl rfl rfl hc i (dp ++ pins) z3 σ3 H3 nE I3 fp3 st3 go)) (fun r s4 ⟨z4, u4, e4, v, er, h4⟩ => ?_) fun _ _ ⟨_, _, _, q⟩ => q
    subst er e4
    refine wpE_mono (wpE_un u4 h4) (fun _ s5 ⟨z5, u5, e5, x, H5, I5, r5, y5, st5, fr5⟩ => ?_) fun _ _ ⟨_, _, _, q⟩ => q
    subst e5
    have I5' : Inv X (dp ++ (pins ++ pinsAt [it] z5.heap)) σ3 H5 z5 := by
      have := I5.pinned (ne I5 st5 hd3.gen (fr5 it (by simp))) (T.obj _ _ st5)
      rw [List.append_assoc] at this
      exact this
    have as := hg.run (dp ++ (pins ++ pinsAt [it] z5.heap)) z5 σ3 H5 x v _ I5' r5 (step x H5 y5)
    rw [hx] at as
    refine wpE_mono (wpE_un u5 as) (fun _ s6 ⟨z6, u6, e6, σ6, H6, I6, q6⟩ => ?_) fun _ _ ⟨_, _, _, q⟩ => q
    subst e6
    refine wpE_mono (hb.run (pins ++ pinsAt [it] z5.heap) z6 σ6 H6 _ fh dp I6 ⟨u6, hd3.ok, hd3.gen⟩ q6) (fun f s7 ⟨f7, dp7, z7, e7, hd7, q7⟩ => ?_) fun _ _ q => q
    subst e7
    have drop : ∀ {σ7 : L2.St} {H7 : Hp}, Inv X (dp7 ++ (pins ++ pinsAt [it] z5.heap)) σ7 H7 z7 → Inv X (dp7 ++ pins) σ7 H7 z7 := fun {σ7 H7} J => by
      rw [← List.append_assoc] at J
      exact J.unpinned
    have again : ∀ {σ7 : L2.St} {H7 : Hp}, Inv X (dp7 ++ (pins ++ pinsAt [it] z5.heap)) σ7 H7 z7 → N σ7 H7 → ∃ m, m < n ∧ ∃ fh dp z i σ' H', un f7 z7 = un fh z ∧ Hid fh dp z ∧ Inv X (dp ++ pins) σ' H' z ∧ z.heap.IsListIter it a i ∧ H' it = none ∧ W i m σ' H' := fun {σ7 H7} I7 n7 => by
      obtain ⟨m', hm, w7⟩ := hN σ7 H7 n7
      obtain ⟨o, eo, _⟩ := T.obj _ _ st5 it (by simp)
      have pn := I7.pin (it, o) (List.mem_append_right _ (List.mem_append_right _ (List.mem_append_right _ (mem_pinsAt (by simp) eo))))
      exact ⟨m', hm, f7, dp7, z7, i + 1, σ7, H7, rfl, hd7, drop I7, T.keep _ _ _ st5 (fun b hb o' e => by
        have e' : b = it := by simpa using hb
        subst e'
        rw [eo] at e
        cases e
        exact pn.1), pn.2.1, w7⟩
    cases f with
    | next => obtain ⟨σ7, H7, I7, n7⟩ := q7; exact again I7 n7
    | cont => obtain ⟨σ7, H7, I7, n7⟩ := q7; exact again I7 n7
    | brk => obtain ⟨σ7, H7, I7, q7⟩ := q7; exact ⟨f7, dp7, z7, rfl, hd7, σ7, H7, drop I7, q7⟩
    | ret v => obtain ⟨x7, σ7, H7, I7, r7, q7⟩ := q7; exact ⟨f7, dp7, z7, rfl, hd7, x7, σ7, H7, drop I7, r7, q7⟩⟩
/-! a try that raises nothing -/
theorem ps2_try {body : List Stmt} {hs : List ExceptHandler} (h : PSs2 X body t) : PS2 X (.Try body hs [] [] pos) t := ⟨fun pins z σ H D fh dp I hd q => by
  rw [arm_exec_Try]
  refine wpE_bind (wpE_of (wpAny_standAt ?_))
  unfold tryStmt
  simp only [List.isEmpty_nil, if_true]
  refine wpE_bind (wpE_attempt (wpE_mono (h.run pins z σ H D fh dp I hd q) (fun fl s' r => ?_) fun _ _ q => q.elim))
  cases fl <;> exact wpE_pure r⟩
end
end K19
set_option maxHeartbeats 4000000
/-! A frame that is entered again: contexts over the heap below it; a generator def's call. -/
namespace K19
open PySem PySem.Spec PyProof.Rows L2
/-- the first n objects -/
def trunc (h : Heap) (n : Nat) : Heap := { h with objs := h.objs.extract 0 n }
theorem trunc_size {h : Heap} {n : Nat} (hn : n ≤ h.objs.size) : (trunc h n).objs.size = n := by
  unfold trunc
  simp [Array.size_extract]
  omega
theorem trunc_get {h : Heap} {n b : Nat} (hb : b < n) : (trunc h n).get? b = h.get? b := by
  have e : (trunc h n).objs[b]? = h.objs[b]? := by
    unfold trunc
    show (h.objs.extract 0 n)[b]? = _
    rw [Array.getElem?_extract]
    split
    · rw [Nat.zero_add]
    · rename_i q
      exact (Array.getElem?_eq_none (by omega)).symm
  unfold Heap.get?
  rw [e]
theorem of_trunc {h : Heap} {n b : Nat} {o : Obj} (e : (trunc h n).get? b = some o) : b < n ∧ h.get? b = some o := by
  have lt : b < n := by
    have h1 : b < (trunc h n).objs.size := Heap.lt_size e
    have h2 : (trunc h n).objs.size ≤ n := by
      unfold trunc
      simp [Array.size_extract]
      omega
    exact Nat.lt_of_lt_of_le h1 h2
  exact ⟨lt, by rw [← trunc_get lt]; exact e⟩
abbrev zT (z : Shared) (L : Addr) : Shared := { z with heap := trunc z.heap L }
/-- a def's frame at L, entered (again) at z -/
def cxL (P : Program) (w : World) (K : PySem.W.Frag) (mg : Str → Option Value) (base : Heap) (N : List Str) (qual : Str) (scope : Scope) (f : Addr) (cd : Value) (A : Around) (outer : List Env) (L : Addr) (z : Shared) (H : Hp) : Cx where
  prog := P
  w := w
  K := K
  mg := mg
  base := base
  A := A.deeper (envOfC qual scope L f cd)
  N := N
  s_0 := zT z L
  H_0 := H
  env := envOfC qual scope L f cd
  outer := outer
  stack := envOfC qual scope L f cd :: outer
  ex := []
  calm := true
  fn := fun _ => true
  pn := []
  xe := nE
section
variable {P : Program} {w : World} {K : PySem.W.Frag} {mg : Str → Option Value} {base : Heap} {N : List Str} {qual : Str} {scope : Scope} {f : Addr} {cd : Value} {A A' : Around} {outer : List Env} {L : Addr} {z : Shared} {H : Hp} {σ : L2.St}
theorem Env0.at (e : Env0 P w K mg base A outer z H) (h : A'.frames = some outer) : Env0 P w K mg base A' outer z H := ⟨h, e.mod, e.bs, e.bsz, e.funs, e.frf, e.hok, e.bare⟩
theorem funs_trunc {h : Heap} {n : Nat} : ∀ {l : List Env}, h.FunFrames base l → (∀ b ∈ frs l, b < n) → (trunc h n).FunFrames base l
  | [], _, _ => trivial
  | env :: l, ⟨a, ⟨L, o, e1, e2, e3, e4⟩, r⟩, lt => by
    have eL : frs (env :: l) = L :: frs l := by
      unfold frs
      rw [List.filterMap_cons, e1]
    rw [eL] at lt
    exact ⟨a, ⟨L, o, e1, e2, by rw [trunc_get (lt L List.mem_cons_self)]; exact e3, e4⟩, funs_trunc r fun b hb => lt b (List.mem_cons_of_mem _ hb)⟩
theorem inv_root {m : Str → Option Value} (hk : scope.kind = .function) (hcl : ∀ n, cellsFrom n scope.names [] = []) (hnc : ∀ y ∈ scope.names, y.2 ≠ .cell ∧ y.2 ≠ .free) (hd : A.handled = none) (e0 : Env0 P w K mg base A outer z H) (hb : base.objs.size ≤ L) (hfr : ∀ b ∈ frs outer, b < L)
    (hn : H L = none) (ns : z.heap.Ns L m) (hm : ∀ (i : Nat) (x : Str) (v : V), N[i]? = some x → σ[i]? = some (some v) → scope.names.lookup x = some .local ∧ ∃ u, RelV v u ∧ m x = some u) (hl : σ.length = N.length) :
    Inv (cxL P w K mg base N qual scope f cd A outer L z H) [] σ H z := by
  have lt : L < z.heap.objs.size := ns.lt
  have noA : ∀ b : Addr, b ∉ (cxL P w K mg base N qual scope f cd A outer L z H).ex := fun b q => absurd (show b ∈ ([] : List Addr) from q) (by simp)
  have noC : ∀ {x : Str} {c : Addr}, (cxL P w K mg base N qual scope f cd A outer L z H).env.cells.lookup x = some c → False := fun {x c} e => by
    have e : (cellsFrom (L + 1) scope.names []).lookup x = some c := e
    rw [hcl] at e
    cases e
  have kp : ∀ b o, (zT z L).heap.get? b = some o → z.heap.get? b = some o := fun b o e => (of_trunc e).2
  refine ⟨⟨e0.mod, hk, rfl, rfl, by show (trunc z.heap L).objs.size ≤ L; rw [trunc_size (Nat.le_of_lt lt)]; exact Nat.le_refl _, fun y y' c h1 _ => (noC h1).elim, fun y hy => ?_, fun y c _ h => (noC h).elim, fun _ => hd, Around.frames_deeper e0.frames, .inr ⟨rfl, rfl⟩, fun b q => absurd q (noA b),
    fun b o e => ⟨(trunc_get (Nat.lt_of_lt_of_le (Heap.lt_size e) hb)).trans (e0.bs b o e).1, (e0.bs b o e).2⟩, by show base.objs.size ≤ (trunc z.heap L).objs.size; rw [trunc_size (Nat.le_of_lt lt)]; exact hb, fun b _ _ => noA b, fun b q => absurd q (noA b), funs_trunc e0.funs hfr, e0.frf⟩,
    rfl, e0.bare, Un.kept kp, ⟨m, ns, fun i x v e1 e2 e3 => ?_⟩, fun y c h => (noC h).elim, hn, fun y c h => (noC h).elim, fun p hp => absurd (show p ∈ ([] : List (Addr × Obj)) from hp) (by simp), e0.hok, hl⟩
  · have hy : scope.names.lookup y = some .cell ∨ scope.names.lookup y = some .free := hy
    rcases hy with hy | hy
    · exact absurd rfl (hnc _ (PySem.mem_of_lookup hy)).1
    · exact absurd rfl (hnc _ (PySem.mem_of_lookup hy)).2
  · obtain ⟨a, u, r, e⟩ := hm i x v e1 e2
    exact ⟨u, r, .inl ⟨a, e⟩⟩
end
/-! ### a generator def is called -/
/-- behind the call: the frame's dict at L, the generator's object at a, its number g -/
structure GenMade (z z' : Shared) (L a : Addr) (g : Nat) (c : Code) (m : Str → Option Value) : Prop where
  gens : z'.gens = z.gens.push (.fresh c)
  num : g = z.gens.size
  os : z'.os = z.os
  keep : ∀ b o, z.heap.get? b = some o → z'.heap.get? b = some o
  frm : L = z.heap.objs.size
  lt : L < a
  top : z'.heap.objs.size = a + 1
  ns : z'.heap.Ns L m
  obj : z'.heap.IsGen a g
section
variable {P : Program} {w : World} {K : PySem.W.Frag} {mg : Str → Option Value} {base : Heap} {x qual : Str} {params : Arguments} {body : List Stmt} {scope : Scope} {f : Addr} {fd : FuncData} {ps : List Str}
structure GSc (ps : List Str) (sc : Scope) : Prop where
  kind : sc.kind = .function
  co : sc.isCoroutine = false
  gen : sc.isGenerator = true
  par : ∀ x ∈ ps, sc.names.lookup x = some .local
  nc : ∀ y ∈ sc.names, y.2 ≠ .cell ∧ y.2 ≠ .free
theorem gen_made (F : FunD K x qual params body scope [] [] f fd) (S : GSc ps scope) : ∃ cdv, ∀ (A : Around) (z : Shared) (args : Args) (us : List Value), A.depth < recursionLimit → K.In z.heap → z.heap.NoLimit → us.length = ps.length → BindsTo z fd args (ps.zip us) →
    codeAny (model P w) A (.call (.ref f) args) (fun r z' => ∃ a, r = .ok (.ret (.ref a)) ∧ GenMade z z' z.heap.objs.size a z.gens.size (.func body (envOfC qual scope z.heap.objs.size f cdv)) (bindL (envOfC qual scope z.heap.objs.size f cdv).kindOf (ps.zip us) fun _ => none)) z := by
  obtain ⟨oc, od, dV, kV, doc, pm, an, cdv, ct, osl, rfl, lk, hcd, _, _⟩ := F.ex
  refine ⟨cdv, fun A z args us hd KX lim hl hb => ?_⟩
  have hkind : ∀ y ∈ ps.zip us, scope.names.lookup y.1 = some .local ∨ (scope.names.lookup y.1 = some .cell ∧ ((cellsFrom (z.heap.objs.size + 1) scope.names []).lookup y.1).isSome = true) := fun ⟨n, v⟩ hy => .inl (S.par n (List.of_mem_zip hy).1)
  refine codeAny_call_generator hd (KX _ _ lk) rfl S.co S.gen rfl (PySem.W.codeRec_of KX hcd) (hb _ _ _ _ ?_)
  refine wpAny_newFunctionEnv_cells S.kind hkind fun env he s1 y => ?_
  subst he
  obtain ⟨h1, tk, e1, k1⟩ := y.done
  subst e1
  refine ⟨lim.keeps y.toInCall.keep, h1.objs.size, rfl, rfl, rfl, rfl, fun b o e => Heap.get?_push_of_some _ (k1 b o e), rfl, y.toInCall.ns.lt, Heap.size_push .., y.toInCall.ns.keeps fun b o e => Heap.get?_push_of_some _ e, ⟨_, _, _, Heap.get?_push_size _ rfl, rfl, rfl, rfl⟩⟩
end
end K19
set_option maxHeartbeats 4000000
/-! A generator's code, step by step: what it hands out, how it ends. -/
namespace K19
open PySem PySem.Spec PyProof.Rows L2
open Sem (wp)
/-- code c runs t above the frames fs of generator g -/
def gE (M : Model) (A : Around) (g : Nat) (Y : Value → Shared → GenState → Prop) (R : Result → Shared → Prop) (c : Code) (fs : List Frame) (t : Sem PySem.Fin) (s : Shared) : Prop :=
  ∀ (Γ : PySem.Ctx) (base : List Frame) (p p' : Pos) (k : GenResult → Sem PySem.Fin) (l : List Value) (Φ : Shared → Thread → Prop), Γ.Fits base → Γ.In A →
    (∀ v s₁ gs', Y v s₁ gs' → Ev M Φ (s₁.setGen g gs') ⟨k (.yielded v), Γ.code, p, base⟩) → (∀ r s₁, R r s₁ → Ev M Φ (s₁.setGen g .finished) ⟨k (End.ret r).result, Γ.code, p, base⟩) →
      Ev M Φ s ⟨t, c, p', fs ++ .gen g k l Γ.code p :: base⟩
/-- what is around code c above fs -/
def InG (A : Around) (c : Code) (fs : List Frame) (A' : Around) : Prop :=
  ∀ (g : Nat) (Γ : PySem.Ctx) (base : List Frame) (p : Pos) (k : GenResult → Sem PySem.Fin) (l : List Value), Γ.Fits base → Γ.In A → ∃ Γ' : PySem.Ctx, Γ'.code = c ∧ Γ'.Fits (fs ++ .gen g k l Γ.code p :: base) ∧ Γ'.In A'
section
variable {M : Model} {A A' : Around} {g : Nat} {Y : Value → Shared → GenState → Prop} {R : Result → Shared → Prop} {c c' : Code} {fs : List Frame} {s : Shared}
theorem inG_func {body : List Stmt} {env : Env} : InG A (.func body env) [] (A.deeper env) := fun g Γ base p k l hf hA => by
  refine ⟨Γ.wake (.func body env) p, rfl, hf.wake (.func body env) g k l p, ?_⟩
  have h := (hA.wake (.func body env) p).over []
  have e : (Γ.wake (.func body env) p).over [] = Γ.wake (.func body env) p := by
    obtain ⟨a, b, c, d, e⟩ := Γ
    rfl
  rw [e] at h
  have e2 : A.over (.func body env) [] = A.deeper env := GenW.over_func
  rw [← e2]
  exact h
theorem InG.call {h : Option Value} {kf : Result → Sem PySem.Fin} {gg : Bool} {l : List Value} {p : Pos} (H : InG A c fs A') (hnb : h ≠ some byPass) : InG A c' (.ret kf h gg l c p [] :: fs) ((A'.mark h).under c') := fun g Γ base p' k l' hf hA => by
  obtain ⟨Γ', e, hf', hA'⟩ := H g Γ base p' k l' hf hA
  refine ⟨Γ'.enter c' h p, rfl, ?_, ((hA'.enter c' h p hnb).in)⟩
  have z := hf'.enter c' kf h gg l p []
  rw [e] at z
  exact z
theorem gE_wrap {α : Type} {m : Sem α} {K : α → Sem PySem.Fin} {Hx : Value → Sem PySem.Fin} {gd : Bool → Bool} {lv : List Value → List Value} (hI : InG A c fs A')
    (h : wpE M A' m (fun a s' => gE M A g Y R c fs (K a) s') (fun x s' => gE M A g Y R c fs (Hx x) s') s) : gE M A g Y R c fs (m.wrap K Hx gd lv) s := fun Γ base p p' k l Φ hf hA kY kR => by
  obtain ⟨Γ', e, hf', hA'⟩ := hI g Γ base p k l hf hA
  have z := h Γ' _ p' K Hx gd lv Φ hf' hA' (fun a p'' s' q => by rw [e]; exact q Γ base p p'' k l Φ hf hA kY kR) (fun x p'' s' q => by rw [e]; exact q Γ base p p'' k l Φ hf hA kY kR)
  rw [e] at z
  exact z
theorem gE_bind {α : Type} {m : Sem α} {K : α → Sem PySem.Fin} (hI : InG A c fs A') (h : wpE M A' m (fun a s' => gE M A g Y R c fs (K a) s') (fun x s' => gE M A g Y R c fs (.raise x) s') s) : gE M A g Y R c fs (m >>= K) s := by
  rw [Sem.bind_eq_wrap']
  exact gE_wrap hI h
theorem gE_call {h : Option Value} {gg : Bool} {l : List Value} {k : Result → Sem PySem.Fin} (hc : ∀ p, gE M A g Y R c' (.ret k h gg l c p [] :: fs) (M.den c') s) : gE M A g Y R c fs (.call c' h gg l k) s := fun Γ base p p' k' l' Φ hf hA kY kR =>
  ev_step (step_call ..) (hc p' Γ base p p' k' l' Φ hf hA kY kR)
theorem gE_again (hq : c'.quiet = true) (h : gE M A g Y R c' fs (M.den c') s) : gE M A g Y R c fs (.pure (.again c')) s := fun Γ base p p' k' l' Φ hf hA kY kR =>
  ev_step (step_again _ _ _ _ _ _ hq) (h Γ base p p' k' l' Φ hf hA kY kR)
theorem gE_leaf {h : Option Value} {gg : Bool} {l kp : List Value} {k : Result → Sem PySem.Fin} {c₁ : Code} {p₁ : Pos} (r : Result) (hk : gE M A g Y R c₁ fs (k r) s) : gE M A g Y R c (.ret k h gg l c₁ p₁ kp :: fs) (leafOf r) s := fun Γ base p p' k' l' Φ hf hA kY kR =>
  ev_step (step_leaf_ret ..) (hk Γ base p p₁ k' l' Φ hf hA kY kR)
theorem gE_end (r : Result) (h : R r s) : gE M A g Y R c [] (leafOf r) s := fun Γ base p p' k' l' Φ hf hA kY kR =>
  ev_step (step_leaf_gen ..) (kR r s h)
theorem gE_at {p₀ : Pos} {k : Unit → Sem PySem.Fin} (h : gE M A g Y R c fs (k ()) s) : gE M A g Y R c fs (.at p₀ k) s := fun Γ base p p' k' l' Φ hf hA kY kR =>
  ev_step (step_at ..) (h Γ base p p₀ k' l' Φ hf hA kY kR)
theorem gE_point {l : List Value} {k : Unit → Sem PySem.Fin} (h : gE M A g Y R c fs (k ()) s) : gE M A g Y R c fs (.point l k) s := fun Γ base p p' k' l' Φ hf hA kY kR =>
  ev_step (step_point ..) (h Γ base p p' k' l' Φ hf hA kY kR)
theorem gE_rule {tag : String} {k : Unit → Sem PySem.Fin} (h : gE M A g Y R c fs (k ()) s) : gE M A g Y R c fs (.rule tag k) s := fun Γ base p p' k' l' Φ hf hA kY kR =>
  ev_step (step_rule ..) (h Γ base p p' k' l' Φ hf hA kY kR)
theorem split_fs {k : GenResult → Sem PySem.Fin} {l : List Value} {p : Pos} {base : List Frame} (hfs : splitAtGen fs = none) : splitAtGen (fs ++ .gen g k l c p :: base) = some (fs, (g, k, c, p), base) := by
  rw [splitAtGen_append_none _ hfs, splitAtGen_gen]
  simp
theorem gE_yield {v : Value} {l : List Value} {k : Resume → Sem PySem.Fin} (hfs : splitAtGen fs = none) (hg : fs.any Frame.guarded = false) (h : ∀ p, Y v s (.suspended k l c p fs false)) : gE M A g Y R c fs (.yield v false l k) s := fun Γ base p p' k' l' Φ hf hA kY kR => by
  have q : (End.susp v false l k c p' fs).quiet = true := by simp [End.quiet, hg]
  refine ev_step (step_yield M s c p' _ v false l k (split_fs hfs) q) ?_
  have e : (End.susp v false l k c p' fs).genState = .suspended k l c p' fs false := by simp [End.genState, hg]
  rw [e]
  exact kY v s _ (h p')
/-- .. inside «yield from» over a generator -/
theorem gE_yieldY {v : Value} {gd : Bool} {l : List Value} {k : Resume → Sem PySem.Fin} (hfs : splitAtGen fs = none) (hg : fs.any Frame.guarded = false) {a : Addr} {as : List Value} {kw : List (Str × Value)} {o : Obj} {n : Nat}
    (hc : c = .builtin "proto.yield_from" ⟨.ref a :: as, kw⟩) (ho : s.heap.get? a = some o) (hn : o.genNumber? = some n) (h : ∀ p, Y v s (.suspended k l c p fs gd)) : gE M A g Y R c fs (.yield v gd l k) s := fun Γ base p p' k' l' Φ hf hA kY kR => by
  have e : stepK M.den M.prog M.w s ⟨.yield v gd l k, c, p', fs ++ .gen g k' l' Γ.code p :: base⟩ = .go (s.setGen g (.suspended k l c p' fs gd)) ⟨k' (.yielded v), Γ.code, p, base⟩ := by
    simp only [stepK, step, split_fs hfs, hg, Bool.or_false]
    rfl
  exact .step e (.inr ⟨⟨v, gd, l, k, rfl⟩, ⟨fs, _, base, split_fs hfs, hg⟩, a, as, kw, o, n, hc, ho, hn⟩) (kY v s _ (h p'))
theorem goE_fresh (h : gE M A g Y R c [] (M.den c) s) : goE M A g (.fresh c) Y R s := fun Γ base p k l Φ hf hA kY kR => h Γ base p p k l Φ hf hA kY kR
theorem goE_susp {k₀ : Resume → Sem PySem.Fin} {l₀ : List Value} {p₀ : Pos} {cl : Bool} (h : gE M A g Y R c fs (k₀ (.send .none)) s) : goE M A g (.suspended k₀ l₀ c p₀ fs cl) Y R s := fun Γ base p k l Φ hf hA kY kR => h Γ base p p₀ k l Φ hf hA kY kR
theorem gE_mono {Y' : Value → Shared → GenState → Prop} {R' : Result → Shared → Prop} {t : Sem PySem.Fin} (h : gE M A g Y R c fs t s) (hY : ∀ v s₁ gs', Y v s₁ gs' → Y' v s₁ gs') (hR : ∀ r s₁, R r s₁ → R' r s₁) : gE M A g Y' R' c fs t s := fun Γ base p p' k l Φ hf hA kY kR =>
  h Γ base p p' k l Φ hf hA (fun v s₁ gs' q => kY v s₁ gs' (hY v s₁ gs' q)) fun r s₁ q => kR r s₁ (hR r s₁ q)
/-- the table of generators does not shrink -/
theorem wpE_unG {α : Type} {E : Value → Shared → Prop} {f : Nat → Option GenState} {z : Shared} {t : Sem α} {Q : α → Shared → Prop} (U : UnOk f z) (h : wpAny M A t Q E z) : wpE M A t (fun a s' => ∃ z', UnOk f z' ∧ s' = un f z' ∧ z.gens.size ≤ z'.gens.size ∧ Q a z') (fun e s' => ∃ z', UnOk f z' ∧ s' = un f z' ∧ E e z') (un f z) :=
  wpE_un U (GenW.wpAny_gsz (Nat.le_refl _) (wpAny_mono h (fun a s' q n => ⟨n, q⟩) fun e s' q _ => q))
end
/-! hiding -/
section
variable {f : Nat → Option GenState} {z : Shared} {g : Nat} {G : GenState}
def hideF (f : Nat → Option GenState) (g : Nat) (G : GenState) : Nat → Option GenState := fun i => if i = g then some G else f i
def showF (f : Nat → Option GenState) (g : Nat) : Nat → Option GenState := fun i => if i = g then none else f i
theorem un_hide (h : g < z.gens.size) : (un f z).setGen g G = un (hideF f g G) (z.setGen g (stk G)) := by
  unfold un Shared.setGen
  congr 1
  apply Array.ext_getElem?
  intro i
  rw [Array.getElem?_setIfInBounds, Array.getElem?_mapIdx, Array.getElem?_mapIdx, Array.getElem?_setIfInBounds, Array.size_mapIdx]
  unfold hideF
  by_cases e : g = i
  · subst e
    simp [h]
  · rw [if_neg e, if_neg e]
    have e2 : ¬ (i = g) := fun q => e q.symm
    simp [e2]
theorem UnOk.hide (U : UnOk f z) (h : g < z.gens.size) (hs : isSusp G = true) : UnOk (hideF f g G) (z.setGen g (stk G)) where
  dom := fun i G' q => by
    unfold hideF at q
    show _ ∧ (z.gens.setIfInBounds g (stk G))[i]? = _
    rw [Array.getElem?_setIfInBounds]
    by_cases e : g = i
    · subst e
      rw [if_pos rfl] at q
      cases q
      simp [h, hs]
    · rw [if_neg fun y => e y.symm] at q
      rw [if_neg e]
      exact U.dom i G' q
  ng := fun i x q hx => by
    unfold hideF at q
    replace hx : (z.gens.setIfInBounds g (stk G))[i]? = some x := hx
    rw [Array.getElem?_setIfInBounds] at hx
    by_cases e : g = i
    · subst e
      rw [if_pos rfl] at q
      cases q
    · rw [if_neg fun y => e y.symm] at q
      rw [if_neg e] at hx
      exact U.ng i x q hx
/-- the sleeper g is woken: its state is X -/
theorem un_show {X : GenState} : (un f z).setGen g X = un (showF f g) (z.setGen g X) := by
  unfold un Shared.setGen
  congr 1
  apply Array.ext_getElem?
  intro i
  rw [Array.getElem?_setIfInBounds, Array.getElem?_mapIdx, Array.getElem?_mapIdx, Array.getElem?_setIfInBounds, Array.size_mapIdx]
  unfold showF
  by_cases e : g = i
  · subst e
    rw [if_pos rfl, if_pos rfl]
    split <;> simp
  · rw [if_neg e, if_neg e]
    have e2 : ¬ (i = g) := fun q => e q.symm
    simp [e2]
theorem UnOk.show {X : GenState} (U : UnOk f z) (hX : ngS X = true) : UnOk (showF f g) (z.setGen g X) where
  dom := fun i G' q => by
    unfold showF at q
    show _ ∧ (z.gens.setIfInBounds g X)[i]? = _
    rw [Array.getElem?_setIfInBounds]
    by_cases e : g = i
    · subst e
      rw [if_pos rfl] at q
      cases q
    · rw [if_neg fun y => e y.symm] at q
      rw [if_neg e]
      exact U.dom i G' q
  ng := fun i x q hx => by
    unfold showF at q
    replace hx : (z.gens.setIfInBounds g X)[i]? = some x := hx
    rw [Array.getElem?_setIfInBounds] at hx
    by_cases e : g = i
    · subst e
      rw [if_pos rfl] at hx
      split at hx
      · cases hx; exact hX
      · cases hx
    · rw [if_neg fun y => e y.symm] at q
      rw [if_neg e] at hx
      exact U.ng i x q hx
/-- as it was -/
theorem un_show_self (h : f g = some G) : un f z = un (showF f g) (z.setGen g G) := by
  unfold un Shared.setGen
  congr 1
  apply Array.ext_getElem?
  intro i
  rw [Array.getElem?_mapIdx, Array.getElem?_mapIdx, Array.getElem?_setIfInBounds]
  unfold showF
  by_cases e : g = i
  · subst e
    rw [if_pos rfl]
    by_cases lt : g < z.gens.size
    · simp [h, lt]
    · have : z.gens[g]? = none := Array.getElem?_eq_none (by omega)
      simp [this, lt]
  · rw [if_neg e]
    have e2 : ¬ (i = g) := fun q => e q.symm
    simp [e2]
end
end K19
set_option maxHeartbeats 4000000
set_option exponentiation.threshold 20000
namespace K19
open PySem PySem.Spec PyProof.Rows L2
/-! ### the texts of the two generators, of flat_at's loop -/
abbrev NP : List Str := ["choices", "letters", "base", "many", "_", "code", "rest", "found"]
abbrev NF : List Str := ["arms"]
abbrev NA : List Str := ["arms", "row", "length", "pose"]
structure GNm (N : List Str) : Prop where
  nd : N.Nodup
theorem sc_poses_from : GNm NP := ⟨by decide +kernel⟩
theorem sc_flat_poses : GNm NF := ⟨by decide +kernel⟩
theorem gs_poses_from : GSc ["choices", "letters"] (defScope s_poses_from) := ⟨rfl, rfl, rfl, by decide +kernel, by decide +kernel⟩
theorem gs_flat_poses : GSc ["arms"] (defScope s_flat_poses) := ⟨rfl, rfl, rfl, by decide +kernel, by decide +kernel⟩
theorem bd_poses_from : Bnd "poses_from" "poses_from" s_poses_from ["choices", "letters"] := fun _ _ _ _ _ _ us hl => match us, hl with | [_, _], _ => rfl
theorem bd_flat_poses : Bnd "flat_poses" "flat_poses" s_flat_poses ["arms"] := fun _ _ _ _ _ _ us hl => match us, hl with | [_], _ => rfl
theorem sc_flat_at : FnScope ["arms", "row", "length", "pose"] ["arms", "row", "length"] (defScope s_flat_at) := ⟨rfl, rfl, rfl, by decide +kernel, rfl, by decide +kernel, by decide +kernel⟩
theorem bd_flat_at : Bnd "flat_at" "flat_at" s_flat_at ["arms", "row", "length"] := fun _ _ _ _ _ _ us hl => match us, hl with | [_, _, _], _ => rfl
def nth (l : List Stmt) (i : Nat) : Stmt := l.getD i (.Pass default)
def forB : Stmt → List Stmt
  | .For _ _ b _ _ => b
  | _ => []
def forI : Stmt → Expr
  | .For _ i _ _ _ => i
  | _ => .Name "" default
def forT : Stmt → Expr
  | .For t _ _ _ _ => t
  | _ => .Name "" default
def forP : Stmt → Pos
  | .For _ _ _ _ p => p
  | _ => default
def expV : Stmt → Expr
  | .Expr e _ => e
  | _ => .Name "" default
def expP : Stmt → Pos
  | .Expr _ p => p
  | _ => default
def yldV : Expr → Expr
  | .Yield (some e) _ => e
  | .YieldFrom e _ => e
  | e => e
def yldP : Expr → Pos
  | .Yield _ p => p
  | .YieldFrom _ p => p
  | _ => default
abbrev pfBody : List Stmt := defBody s_poses_from
abbrev pfPre : List Stmt := pfBody.take 3
abbrev pfFor : Stmt := nth pfBody 3
abbrev pfIn : List Stmt := (forB pfFor).take 3
abbrev pfY : Stmt := nth (forB pfFor) 3
abbrev pfV : Expr := yldV (expV pfY)
theorem pf_body : pfBody = pfPre ++ [.For (forT pfFor) (forI pfFor) (pfIn ++ [.Expr (.Yield (some pfV) (yldP (expV pfY))) (expP pfY)]) [] (forP pfFor)] := rfl
abbrev fpY : Stmt := nth (defBody s_flat_poses) 0
abbrev fpV : Expr := yldV (expV fpY)
theorem fp_body : defBody s_flat_poses = [.Expr (.YieldFrom fpV (yldP (expV fpY))) (expP fpY)] := rfl
section
variable {K : PySem.W.Frag} {g : Gm} {H : Hp} {d : D} {te to : TE} {ds : List D} {E : En} {a : Addr} {vs : List V}
abbrev rInsert : V → List V → Hp → VK → Prop := fun x vs H Q => ∃ (l : Addr) (xs : List V) (i : Int) (y : V), x = .ref l ∧ vs = [.int i, y] ∧ H l = some (.lst xs) ∧ xs.length < sizeLine ∧ 0 ≤ i ∧ i < 2 ^ 63 ∧
    Q .non (upd H l (.lst (xs.take i.toNat ++ [y] ++ xs.drop i.toNat)))
/-- xs.insert(0, e) -/
theorem sd_ins0 (h : Yd Same K te g H d) (hf : Yd Same K to g H (.ref a)) (hl : H a = some (.lst vs)) (hv : RpL K H vs ds) (hz : ds.length < 100000)
    (q : ∀ H' us, Mu a H H' → H' a = some (.lst us) → RpL K H' us (d :: ds) → E.nx g H') : Sd K (tDrop (tBM K "list" rInsert to (tCons (tC (.int 0)) (tCons te tNil)))) g H E := fun s Z ty fz =>
  hf s H (Same.refl _) ty _ fun o H1 e1 ro => by
    cases ro
    refine ⟨.inl ⟨rfl, _, SqL.of (e1 _ _ hl)⟩, h s H1 e1 (ty.mono e1) _ fun v H2 e2 rv => ?_⟩
    have e := e1.trans e2
    have hl3 := e _ _ hl
    have m : Kp H2 (upd H2 a (.lst (v :: vs))) := Kp.upd hl3
    refine ⟨a, vs, 0, v, rfl, rfl, hl3, Nat.lt_of_lt_of_le (by rw [hv.length]; exact hz) (by decide), by decide, by decide, ?_⟩
    exact fz.nx _ _ _ ((ty.mono e).mono m) (q _ _ ((Mu.of e).trans Mu.upd) upd_same ((RpL.cons rv (hv.mono e)).mono m))
end
variable {P : Program} {w : World} {K : PySem.W.Frag} {mg : Str → Option Value} {base : Heap}
/-- what poses_from knows after its first lines -/
structure PfG (n : Nat) (g : Gm) : Prop where
  len : g.length = 8
  ch : g[0]? = some (some (dUs [(0, 1), (0, -1)]))
  le : g[1]? = some (some (.int n))
  ba : g[2]? = some (some (.int 2))
  ma : g[3]? = some (some (.int ((2 ^ n : Nat) : Int)))
abbrev cxP (P : Program) (w : World) (K : PySem.W.Frag) (mg : Str → Option Value) (base : Heap) (cd : Value) (A : Around) (outer : List Env) (L : Addr) (z : Shared) (H : Hp) : Cx := cxL P w K mg base NP "poses_from" (defScope s_poses_from) (He.ga K "poses_from") cd A outer L z H
abbrev cxF (P : Program) (w : World) (K : PySem.W.Frag) (mg : Str → Option Value) (base : Heap) (cd : Value) (A : Around) (outer : List Env) (L : Addr) (z : Shared) (H : Hp) : Cx := cxL P w K mg base NF "flat_poses" (defScope s_flat_poses) (He.ga K "flat_poses") cd A outer L z H
theorem pf_pre (T : TX K mg) (cd : Value) (A : Around) (outer : List Env) (L : Addr) (z : Shared) (H0 : Hp) (hr : Room 1 (A.deeper (envOfC "poses_from" (defScope s_poses_from) L (He.ga K "poses_from") cd))) : ∃ t, PSs (cxP P w K mg base cd A outer L z H0) pfPre t ∧ ∀ (H : Hp) (n : Nat), n ≤ 4 →
    Sd K t (gm0 NP [dUs [(0, 1), (0, -1)], .int n]) H { nx := fun g' H' => Same H H' ∧ PfG n g', rt := fun _ _ => False } := by
  refine ⟨_, (pss_cons (ps_set (i := 2) sc_poses_from.nd rfl (by first | exact Or.inl rfl | exact Or.inr rfl) (pe_callB (r := rLenX K) call_len rfl (n_len T) bo_len (pa_cons (pv 0) pa_nil)))
      (pss_cons (ps_set (i := 3) sc_poses_from.nd rfl (by first | exact Or.inl rfl | exact Or.inr rfl) pe_int)
      (pss_one (ps_for PassesOwn.never rfl (pi_range1 rfl (n_range T) (pa_cons (pv 1) pa_nil)) (pg_name (i := 4) sc_poses_from.nd rfl (by first | exact Or.inl rfl | exact Or.inr rfl)) (pss_one (ps_set (i := 3) sc_poses_from.nd rfl (by first | exact Or.inl rfl | exact Or.inr rfl) (pe_op op_mul (pv 3) (pv 2)))))))), fun H n hn => ?_⟩
  refine sd_seq (sd_asg (R := Same) (d := .int 2) (Same.refl _) ((yd_lenT (yd_var (d := dUs [(0, 1), (0, -1)]) rfl)).is rfl) fun H1 e1 => ?_)
  refine sd_seq (sd_asg (R := Same) (Same.refl _) yd_int fun H2 e2 => ?_)
  refine sd_for (R := Same) (vs := [4]) (Same.refl _) (yi_range1 (m := (n : Int)) (ya_cons (yd_var rfl) ya_nil) (by omega)) (fun i _ => tg_name)
    (fun H1' i g' H' => Same H1' H' ∧ g'.length = 8 ∧ g'[0]? = some (some (dUs [(0, 1), (0, -1)])) ∧ g'[1]? = some (some (.int n)) ∧ g'[2]? = some (some (.int 2)) ∧ g'[3]? = some (some (.int ((2 ^ i : Nat) : Int)))) (fun _ _ _ _ q => q.1) (fun H3 e3 => ⟨Same.refl _, rfl, rfl, rfl, rfl, rfl⟩) ?_ ?_
  · rintro H3 i g' H' e3 hi ⟨e4, l, a, b, c, d⟩ H5 e5
    have hi' : i < n := by omega
    have two : ((2 ^ (i + 1) : Nat) : Int) = ((2 ^ i : Nat) : Int) * 2 := by rw [Nat.pow_succ]; push_cast; rfl
    have small : (2 ^ i : Nat) ≤ 2 ^ 4 := Nat.pow_le_pow_right (by decide) (by omega)
    refine sd_asg (R := Same) (d := .int ((2 ^ (i + 1) : Nat) : Int)) (Same.refl _) ?_ fun H6 e6 => ⟨e4.trans (e5.trans e6), by simp [l], ?_, ?_, ?_, ?_⟩
    · rw [two]
      exact yd_I (C := CMul) (yd_var (by rw [List.getElem?_set_ne (by decide)]; exact d)) (yd_var (by rw [List.getElem?_set_ne (by decide)]; exact c)) (.inr (by decide))
    · rw [List.getElem?_set_ne (by decide), List.getElem?_set_ne (by decide)]; exact a
    · rw [List.getElem?_set_ne (by decide), List.getElem?_set_ne (by decide)]; exact b
    · rw [List.getElem?_set_ne (by decide), List.getElem?_set_ne (by decide)]; exact c
    · rw [List.getElem?_set_self (by simp [l])]
  · rintro H3 g' H' e3 ⟨e4, l, a, b, c, d⟩
    have en : (n : Int).toNat = n := by omega
    rw [en] at d
    exact ⟨e1.trans (e2.trans (e3.trans e4)), l, a, b, c, d⟩
theorem pf_iter (T : TX K mg) (cd : Value) (A : Around) (outer : List Env) (L : Addr) (z : Shared) (H0 : Hp) : ∃ wi, PI (cxP P w K mg base cd A outer L z H0) (forT pfFor) (forI pfFor) wi ∧ ∀ (σ : L2.St) (H : Hp) (g : Gm) (n : Nat) (R : It → Hp → Prop), n ≤ 4 → PfG n g → Ty K g σ H →
    (∀ H', Same H H' → R (Itr 0 (2 ^ n)) H') → wi σ H R := by
  refine ⟨_, (pi_range1 rfl (n_range T) (pa_cons (pv 3) pa_nil)), fun σ H g n R hn G ty q => ?_⟩
  have ya : Ya Same K (tCons (tVar 3) tNil) g H [.int ((2 ^ n : Nat) : Int)] := ya_cons (yd_var G.ma) ya_nil
  refine ya σ H (Same.refl _) ty _ fun vs H1 e1 rs => ?_
  cases rs with
  | cons r1 l =>
    cases l
    cases r1
    have small : (2 ^ n : Nat) ≤ 2 ^ 4 := Nat.pow_le_pow_right (by decide) hn
    generalize (2 ^ n : Nat) = m at q small ⊢
    refine ⟨_, rfl, by omega, by omega, ?_⟩
    have e : ((m : Int)).toNat = m := by omega
    rw [e]
    exact q H1 e1
theorem pf_tgt (cd : Value) (A : Around) (outer : List Env) (L : Addr) (z : Shared) (H0 : Hp) : PG (cxP P w K mg base cd A outer L z H0) (forT pfFor) (gName 5) := (pg_name (i := 5) sc_poses_from.nd rfl (by first | exact Or.inl rfl | exact Or.inr rfl))
/-- the last digit first -/
theorem poseOf_cons : ∀ (i c : Nat), poseOf (i + 1) c = (if (c / 2 ^ i) % 2 = 0 then (0, 1) else (0, -1)) :: poseOf i c
  | 0, c => by
    show [] ++ [_] = _
    rw [Nat.pow_zero, Nat.div_one]
    rfl
  | i + 1, c => by
    have e : poseOf (i + 1 + 1) c = poseOf (i + 1) (c / 2) ++ [if c % 2 = 0 then (0, 1) else (0, -1)] := rfl
    rw [e, poseOf_cons i (c / 2), Nat.div_div_eq_div_mul, Nat.mul_comm 2, ← Nat.pow_succ, List.cons_append]
    rfl
theorem atI_bit (r : Nat) : atI [dUv (0, 1), dUv (0, -1)] (Int.fmod (r : Int) 2) = some (dUv (if r % 2 = 0 then (0, 1) else (0, -1))) := by
  have e : Int.fmod (r : Int) 2 = ((r % 2 : Nat) : Int) := by
    rw [Int.fmod_eq_emod_of_nonneg _ (by decide)]
    omega
  rw [e]
  rcases Nat.mod_two_eq_zero_or_one r with h | h <;> rw [h] <;> rfl
theorem PfG.put {n : Nat} {g : Gm} {d : D} {i : Nat} (G : PfG n g) (hi : 4 ≤ i) : PfG n (g.set i (some d)) := ⟨by rw [List.length_set]; exact G.len, by rw [List.getElem?_set_ne (by omega)]; exact G.ch, by rw [List.getElem?_set_ne (by omega)]; exact G.le, by rw [List.getElem?_set_ne (by omega)]; exact G.ba, by rw [List.getElem?_set_ne (by omega)]; exact G.ma⟩
theorem pf_in (T : TX K mg) (cd : Value) (A : Around) (outer : List Env) (L : Addr) (z : Shared) (H0 : Hp) (hr : Room 1 (A.deeper (envOfC "poses_from" (defScope s_poses_from) L (He.ga K "poses_from") cd))) : ∃ t, PSs (cxP P w K mg base cd A outer L z H0) pfIn t ∧ ∀ (H : Hp) (g : Gm) (n c : Nat), n ≤ 4 → PfG n g → g[5]? = some (some (.int c)) →
    Sd K t g H { nx := fun g' H' => Same H H' ∧ PfG n g' ∧ ∃ p us, g'[7]? = some (some (.ref p)) ∧ H' p = some (.lst us) ∧ RpL K H' us ((poseOf n c).map dUv), rt := fun _ _ => False } := by
  refine ⟨_, (pss_cons (ps_set (i := 6) sc_poses_from.nd rfl (by first | exact Or.inl rfl | exact Or.inr rfl) (pv 5))
      (pss_cons (ps_set (i := 7) sc_poses_from.nd rfl (by first | exact Or.inl rfl | exact Or.inr rfl) (pe_lst pa_nil))
      (pss_one (ps_for PassesOwn.never rfl (pi_range1 rfl (n_range T) (pa_cons (pv 1) pa_nil)) (pg_name (i := 4) sc_poses_from.nd rfl (by first | exact Or.inl rfl | exact Or.inr rfl)) (pss_cons (ps_expr (pe_bm PySem.F.plainAttrs_list PySem.F.slot_list_insert PySem.F.type_list_insert mt_insert (pv 7) (pa_cons pe_int (pa_cons (pe_ix (r := rIxT K) ix_tup (pv 0) (pe_op op_modN (pv 6) (pv 2)) (fun _ _ => rfl)) pa_nil))))
      (pss_one (ps_set (i := 6) sc_poses_from.nd rfl (by first | exact Or.inl rfl | exact Or.inr rfl) (pe_op op_fdivN (pv 6) (pv 2))))))))), fun H g n c hn G hc => ?_⟩
  refine sd_seq (sd_asg (R := Same) (d := .int c) (Same.refl _) (yd_var hc) fun H1 e1 => ?_)
  have G1 : PfG n (g.set 6 (some (.int c))) := G.put (by decide)
  refine sd_seq (sd_asgN (yl_lst ya_nil) fun p us H2 hp e2 h2 r2 => ?_)
  have G2 : PfG n ((g.set 6 (some (.int c))).set 7 (some (.ref p))) := G1.put (by decide)
  have l8 := G.len
  refine sd_forR1 (R := Same) (n := (n : Int)) (Same.refl _) (ya_cons (yd_var G2.le) ya_nil) (by omega) (fun H3 i g' H' => PfG n g' ∧ g'[6]? = some (some (.int ((c / 2 ^ i : Nat) : Int))) ∧ g'[7]? = some (some (.ref p)) ∧ Mu p H2 H' ∧ ∃ us, H' p = some (.lst us) ∧ RpL K H' us ((poseOf i c).map dUv))
    (fun H3 e3 => ⟨G2, ?_, ?_, Mu.of e3, us, e3 _ _ h2, ?_⟩) ?_ ?_
  · rw [List.getElem?_set_ne (by decide), List.getElem?_set_self (by omega), Nat.pow_zero, Nat.div_one]
  · rw [List.getElem?_set_self (by rw [List.length_set]; omega)]
  · exact r2.mono e3
  · rintro H3 i g' H' e3 hi ⟨G', h6, h7, mu, us', hl, hv⟩
    have G3 : PfG n (g'.set 4 (some (.int (i : Int)))) := G'.put (by decide)
    have h6' : (g'.set 4 (some (.int (i : Int))))[6]? = some (some (.int ((c / 2 ^ i : Nat) : Int))) := by rw [List.getElem?_set_ne (by decide)]; exact h6
    have h7' : (g'.set 4 (some (.int (i : Int))))[7]? = some (some (.ref p)) := by rw [List.getElem?_set_ne (by decide)]; exact h7
    refine sd_seq (sd_ins0 (yd_ixT (yd_var G3.ch) (yd_I (C := fun _ j => j ≠ 0) (yd_var h6') (yd_var G3.ba) (by decide)) (atI_bit _)) (yd_var h7') hl hv (by rw [List.length_map, (poseOf_ok i c).1]; omega) fun H4 us4 m4 hl4 hv4 => ?_)
    have hd : Int.fdiv ((c / 2 ^ i : Nat) : Int) 2 = ((c / 2 ^ (i + 1) : Nat) : Int) := by
      rw [Int.fdiv_eq_ediv_of_nonneg _ (by decide), Nat.pow_succ, ← Nat.div_div_eq_div_mul]
      omega
    refine sd_asg (R := Same) (d := .int ((c / 2 ^ (i + 1) : Nat) : Int)) (Same.refl _) ?_ fun H5 e5 => ⟨G3.put (by decide), ?_, ?_, mu.trans (m4.trans (Mu.of e5)), us4, e5 _ _ hl4, ?_⟩
    · rw [← hd]
      exact yd_I (C := CDivN) (yd_var h6') (yd_var G3.ba) ⟨by decide, by decide⟩
    · rw [List.getElem?_set_self (by rw [List.length_set, G'.len]; decide)]
    · rw [List.getElem?_set_ne (by decide)]; exact h7'
    · rw [poseOf_cons, List.map_cons]
      exact hv4.mono e5
  · rintro H3 g' H' e3 ⟨G', h6, h7, mu, us', hl, hv⟩
    have en : (n : Int).toNat = n := by omega
    rw [en] at hv
    exact ⟨e1.trans ((mu.same e2 hp)), G', p, us', h7, hl, hv⟩
/-- what is handed out -/
theorem pf_val (T : TX K mg) (cd : Value) (A : Around) (outer : List Env) (L : Addr) (z : Shared) (H0 : Hp) : ∃ te, PE (cxP P w K mg base cd A outer L z H0) pfV te ∧ ∀ (H : Hp) (g : Gm) (p : Addr) (us : List V) (ds : List D), g[7]? = some (some (.ref p)) → H p = some (.lst us) → RpL K H us ds → Yd Same K te g H (.tup ds) := by
  refine ⟨_, (pe_callTy (r := rTupOf K) call_tuple_of rfl (n_tuple T) bo_tuple (pa_cons (pv 7) pa_nil)), fun H g p us ds h7 hl hv => ?_⟩
  exact yd_tupL (yd_var h7) fun H1 e1 => ⟨e1 _ _ hl, hv.mono e1⟩
/-- flat_poses calls poses_from -/
def calA : Expr → List Expr
  | .Call _ a _ _ => a
  | _ => []
def calP : Expr → Pos
  | .Call _ _ _ p => p
  | _ => default
def calQ : Expr → Pos
  | .Call (.Name _ p) _ _ _ => p
  | _ => default
theorem fp_call : fpV = .Call (.Name "poses_from" (calQ fpV)) (calA fpV) [] (calP fpV) := rfl
theorem fp_args (T : TX K mg) (cd : Value) (A : Around) (outer : List Env) (L : Addr) (z : Shared) (H0 : Hp) : ∃ tl, PA (cxF P w K mg base cd A outer L z H0) (calA fpV) tl ∧ ∀ (H : Hp) (g : Gm) (bs : List Bar) (n : Nat), g[0]? = some (some (dA bs n)) → Ya Same K tl g H [dUs [(0, 1), (0, -1)], .int n] := by
  refine ⟨_, (pa_cons (pe_tup (pa_cons (pe_glob (v := .ref (He.ga K "UP")) rfl (g_UP T) rfl) (pa_cons (pe_glob (v := .ref (He.ga K "DOWN")) rfl (g_DOWN T) rfl) pa_nil))) (pa_cons (pe_fld (pv 0) rfl) pa_nil)), fun H g bs n h0 => ?_⟩
  exact ya_cons (yd_tup (ya_cons (yd_UP T) (ya_cons (yd_DOWN T) ya_nil))) (ya_cons (yd_letters (c_Arms T) (a_letters T) (yd_var h0)) ya_nil)
/-! flat_at's text -/
abbrev faFor : Stmt := nth (defBody s_flat_at) 0
abbrev faRet : Stmt := nth (defBody s_flat_at) 1
theorem fa_body : defBody s_flat_at = [.For (forT faFor) (forI faFor) (forB faFor) [] (forP faFor), faRet] := rfl
theorem fa_call : forI faFor = .Call (.Name "flat_poses" (calQ (forI faFor))) (calA (forI faFor)) [] (calP (forI faFor)) := rfl
abbrev cxA (P : Program) (w : World) (K : PySem.W.Frag) (mg : Str → Option Value) (base : Heap) (cd : Value) (A : Around) (outer : List Env) (z : Shared) (H : Hp) : Cx := (cxOf CX0 P w K mg base NA "flat_at" (defScope s_flat_at) (He.ga K "flat_at") cd A outer z H noE).nox
theorem fa_args (T : TX K mg) (cd : Value) (A : Around) (outer : List Env) (z : Shared) (H0 : Hp) : ∃ tl, PA (cxA P w K mg base cd A outer z H0) (calA (forI faFor)) tl ∧ ∀ (H : Hp) (g : Gm) (bs : List Bar) (n : Nat), g[0]? = some (some (dA bs n)) → Ya Same K tl g H [dA bs n] := by
  refine ⟨_, (pa_cons (pv 0) pa_nil), fun H g bs n h0 => ?_⟩
  exact ya_cons (yd_var h0) ya_nil
theorem fa_tgt (cd : Value) (A : Around) (outer : List Env) (z : Shared) (H0 : Hp) : PG (cxA P w K mg base cd A outer z H0) (forT faFor) (gName 3) := (pg_name (i := 3) sc_flat_at.nd rfl (by first | exact Or.inl rfl | exact Or.inr rfl))
theorem fa_ret (cd : Value) (A : Around) (outer : List Env) (z : Shared) (H0 : Hp) : PSs (cxA P w K mg base cd A outer z H0) [faRet] (tRet (tC .non)) := (pss_one (ps_ret pe_non))
theorem fa_in (T : TX K mg) (cd : Value) (A : Around) (outer : List Env) (z : Shared) (H0 : Hp) (hr : Room 19 (A.deeper (envOfC "flat_at" (defScope s_flat_at) z.heap.objs.size (He.ga K "flat_at") cd))) : ∃ t, PSs (cxA P w K mg base cd A outer z H0) (forB faFor) t ∧ ∀ (H : Hp) (g : Gm) (r : List Rat) (len : Rat) (us : List Uv), us.length + 1 = r.length → us.length ≤ 4 → wtR r ≤ 2500 → FlatOk us →
    g[1]? = some (some (dqs r)) → g[2]? = some (some (dq len)) → g[3]? = some (some (dUs us)) →
    Sd K t g H { nx := fun g' H' => g' = g ∧ Same H H' ∧ flatHit r len us = false, rt := fun d' H' => d' = dUs us ∧ Same H H' ∧ flatHit r len us = true } := by
  refine ⟨_, (pss_one (ps_if (pt_cmpR (r := rEqD K) (op_eqD hr.units) (pe_cal (ok_size_of T) (hr.mono (by decide)) rfl pass0 (pa_cons (pe_ix (r := rIxT K) ix_tup (pe_cal (ok_spot_of T) (hr.mono (by decide)) rfl pass0 (pa_cons (pe_op (r := rCatA K) op_catA (pe_tup (pa_cons (pe_glob (v := .ref (He.ga K "UP")) rfl (g_UP T) rfl) pa_nil)) (pv 3)) (pa_cons (pv 1) pa_nil))) pe_int (fun _ _ => rfl)) pa_nil)) (pv 2) (nomark _)) (pss_one (ps_ret (pv 3))) pss_nil)), fun H g r len us hl h4 hw fo h1 h2 h3 => ?_⟩
  have wp : wtP (upU :: us) r ≤ 4000 := by
    have := wtP_le (upU :: us) r fun u hu => ?_
    · rw [List.length_cons] at this
      omega
    · rcases List.mem_cons.mp hu with rfl | hu
      · exact ⟨by decide +kernel, by decide +kernel⟩
      · rcases fo u hu with rfl | rfl
        · exact ⟨by decide +kernel, by decide +kernel⟩
        · exact ⟨by decide +kernel, by decide +kernel⟩
  have cat : D.tup ([dUv (0, 1)] ++ us.map dUv) = dUs (upU :: us) := rfl
  refine sd_if (R := Same) (Same.refl _) (yt_test (yd_eqQ (q := (spotR (upU :: us) r).2.abs) (yd_call (ya_cons (yd_ixT (d := dq (spotR (upU :: us) r).2) (yd_call (d := dUv (spotR (upU :: us) r)) (ya_cons ((yd_cat (yd_tup (ya_cons (yd_UP T) ya_nil)) (yd_var h3) (by rw [List.length_map]; show 1 + _ ≤ _; omega)).is cat) (ya_cons (yd_var h1) ya_nil)) fun _ _ => ⟨upU :: us, r, rfl, hl, by rw [List.length_cons]; omega, wp, rfl⟩) yd_int rfl) ya_nil) fun _ _ => ⟨_, rfl, rfl⟩) (yd_var h2)))
    (fun q H1 e1 => sd_ret (R := Same) (Same.refl _) (yd_var h3) fun H2 e2 => ⟨rfl, e1.trans e2, q⟩) fun q H1 e1 => sd_next ⟨rfl, e1, q⟩
end K19
set_option maxHeartbeats 4000000
/-! A generator's statements; poses_from from one yield to the next. -/
namespace K19
open PySem PySem.Spec PyProof.Rows L2
section
variable {M : Model} {A A' : Around} {g : Nat} {Y : Value → Shared → GenState → Prop} {R : Result → Shared → Prop} {c c' : Code} {fs : List Frame} {s : Shared} {α β : Type} {env : Env}
theorem gE_wrap0 {m : Sem α} {K : α → Sem PySem.Fin} {Hx : Value → Sem PySem.Fin} {gd : Bool → Bool} {lv : List Value → List Value} (hI : InG A c fs A') (h : wpE M A' m (fun a s' => gE M A g Y R c fs (K a) s') nE s) : gE M A g Y R c fs (m.wrap K Hx gd lv) s := gE_wrap hI (wpE_ne h)
theorem gE_bindw {m : Sem α} {f : α → Sem β} {K : β → Sem PySem.Fin} {Hx : Value → Sem PySem.Fin} {gd : Bool → Bool} {lv : List Value → List Value} (hI : InG A c fs A') (h : wpE M A' m (fun a s' => gE M A g Y R c fs ((f a).wrap K Hx gd lv) s') nE s) : gE M A g Y R c fs ((m >>= f).wrap K Hx gd lv) s := by
  rw [Sem.bind_eq_wrap', Sem.wrap_wrap]
  exact gE_wrap0 hI h
theorem gE_bind0 {m : Sem α} {K : α → Sem PySem.Fin} (hI : InG A c fs A') (h : wpE M A' m (fun a s' => gE M A g Y R c fs (K a) s') nE s) : gE M A g Y R c fs (m >>= K) s := gE_bind hI (wpE_ne h)
theorem execs_app_wrap {K : Flow → Sem PySem.Fin} {Hx : Value → Sem PySem.Fin} {gd : Bool → Bool} {lv : List Value → List Value} (r : List Stmt) : ∀ l : List Stmt, (execs (l ++ r) env).wrap K Hx gd lv = (execs l env).wrap (fun f => match f with | .next => (execs r env).wrap K Hx gd lv | f => K f) Hx gd lv
  | [] => rfl
  | st :: l => by
    rw [List.cons_append, execs_cons_wrap, execs_cons_wrap, execs_app_wrap r l]
    exact Sem.wrap_congr _ _ _ (fun f => by cases f <;> rfl) fun _ => rfl
theorem gE_For {prog : Program} {w : World} {tg iter : Expr} {body : List Stmt} {pos : Pos} {K : Flow → Sem PySem.Fin} {Hx : Value → Sem PySem.Fin} {gd : Bool → Bool} {lv : List Value → List Value} (hI : InG A c fs A') (hs : ∀ x, foldedSetIterable iter env x = pure x)
    (h : wpE (model prog w) A' (eval iter env) (fun v s1 => wpE (model prog w) A' (pyIter v) (fun itv s2 => ∀ (k : Result → Sem PySem.Fin) (p : Pos), k (.ok .next) = K .next → gE (model prog w) A g Y R (.forLoop tg itv body [] env) (.ret k none (gd false) (lv []) c p [] :: fs) ((model prog w).den (.forLoop tg itv body [] env)) s2) nE s1) nE s) :
    gE (model prog w) A g Y R c fs ((exec (.For tg iter body [] pos) env).wrap K Hx gd lv) s := by
  rw [exec_For]
  refine gE_bindw hI (wpE_of (wpAny_standAt ?_))
  refine gE_bindw hI (wpE_mono h (fun v s1 q => ?_) fun _ _ q => q)
  refine gE_bindw hI (wpE_of (wpAny_of_eq (hs v) ?_))
  refine gE_bindw hI (wpE_of (wpAny_standAt ?_))
  refine gE_bindw hI (wpE_holding (wpE_mono q (fun itv s2 q => ?_) fun _ _ q => q))
  exact gE_call fun p => q _ p rfl
theorem gE_forLoop {prog : Program} {w : World} {tg : Expr} {it : Value} {body : List Stmt} (hI : InG A (.forLoop tg it body [] env) fs A')
    (h : wpE (model prog w) A' (pyNext it) (fun r s1 => match r with
      | none => gE (model prog w) A g Y R (.block [] env) fs (leafOf (.ok .next)) s1
      | some v => wpE (model prog w) A' (letOwnedTupleGo tg it v) (fun _ s2 => wpE (model prog w) A' (assign tg env v) (fun _ s3 => ∀ Hx, gE (model prog w) A g Y R (.forLoop tg it body [] env) fs ((execs body env).wrap (fun f => match f with
        | .next | .cont => .pure (.again (.forLoop tg it body [] env))
        | .brk => .pure (.done .next)
        | .ret v => .pure (.done (.ret v))) Hx id id) s3) nE s2) nE s1) nE s) : gE (model prog w) A g Y R (.forLoop tg it body [] env) fs ((model prog w).den (.forLoop tg it body [] env)) s := by
  show gE _ A g Y R _ fs ((forTurn tg it body [] env).onRaise (fun x => do noteFrame x env; theTreesLotGoes x)) s
  rw [Sem.onRaise_eq_wrap]
  unfold forTurn
  refine gE_bindw hI (wpE_of (wpAny_standAt ?_))
  refine gE_bindw hI (wpE_onRaise0 (wpE_mono h (fun r s1 q => ?_) fun _ _ q => q))
  cases r with
  | none => exact gE_again rfl q
  | some v =>
    refine gE_bindw hI (wpE_mono q (fun _ s2 q => ?_) fun _ _ q => q)
    refine gE_bindw hI (wpE_mono q (fun _ s3 q => ?_) fun _ _ q => q)
    rw [Sem.bind_eq_wrap', Sem.wrap_wrap]
    rw [Sem.wrap_congr (execs body env) _ _ (K' := fun f => match f with
        | .next | .cont => .pure (.again (.forLoop tg it body [] env))
        | .brk => .pure (.done .next)
        | .ret v => .pure (.done (.ret v))) (fun f => by cases f <;> rfl) (fun e => rfl)]
    exact q _
theorem gE_func {prog : Program} {w : World} {body : List Stmt} (h : ∀ Hx, gE (model prog w) A g Y R (.func body env) [] ((execs body env).wrap (fun f => .pure (.done (.ret (match f with | .ret v => v | _ => .none)))) Hx id id) s) : gE (model prog w) A g Y R (.func body env) [] ((model prog w).den (.func body env)) s := by
  show gE _ A g Y R _ [] (.point [] fun _ => ((execs body env).onRaise (leaving env)) >>= _) s
  refine gE_point ?_
  rw [Sem.onRaise_eq_wrap, Sem.bind_eq_wrap', Sem.wrap_wrap]
  rw [Sem.wrap_congr (execs body env) _ _ (K' := fun f => .pure (.done (.ret (match f with | .ret v => v | _ => .none)))) (fun f => by cases f <;> rfl) (fun e => rfl)]
  exact h _
theorem gE_Yield {prog : Program} {w : World} {e : Expr} {yp pos : Pos} {K : Flow → Sem PySem.Fin} {Hx : Value → Sem PySem.Fin} {gd : Bool → Bool} {lv : List Value → List Value} (hI : InG A c fs A') (hfs : splitAtGen fs = none) (hgd : gd false = false) (hfg : fs.any Frame.guarded = false)
    (h : wpE (model prog w) A' (eval e env) (fun v s1 => ∀ (k : Resume → Sem PySem.Fin) (l : List Value) (p : Pos), k (.send .none) = K .next → Y v s1 (.suspended k l c p fs false)) nE s) (hco : env.scope.isCoroutine = false := by rfl) (hi : interactive env = false := by rfl) :
    gE (model prog w) A g Y R c fs ((exec (.Expr (.Yield (some e) yp) pos) env).wrap K Hx gd lv) s := by
  rw [exec_Expr env _ pos hi rfl]
  show gE _ A g Y R c fs (.at pos fun _ => ((eval e env >>= fun v => (standAt yp >>= fun _ => yieldOut env v)) >>= fun x =>
    dropValue (.Yield (some e) yp) pos x).wrap K Hx gd lv) s
  have hy : ∀ v, yieldOut env v = yieldValue v := fun v => by simp only [yieldOut, hco, Bool.false_eq_true, if_false]
  simp only [hy]
  refine gE_at ?_
  rw [Sem.bind_eq_wrap', Sem.bind_eq_wrap', Sem.wrap_wrap, Sem.wrap_wrap]
  refine gE_wrap0 hI (wpE_mono h (fun v s' q => ?_) fun _ _ q => q)
  refine gE_at ?_
  show gE _ A g Y R c fs (.yield v (gd false) _ _) s'
  rw [hgd]
  exact gE_yield hfs hfg fun p => q _ _ p rfl
end
end K19
set_option maxHeartbeats 4000000
/-! poses_from, from one yield to the next. -/
namespace K19
open PySem PySem.Spec PyProof.Rows L2
/-- a generator of poses_from: what is fixed -/
structure P2 where
  P : Program
  w : World
  K : PySem.W.Frag
  mg : Str → Option Value
  base : Heap
  cd : Value
  A : Around
  outer : List Env
  L : Addr
  g : Nat
  f0 : Nat → Option GenState
  n : Nat
  PA : List Addr
section
variable (C : P2)
abbrev P2.X (z : Shared) (H : Hp) : Cx := cxP C.P C.w C.K C.mg C.base C.cd C.A C.outer C.L z H
abbrev P2.env : Env := envOfC "poses_from" (defScope s_poses_from) C.L (He.ga C.K "poses_from") C.cd
/-- its frame, as it stands -/
def P2.Fr (z : Shared) (H : Hp) (Q : Gm → Prop) : Prop := ∃ (m : Str → Option Value) (σ : L2.St) (g : Gm), z.heap.Ns C.L m ∧ (∀ (i : Nat) (x : Str) (v : V), NP[i]? = some x → σ[i]? = some (some v) → (defScope s_poses_from).names.lookup x = some .local ∧ ∃ u, RelV v u ∧ m x = some u) ∧ σ.length = NP.length ∧ Ty C.K g σ H ∧ Q g
def P2.Pn (z : Shared) (H : Hp) (pins : List (Addr × Obj)) : Prop := ∀ p ∈ pins, z.heap.get? p.1 = some p.2 ∧ H p.1 = none ∧ p.1 ≠ C.L ∧ p.1 ∉ frs C.outer ∧ ∀ v, p.2.data ≠ .cell v
structure P2.Ok : Prop where
  tx : TX C.K C.mg
  bL : C.base.objs.size ≤ C.L
  fL : ∀ b ∈ frs C.outer, b < C.L
  hd : C.A.handled = none
  n4 : C.n ≤ 4
  room : Room 1 (C.A.deeper C.env)
/-- it is woken at z -/
structure P2.At (z : Shared) (H : Hp) (pins : List (Addr × Obj)) (Q : Gm → Prop) : Prop where
  env0 : Env0 C.P C.w C.K C.mg C.base C.A C.outer z H
  un : UnOk C.f0 z
  hn : H C.L = none
  fr : C.Fr z H Q
  pin : C.Pn z H pins
  pa : ∀ p ∈ pins, p.1 ∈ C.PA
/-- its loop's iterator -/
structure P2.It (it : Addr) (fp : List Addr) (tn : Nat → Heap → Prop) : Prop where
  T : Turn C.P C.w C.K (forT pfFor) (Itr 0 (2 ^ C.n)) fp it tn
  lt : ∀ b ∈ fp, C.L < b
  pa : ∀ b ∈ fp, b ∉ C.PA
structure TnF (fp : List Addr) (tn : Nat → Heap → Prop) (i : Nat) (z : Shared) (H : Hp) : Prop where
  tn : tn i z.heap
  fn : ∀ b ∈ fp, H b = none
/-- what a run from z to z' does -/
structure P2.Go (z : Shared) (H : Hp) (pins : List (Addr × Obj)) (z' : Shared) (H' : Hp) : Prop where
  un : UnOk C.f0 z'
  gs : z.gens.size ≤ z'.gens.size
  os : z'.os = z.os
  bare : AllBare z'.gens
  base : Un (frs C.outer) [] H H' (trunc z.heap C.L) z'.heap
  same : Same H H'
  hok : HOk C.P C.w H' z'.heap
  pin : C.Pn z' H' pins
  hn : H' C.L = none
def shG (gs : GenState) : Prop := ∃ k l c p fs, gs = .suspended k l c p fs false ∧ fs.all ngF = true
/-- it sleeps; m poses are to come -/
def P2.S (fp : List Addr) (tn : Nat → Heap → Prop) : Nat → GenState → Prop
  | 0 => fun gs => shG gs ∧ ∀ z H pins, C.At z H pins (PfG C.n) → TnF fp tn (2 ^ C.n) z H → goE (model C.P C.w) C.A C.g gs (fun _ _ _ => False) (fun r s' => r = .ok (.ret .none) ∧ ∃ z' H', s' = un C.f0 z' ∧ C.Go z H pins z' H') (un C.f0 z)
  | m + 1 => fun gs => shG gs ∧ ∀ z H pins, C.At z H pins (PfG C.n) → TnF fp tn (2 ^ C.n - (m + 1)) z H → goE (model C.P C.w) C.A C.g gs (fun v s' gs' => P2.S fp tn m gs' ∧ ∃ z' H' u, s' = un C.f0 z' ∧ C.Go z H pins z' H' ∧ RelV u v ∧ Rp C.K H' u (dUs (poseOf C.n (2 ^ C.n - (m + 1)))) ∧ C.Fr z' H' (PfG C.n) ∧ TnF fp tn (2 ^ C.n - m) z' H') (fun _ _ => False) (un C.f0 z)
def P2.Y (fp : List Addr) (tn : Nat → Heap → Prop) (m : Nat) (z : Shared) (H : Hp) (pins : List (Addr × Obj)) : Value → Shared → GenState → Prop :=
  match m with
  | 0 => fun _ _ _ => False
  | m + 1 => fun v s' gs' => C.S fp tn m gs' ∧ ∃ z' H' u, s' = un C.f0 z' ∧ C.Go z H pins z' H' ∧ RelV u v ∧ Rp C.K H' u (dUs (poseOf C.n (2 ^ C.n - (m + 1)))) ∧ C.Fr z' H' (PfG C.n) ∧ TnF fp tn (2 ^ C.n - m) z' H'
def P2.R (m : Nat) (z : Shared) (H : Hp) (pins : List (Addr × Obj)) : Result → Shared → Prop :=
  match m with
  | 0 => fun r s' => r = .ok (.ret .none) ∧ ∃ z' H', s' = un C.f0 z' ∧ C.Go z H pins z' H'
  | _ + 1 => fun _ _ => False
variable {C}
theorem P2.S_iff {fp : List Addr} {tn : Nat → Heap → Prop} {m : Nat} {gs : GenState} : C.S fp tn m gs ↔ shG gs ∧ ∀ z H pins, C.At z H pins (PfG C.n) → TnF fp tn (2 ^ C.n - m) z H → goE (model C.P C.w) C.A C.g gs (C.Y fp tn m z H pins) (C.R m z H pins) (un C.f0 z) := by
  cases m <;> rfl
theorem P2.root (O : C.Ok) {z : Shared} {H : Hp} {pins : List (Addr × Obj)} {Q : Gm → Prop} (a : C.At z H pins Q) : ∃ σ g, Inv (C.X z H) pins σ H z ∧ Ty C.K g σ H ∧ Q g := by
  obtain ⟨m, σ, g, ns, hm, hl, ty, q⟩ := a.fr
  have I0 : Inv (C.X z H) [] σ H z := inv_root rfl (fun _ => rfl) gs_poses_from.nc O.hd a.env0 O.bL O.fL a.hn ns hm hl
  exact ⟨σ, g, I0.pins_of a.pin, ty, q⟩
theorem P2.back {z0 z : Shared} {H0 H : Hp} {pins : List (Addr × Obj)} {σ : L2.St} {g : Gm} {Q : Gm → Prop} (I : Inv (C.X z0 H0) pins σ H z) (ty : Ty C.K g σ H) (q : Q g) : C.Fr z H Q := by
  obtain ⟨m, ns, hm⟩ := I.loc
  refine ⟨m, σ, g, ns, fun i x v e1 e2 => ?_, I.len, ty, q⟩
  have hl : (defScope s_poses_from).names.lookup x = some .local := by
    have all : ∀ y ∈ NP, (defScope s_poses_from).names.lookup y = some .local := by decide +kernel
    exact all x (List.mem_of_getElem? e1)
  obtain ⟨u, r, lk⟩ := hm i x v e1 e2 (.inl hl)
  refine ⟨hl, u, r, ?_⟩
  rcases lk with ⟨_, e⟩ | ⟨k, _⟩
  · exact e
  · have kk : (C.X z0 H0).env.kindOf x = some .local := hl
    rw [kk] at k
    rcases k with k | k <;> cases k
theorem P2.go_of {z0 z : Shared} {H0 H : Hp} {pins pl : List (Addr × Obj)} {σ : L2.St} (I : Inv (C.X z0 H0) (pins ++ pl) σ H z) (U : UnOk C.f0 z) (hg : z0.gens.size ≤ z.gens.size) (e : Same H0 H) : C.Go z0 H0 pins z H :=
  ⟨U, hg, I.os, I.bare, I.base, e, I.hok, fun p hp => I.pin p (List.mem_append_right _ (List.mem_append_left _ hp)), I.free⟩
/-- the turns of its loop -/
theorem P2.loop (O : C.Ok) {it : Addr} {fp : List Addr} {tn : Nat → Heap → Prop} (J : C.It it fp tn) (k : Result → Sem PySem.Fin) (l : List Value) (p : Pos)
    (hk : ∀ Y R s, R (.ok (.ret .none)) s → gE (model C.P C.w) C.A C.g Y R (.func pfBody C.env) [] (k (.ok .next)) s) :
    ∀ (m : Nat), m ≤ 2 ^ C.n → ∀ z H pins, C.At z H pins (PfG C.n) → TnF fp tn (2 ^ C.n - m) z H →
      gE (model C.P C.w) C.A C.g (C.Y fp tn m z H pins) (C.R m z H pins) (.forLoop (forT pfFor) (.ref it) (forB pfFor) [] C.env) [.ret k none false l (.func pfBody C.env) p []] ((model C.P C.w).den (.forLoop (forT pfFor) (.ref it) (forB pfFor) [] C.env)) (un C.f0 z) := by
  intro m
  induction m with
  | zero =>
    intro _ z H pins a t
    obtain ⟨σ, g, I, ty, G⟩ := P2.root O a
    have hI : InG C.A (.forLoop (forT pfFor) (.ref it) (forB pfFor) [] C.env) [.ret k none false l (.func pfBody C.env) p []] (C.A.deeper C.env) := by
      have := (inG_func (A := C.A) (body := pfBody) (env := C.env)).call (c' := .forLoop (forT pfFor) (.ref it) (forB pfFor) [] C.env) (h := none) (kf := k) (gg := false) (l := l) (p := p) (by intro x; cases x)
      rw [Around.under_of_weight (c := .forLoop (forT pfFor) (.ref it) (forB pfFor) [] C.env) rfl] at this
      exact this
    refine gE_forLoop hI ?_
    have fpk : ∀ b ∈ fp, FpOk (C.X z H) pins H b := fun b hb => ⟨t.fn b hb, Nat.ne_of_gt (J.lt b hb), fun q => absurd (O.fL b q) (Nat.not_lt.mpr (Nat.le_of_lt (J.lt b hb))), .inr (by
        show (trunc z.heap C.L).objs.size ≤ b
        rw [trunc_size (by have := I.lt; exact Nat.le_of_lt this)]
        exact Nat.le_of_lt (J.lt b hb)), fun x c q => (by cases q), fun q hq e => J.pa b hb (by rw [← e]; exact a.pa q hq)⟩
    refine wpE_mono (wpE_unG a.un (J.T.done (C.X z H) rfl rfl rfl rfl (2 ^ C.n) pins z σ H nE I fpk t.tn (Nat.le_refl _))) (fun r s1 ⟨z1, u1, e1, gs1, er, I1⟩ => ?_) fun _ _ ⟨_, _, _, q⟩ => q
    subst er e1
    refine gE_leaf (.ok .next) (hk _ _ _ ?_)
    exact ⟨rfl, z1, H, rfl, P2.go_of (pl := []) (by rw [List.append_nil]; exact I1) u1 gs1 (Same.refl _)⟩
  | succ m ih =>
    intro hm z H pins a t
    obtain ⟨σ, g, I, ty, G⟩ := P2.root O a
    have hI : InG C.A (.forLoop (forT pfFor) (.ref it) (forB pfFor) [] C.env) [.ret k none false l (.func pfBody C.env) p []] (C.A.deeper C.env) := by
      have := (inG_func (A := C.A) (body := pfBody) (env := C.env)).call (c' := .forLoop (forT pfFor) (.ref it) (forB pfFor) [] C.env) (h := none) (kf := k) (gg := false) (l := l) (p := p) (by intro x; cases x)
      rw [Around.under_of_weight (c := .forLoop (forT pfFor) (.ref it) (forB pfFor) [] C.env) rfl] at this
      exact this
    have fpk : ∀ {H' : Hp}, (∀ b ∈ fp, H' b = none) → ∀ b ∈ fp, FpOk (C.X z H) pins H' b := fun {H'} hn b hb => ⟨hn b hb, Nat.ne_of_gt (J.lt b hb), fun q => absurd (O.fL b q) (Nat.not_lt.mpr (Nat.le_of_lt (J.lt b hb))), .inr (by
        show (trunc z.heap C.L).objs.size ≤ b
        rw [trunc_size (by have := I.lt; exact Nat.le_of_lt this)]
        exact Nat.le_of_lt (J.lt b hb)), fun x c q => (by cases q), fun q hq e => J.pa b hb (by rw [← e]; exact a.pa q hq)⟩
    have hi : 2 ^ C.n - (m + 1) < 2 ^ C.n := by omega
    have hi2 : 2 ^ C.n - (m + 1) + 1 = 2 ^ C.n - m := by omega
    refine gE_forLoop hI ?_
    refine wpE_mono (wpE_unG a.un (J.T.item (C.X z H) rfl rfl rfl rfl (2 ^ C.n - (m + 1)) pins z σ H nE I (fpk t.fn) t.tn hi)) (fun r s1 ⟨z1, u1, e1, gs1, u, er, h1⟩ => ?_) fun _ _ ⟨_, _, _, q⟩ => q
    subst er e1
    refine wpE_mono (wpE_unG u1 h1) (fun _ s2 ⟨z2, u2, e2, gs2, x, H2, I2, rx, ⟨eH, ex⟩, st2, fr2⟩ => ?_) fun _ _ ⟨_, _, _, q⟩ => q
    subst e2 eH ex
    have I2' := I2.pinned (fpk fr2) (J.T.obj _ _ st2)
    have ix : ((0 : Int) + ((2 ^ C.n - (m + 1) : Nat) : Int)) = ((2 ^ C.n - (m + 1) : Nat) : Int) := Int.zero_add _
    rw [ix] at rx
    refine wpE_mono (wpE_unG u2 ((pf_tgt C.cd C.A C.outer C.L z H2).run _ z2 σ H2 _ u (fun σ' H' => σ' = σ.set 5 (some (.int ((2 ^ C.n - (m + 1) : Nat) : Int))) ∧ H' = H2) I2' rx ⟨rfl, rfl⟩)) (fun _ s3 ⟨z3, u3, e3, gs3, σ3, H3, I3, es, eH⟩ => ?_) fun _ _ ⟨_, _, _, q⟩ => q
    subst e3 es eH
    intro Hx
    have eb : forB pfFor = pfIn ++ [.Expr (.Yield (some pfV) (yldP (expV pfY))) (expP pfY)] := rfl
    rw [eb, execs_app_wrap]
    obtain ⟨tt, ht, hq⟩ := pf_in O.tx C.cd C.A C.outer C.L z H3 O.room
    have G5 : PfG C.n (g.set 5 (some (.int ((2 ^ C.n - (m + 1) : Nat) : Int)))) := G.put (by decide)
    have body := hq H3 _ C.n (2 ^ C.n - (m + 1)) O.n4 G5 (by rw [List.getElem?_set_self (by rw [G.len]; decide)])
    refine gE_wrap0 hI (wpE_mono (wpE_unG u3 (ht.run _ z3 _ H3 { nx := fun σ' H' => ∃ g', Ty C.K g' σ' H' ∧ Same H3 H' ∧ PfG C.n g' ∧ ∃ p us, g'[7]? = some (some (.ref p)) ∧ H' p = some (.lst us) ∧ RpL C.K H' us ((poseOf C.n (2 ^ C.n - (m + 1))).map dUv), rt := fun _ _ => False } I3
      (body _ _ (ty.set 5 .int) ⟨fun g s H t q => ⟨g, t, q⟩, fun _ _ _ _ q => q, fun _ _ _ _ q => q, fun _ _ _ _ q => q⟩))) (fun f s4 ⟨z4, u4, e4, gs4, q4⟩ => ?_) fun _ _ ⟨_, _, _, q⟩ => q)
    subst e4
    cases f with
    | brk => obtain ⟨_, _, _, q⟩ := q4; exact q.elim
    | cont => obtain ⟨_, _, _, q⟩ := q4; exact q.elim
    | ret v => obtain ⟨_, _, _, _, _, q⟩ := q4; exact q.elim
    | next =>
      obtain ⟨σ4, H4, I4, g4, ty4, sm4, G4, pp, us, h7, hl, hv⟩ := q4
      show gE _ _ _ _ _ _ _ ((execs [_] C.env).wrap _ _ _ _) _
      rw [execs_cons_wrap]
      obtain ⟨te, hte, hte2⟩ := pf_val O.tx C.cd C.A C.outer C.L z H3 (P := C.P) (w := C.w) (mg := C.mg) (base := C.base)
      have val := hte2 H4 g4 pp us _ h7 hl hv
      refine gE_Yield hI rfl rfl rfl ?_
      refine wpE_mono (wpE_unG u4 (hte.run _ z4 σ4 H4 (fun v H' => Same H4 H' ∧ Rp C.K H' v (dUs (poseOf C.n (2 ^ C.n - (m + 1))))) I4 (val σ4 H4 (Same.refl _) ty4 _ fun v H' e r => ⟨e, r⟩))) (fun v s5 ⟨z5, u5, e5, gs5, v5, H5, I5, r5, sm5, rp5⟩ => ?_) fun _ _ ⟨_, _, _, q⟩ => q
      subst e5
      intro k2 l2 p2 hk2
      have I5p : C.Go z H3 pins z5 H5 := P2.go_of I5 u5 (by omega) (sm4.trans sm5)
      refine ⟨P2.S_iff.mpr ⟨⟨_, _, _, _, _, rfl, rfl⟩, fun z' H' pins' a' t' => ?_⟩, z5, H5, v5, rfl, I5p, r5, rp5, P2.back I5 (ty4.mono sm5) G4, ?_, ?_⟩
      · refine goE_susp ?_
        rw [hk2]
        refine gE_again rfl ?_
        exact ih (by omega) z' H' pins' a' t'
      · rw [← hi2]
        exact J.T.keep _ _ _ st2 fun b hb o e => (I5.pin (b, o) (List.mem_append_right _ (List.mem_append_right _ (mem_pinsAt hb e)))).1
      · intro b hb
        obtain ⟨o, e, d⟩ := J.T.obj _ _ st2 b hb
        exact (I5.pin (b, o) (List.mem_append_right _ (List.mem_append_right _ (mem_pinsAt hb e)))).2.1
theorem un_trunc {fr : List Addr} {H H1 H2 : Hp} {h h1 h2 : Heap} {L : Addr} (a : Un fr [] H H1 (trunc h L) h1) (b : Un fr [] H1 H2 (trunc h1 L) h2) : Un fr [] H H2 (trunc h L) h2 := by
  have lt : ∀ {x : Addr} {o : Obj}, (trunc h L).get? x = some o → ∀ {o' : Obj}, h1.get? x = some o' → (trunc h1 L).get? x = some o' := fun {x o} e {o'} e' => by rw [trunc_get (of_trunc e).1]; exact e'
  refine ⟨fun x o e n nf nx => ?_, fun x o e n nf nx => ?_, fun x o e n nx => ?_, fun x o e nx => ?_, fun x xs e => b.tups _ _ (a.tups _ _ e), fun x o u e => b.frzs _ _ _ (a.frzs _ _ _ e), fun x ps e => ?_⟩
  · exact b.keep _ _ (lt e (a.keep _ _ e n nf nx)) (a.free _ _ e n nx) nf nx
  · obtain ⟨sl, e1⟩ := a.slot _ _ e n nf nx
    obtain ⟨sl', e2⟩ := b.slot _ _ (lt e e1) (a.free _ _ e n nx) nf nx
    exact ⟨sl', e2⟩
  · obtain ⟨o1, e1⟩ := a.there _ _ e nx
    exact b.free _ _ (lt e e1) (a.free _ _ e n nx) nx
  · obtain ⟨o1, e1⟩ := a.there _ _ e nx
    exact b.there _ _ (lt e e1) nx
  · obtain ⟨m1, e1⟩ := a.tbls _ _ e
    obtain ⟨m2, e2⟩ := b.tbls _ _ e1
    exact ⟨m1 ++ m2, by rw [e2, Array.append_assoc]⟩
theorem P2.Go.trans {z z1 z2 : Shared} {H H1 H2 : Hp} {pins : List (Addr × Obj)} (a : C.Go z H pins z1 H1) (b : C.Go z1 H1 pins z2 H2) : C.Go z H pins z2 H2 :=
  ⟨b.un, Nat.le_trans a.gs b.gs, b.os.trans a.os, b.bare, un_trunc a.base b.base, a.same.trans b.same, b.hok, b.pin, b.hn⟩
/-- the frames below are there still -/
theorem env0_of {P : Program} {w : World} {K : PySem.W.Frag} {mg : Str → Option Value} {base : Heap} {A : Around} {outer : List Env} {N : List Str} {qual : Str} {scope : Scope} {f : Addr} {cd : Value} {L : Addr} {z0 z : Shared} {H0 H : Hp} {pins : List (Addr × Obj)} {σ : L2.St}
    (I : Inv (cxL P w K mg base N qual scope f cd A outer L z0 H0) pins σ H z) (e0 : Env0 P w K mg base A outer z0 H0) : Env0 P w K mg base A outer z H :=
  ⟨e0.frames, e0.mod, I.bs, Nat.le_trans (Nat.le_trans I.ok.bsz I.ok.above) (Nat.le_of_lt I.lt), I.funs, fun b hb => by
    obtain ⟨_, o, ho, _⟩ := I.ok.funs.mem hb
    exact I.base.free b o ho (I.ok.frf b hb) (I.ok.exfs b · hb), I.hok, I.bare⟩
theorem P2.at_of {z0 z : Shared} {H0 H : Hp} {pins : List (Addr × Obj)} {σ : L2.St} {g : Gm} {Q0 Q : Gm → Prop} (a : C.At z0 H0 pins Q0) (I : Inv (C.X z0 H0) pins σ H z) (U : UnOk C.f0 z) (ty : Ty C.K g σ H) (q : Q g) : C.At z H pins Q :=
  ⟨env0_of I a.env0, U, I.free, P2.back I ty q, fun p hp => I.pin p (List.mem_append_right _ hp), a.pa⟩
/-- woken for the first time -/
theorem P2.fresh (O : C.Ok) {z : Shared} {H : Hp} {pins : List (Addr × Obj)} (a : C.At z H pins (fun g => g = gm0 NP [dUs [(0, 1), (0, -1)], .int C.n])) (hpa : ∀ b ∈ C.PA, ∃ p ∈ pins, p.1 = b) :
    goE (model C.P C.w) C.A C.g (.fresh (.func pfBody C.env)) (fun v s' gs' => ∃ it fp tn m, m + 1 = 2 ^ C.n ∧ C.It it fp tn ∧ C.S fp tn m gs' ∧ ∃ z' H' u, s' = un C.f0 z' ∧ C.Go z H pins z' H' ∧ RelV u v ∧ Rp C.K H' u (dUs (poseOf C.n 0)) ∧ C.Fr z' H' (PfG C.n) ∧ TnF fp tn (2 ^ C.n - m) z' H') (fun _ _ => False) (un C.f0 z) := by
  refine goE_fresh (gE_func fun Hx => ?_)
  show gE _ _ _ _ _ _ _ ((execs (pfPre ++ [.For (forT pfFor) (forI pfFor) (forB pfFor) [] (forP pfFor)]) C.env).wrap _ _ _ _) _
  rw [execs_app_wrap]
  obtain ⟨σ, g, I, ty, rfl⟩ := P2.root O a
  obtain ⟨tt, ht, hq⟩ := pf_pre O.tx C.cd C.A C.outer C.L z H O.room (P := C.P) (w := C.w) (mg := C.mg) (base := C.base)
  have hI : InG C.A (.func pfBody C.env) [] (C.A.deeper C.env) := inG_func
  refine gE_wrap0 hI (wpE_mono (wpE_unG a.un (ht.run _ z σ H { nx := fun σ' H' => ∃ g', Ty C.K g' σ' H' ∧ Same H H' ∧ PfG C.n g', rt := fun _ _ => False } I
      (hq H C.n O.n4 _ _ ty ⟨fun g s H t q => ⟨g, t, q⟩, fun _ _ _ _ q => q, fun _ _ _ _ q => q, fun _ _ _ _ q => q⟩))) (fun f s1 ⟨z1, u1, e1, gs1, q1⟩ => ?_) fun _ _ ⟨_, _, _, q⟩ => q)
  subst e1
  cases f with
  | brk => obtain ⟨_, _, _, q⟩ := q1; exact q.elim
  | cont => obtain ⟨_, _, _, q⟩ := q1; exact q.elim
  | ret v => obtain ⟨_, _, _, _, _, q⟩ := q1; exact q.elim
  | next =>
    obtain ⟨σ1, H1, I1, g1, ty1, sm1, G1⟩ := q1
    show gE _ _ _ _ _ _ _ ((execs [_] C.env).wrap _ _ _ _) _
    rw [execs_cons_wrap]
    obtain ⟨wi, hwi, hwq⟩ := pf_iter O.tx C.cd C.A C.outer C.L z H (P := C.P) (w := C.w) (mg := C.mg) (base := C.base)
    refine gE_For hI (by intro _; rfl) ?_
    have it0 := hwi.run _ z1 σ1 H1 (fun J H' => J = Itr 0 (2 ^ C.n) ∧ Same H1 H') I1 (hwq σ1 H1 g1 C.n _ O.n4 G1 ty1 fun H' e => ⟨rfl, e⟩)
    refine wpE_mono (wpE_unG u1 it0) (fun v s2 ⟨z2, u2, e2, gs2, q2⟩ => ?_) fun _ _ ⟨_, _, _, q⟩ => q
    subst e2
    refine wpE_mono (wpE_unG u2 q2) (fun itv s3 ⟨z3, u3, e3, gs3, it, fp, tn, J, H3, ei, I3, T3, t3, f3, eJ, sm3⟩ => ?_) fun _ _ ⟨_, _, _, q⟩ => q
    subst e3 ei eJ
    intro k p hk
    have JJ : C.It it fp tn := ⟨T3, fun b hb => by
      obtain ⟨_, f1, _, f4, _, _⟩ := f3 b hb
      have sz : (trunc z.heap C.L).objs.size = C.L := trunc_size (Nat.le_of_lt I.lt)
      have f4 : C.L ≤ b := by
        rcases f4 with y | y
        · exact absurd (show b ∈ ([] : List Addr) from y) (by simp)
        · exact Nat.le_trans (Nat.le_of_eq sz.symm) y
      exact Nat.lt_of_le_of_ne f4 (Ne.symm f1), fun b hb hm => by
      obtain ⟨q, hq, e⟩ := hpa b hm
      exact (f3 b hb).2.2.2.2.2 q (List.mem_append_right _ hq) e⟩
    have A3 : C.At z3 H3 pins (PfG C.n) := P2.at_of a I3 u3 (ty1.mono sm3) G1
    have pos : 0 < 2 ^ C.n := Nat.pow_pos (by decide)
    obtain ⟨m, hm⟩ : ∃ m, m + 1 = 2 ^ C.n := ⟨2 ^ C.n - 1, by omega⟩
    have z0 : 2 ^ C.n - (m + 1) = 0 := by omega
    have go1 : C.Go z H pins z3 H3 := P2.go_of (pl := []) (by rw [List.append_nil]; exact I3) u3 (by omega) (sm1.trans sm3)
    refine gE_mono (P2.loop O JJ k (id []) p (fun Y R s h => ?_) (m + 1) (by omega) z3 H3 pins A3 ⟨by rw [z0]; exact t3, fun b hb => (f3 b hb).1⟩) (fun v s4 gs4 ⟨q1, z4, H4, u, q2, q3, q4, q5, q6, q7⟩ => ⟨it, fp, tn, m, hm, JJ, q1, z4, H4, u, q2, go1.trans q3, q4, by rw [z0] at q5; exact q5, q6, q7⟩) fun _ _ q => q
    rw [hk]
    exact gE_end (.ok (.ret .none)) h
end
end K19
set_option maxHeartbeats 4000000
/-! A generator is asked for its next value, over the machine. -/
namespace K19
open PySem PySem.Spec PyProof.Rows L2
/-- the object of generator g; j: how many sleep over it -/
def GObj (h : Heap) (a : Addr) (g : Nat) (j : Option Int) : Prop :=
  ∃ (o : Obj) (nm qn : Value), h.get? a = some o ∧ o.cls = .type "generator" ∧ o.data = .fields #[.int g 0, nm, qn] ∧ o.slots.size ≤ 1 ∧ match j with
    | none => o.slots = #[]
    | some j => ∃ t, o.slots = #[some (.int j t)]
theorem GObj.of {h : Heap} {a : Addr} {g : Nat} (x : h.IsGen a g) : GObj h a g none := by
  obtain ⟨o, nm, qn, ho, hc, hd, hs⟩ := x
  exact ⟨o, nm, qn, ho, hc, hd, by rw [hs]; decide, hs⟩
theorem GObj.keeps {h h' : Heap} {a : Addr} {g : Nat} {j : Option Int} (x : GObj h a g j) (k : ∀ o, h.get? a = some o → h'.get? a = some o) : GObj h' a g j := by
  obtain ⟨o, nm, qn, ho, r⟩ := x
  exact ⟨o, nm, qn, k o ho, r⟩
theorem GObj.typeIs {s : Shared} {a : Addr} {g : Nat} {j : Option Int} (x : GObj s.heap a g j) : s.TypeIs (.ref a) "generator" := by
  obtain ⟨o, _, _, ho, hc, _⟩ := x
  exact ⟨o, ho, hc⟩
theorem GObj.number {h : Heap} {a : Addr} {g : Nat} {j : Option Int} (x : GObj h a g j) : ∃ o, h.get? a = some o ∧ o.genNumber? = some g ∧ ∀ v, o.data ≠ .cell v := by
  obtain ⟨o, nm, qn, ho, hc, hd, _⟩ := x
  refine ⟨o, ho, ?_, fun v q => by rw [hd] at q; cases q⟩
  unfold Obj.genNumber?
  rw [hc, hd]
  rfl
section
variable {M : Model} {A : Around} {E : Value → Shared → Prop} {s : Shared}
theorem wpAny_genNum {a : Addr} {g : Nat} {j : Option Int} {Q : Nat → Shared → Prop} (hg : GObj s.heap a g j) (hj : ∀ i, j = some i → i ≤ 0) (h : Q g s) : wpAny M A (Builtin.Generator.genNumber (.ref a)) Q E s := by
  obtain ⟨o, nm, qn, ho, _, hd, _, hsl⟩ := hg
  unfold Builtin.Generator.genNumber
  refine wpAny_bind (wpAny_load ho ?_)
  cases j with
  | none =>
    replace hsl : o.slots = #[] := hsl
    rw [hsl, hd]
    show wpAny M A (pure ((g : Int).toNat)) Q E s
    rw [Int.toNat_natCast]; exact wpAny_pure h
  | some i =>
    obtain ⟨t, hsl⟩ := hsl
    have hi : ¬ i > 0 := by have := hj i rfl; omega
    rw [hsl, hd]
    show wpAny M A (if i > 0 then _ else pure ((g : Int).toNat)) Q E s
    rw [if_neg hi]
    rw [Int.toNat_natCast]; exact wpAny_pure h
/-- one more (or one less) sleeps over it -/
theorem wpAny_slept {a : Addr} {g : Nat} {j : Option Int} {b : Bool} {Q : Unit → Shared → Prop} (hg : GObj s.heap a g j)
    (h : ∀ h', GObj h' a g (some (if b then j.getD 0 + 1 else j.getD 0 - 1)) → (∀ x o, x ≠ a → s.heap.get? x = some o → h'.get? x = some o) → Q () { s with heap := h' }) : wpAny M A (Builtin.Generator.sleptOver (.ref a) b) Q E s := by
  obtain ⟨o, nm, qn, ho, hc, hd, hz, hsl⟩ := hg
  unfold Builtin.Generator.sleptOver
  refine wpAny_bind (wpAny_load ho ?_)
  rw [hc]
  rw [if_neg (by decide)]
  have main : ∀ n : Int, n = j.getD 0 → wpAny M A (setSlotAt a 0 (some (rawInt (if b = true then n + 1 else n - 1)))) Q E s := fun n en => by
    subst en
    unfold setSlotAt
    rw [if_neg (by rw [sizeLine_eq]; omega)]
    refine wpAny_bind (wpAny_pure (wpAny_updatePart ho (h _ ?_ fun x ob hx e => (Heap.get?_update_other _ _ (Ne.symm hx)).trans e)))
    refine ⟨_, nm, qn, Heap.get?_update_self _ ho (Obj.isFreed_of_fields hd), hc, hd, ?_, ?_⟩
    · show ((o.slots ++ Array.replicate (0 + 1 - o.slots.size) none).setIfInBounds 0 _).size ≤ 1
      rw [Array.size_setIfInBounds, Array.size_append, Array.size_replicate]
      omega
    · refine ⟨0, ?_⟩
      show (o.slots ++ Array.replicate (0 + 1 - o.slots.size) none).setIfInBounds 0 (some (rawInt (if b = true then j.getD 0 + 1 else j.getD 0 - 1))) = _
      cases j with
      | none =>
        replace hsl : o.slots = #[] := hsl
        rw [hsl]
        rfl
      | some i =>
        obtain ⟨t, hsl⟩ := hsl
        rw [hsl]
        rfl
  cases j with
  | none =>
    replace hsl : o.slots = #[] := hsl
    rw [hsl]
    exact main 0 rfl
  | some i =>
    obtain ⟨t, hsl⟩ := hsl
    rw [hsl]
    exact main i rfl
end
theorem goE_mono {M : Model} {A : Around} {g : Nat} {gs : GenState} {Y Y' : Value → Shared → GenState → Prop} {R R' : Result → Shared → Prop} {s : Shared} (h : goE M A g gs Y R s) (hY : ∀ v s₁ gs', Y v s₁ gs' → Y' v s₁ gs') (hR : ∀ r s₁, R r s₁ → R' r s₁) : goE M A g gs Y' R' s := fun Γ base p k l Φ hf hA kY kR =>
  h Γ base p k l Φ hf hA (fun v s₁ gs' q => kY v s₁ gs' (hY v s₁ gs' q)) fun r s₁ q => kR r s₁ (hR r s₁ q)
section
variable {prog : Program} {w : World} {A : Around} {E : Value → Shared → Prop} {s : Shared}
theorem wpE_special {self : Value} {T : String} {name : Str} {id : String} {args : List Value} {Q : Option Value → Shared → Prop} (hT : s.TypeIs self T) (h : Slot T name id)
    (hc : wpE (model prog w) A (call (.builtin id) (self :: args)) (fun v => Q (some v)) E s) : wpE (model prog w) A (callSpecial? self name args) Q E s := by
  simp only [callSpecial?]
  refine wpE_bind (wpE_of (wpAny_specialOf hT h.lookup ?_))
  simp only [h.bind]
  exact wpE_holding (wpE_bind (wpE_pure (wpE_bind (wpE_mono hc (fun v s' h' => wpE_pure h') fun _ _ h' => h'))))
theorem wpE_call_entry {T : String} {name : Str} {id : String} {b : Builtin} {self : Value} {rest : List Value} {Q : Value → Shared → Prop} (h : Slot T name id) (hT : s.TypeIs self T) (hb : entryFor table id = some b)
    (hc : wpE (model prog w) A.in1 (b ⟨self :: rest, []⟩) (fun fin s' => ∃ v, fin = .done (.ret v) ∧ Q v s') E s) (ha : argsOk id ⟨self :: rest, []⟩ := by rfl) : wpE (model prog w) A (call (.builtin id) (self :: rest)) Q E s := by
  refine wpE_call (codeE_of_tree ?_)
  show wpE _ A.in1 (do checkBuiltinCall id ⟨self :: rest, []⟩; again (.builtin id ⟨self :: rest, []⟩)) _ _ s
  refine wpE_bind (wpE_of (h.check _ _ _ _ _ _ _ _ hT ha ?_))
  refine wpE_pure ⟨plainId_quiet h.plain _, codeE_of_tree ?_⟩
  rw [Around.under_plainId h.plain]
  show wpE _ _ (match entryFor table id with | some b => b ⟨self :: rest, []⟩ | none => unsupported ((withoutEnding? id "#data").getD id)) _ _ s
  rw [hb]
  refine wpE_mono hc (fun fin s' h' => ?_) fun _ _ h' => h'
  obtain ⟨v, rfl, hv⟩ := h'
  exact hv
/-- its next value -/
theorem wpE_nextG {a : Addr} {g : Nat} {j : Option Int} {gs : GenState} {Q : Option Value → Shared → Prop} (hh : A.handled = none) (hl : s.heap.NoLimit) (hroom : A.depth < recursionLimit) (hg : GObj s.heap a g j) (hj : ∀ i, j = some i → i ≤ 0) (hgs : s.gens[g]? = some gs)
    (hgo : goE (model prog w) A.in1 g gs (fun v s₁ gs' => Q (some v) (s₁.setGen g gs')) (fun r s₁ => r = .ok (.ret .none) ∧ ∀ e h', StopX e h' → (∀ b o, s₁.heap.get? b = some o → h'.get? b = some o) → E e { s₁.setGen g .finished with heap := h' }) (s.setGen g .running))
    (hs : gs ≠ .running ∧ gs ≠ .finished) : wpE (model prog w) A (callSpecial? (.ref a) "__next__") Q E s := by
  refine wpE_special (name := Str.ofString "__next__") hg.typeIs slot_gen_next (wpE_call_entry slot_gen_next hg.typeIs entry_gen_next ?_ (args_gen_next _))
  show wpE _ A.in1 (Builtin.Generator.genWake (.ref a) (.send .none)) _ _ s
  unfold Builtin.Generator.genWake
  refine wpE_bind (wpE_holding (wpE_of (wpAny_genNum hg hj ?_)))
  refine wpE_bind (wpE_of (wpAny_genState hgs ?_))
  have rest : wpE (model prog w) A.in1 (resume g (.send .none) >>= fun x => match x with
      | .yielded v => ret v
      | .returned v => do
        if v == .none then raiseNew (← newExc (.type "StopIteration") [])
        rule "generator.return-value"; throw (← newExc (.type "StopIteration") [v])
      | .raised e => Builtin.Generator.genLeft (.ref a) e
      | .running => do rule "generator.already-executing"; raiseError "ValueError" "generator already executing"
      | .justStarted => do rule "generator.send-to-fresh"; raiseError "TypeError" "can't send non-None value to a just-started generator"
      | .finished => do raiseNew (← newExc (.type "StopIteration") [])) (fun fin s' => ∃ v, fin = .done (.ret v) ∧ Q (some v) s') E s := by
    refine wpE_bind (wpE_resume hgs (goE_mono hgo (fun v s₁ gs' q => wpE_pure ⟨v, rfl, q⟩) fun r s₁ ⟨er, q⟩ => ?_))
    subst er
    show wpE _ A.in1 (newExc (.type "StopIteration") [] >>= _) _ _ _
    refine wpE_of (wpAny_bind ?_)
    simp only [newExc, newTuple]
    refine wpAny_bind (wpAny_newObj_type ?_ (by size_fits))
    refine wpAny_bind (m := firstArgMember _ _) (wpAny_of_eq (a := Value.none) (by first | rfl | (simp only [firstArgMember]; rfl)) ?_)
    refine wpAny_newObj_type ?_ (by size_fits)
    simp only [raiseNew]
    refine wpAny_bind (wpAny_bind (wpAny_handled ?_))
    first | rw [show A.in1.handled = none from hh] | rw [hh]
    refine wpAny_throw (q _ _ ⟨_, _, _, rfl, Heap.get?_push_size _ rfl, rfl, rfl, ?_⟩ fun b o e => Heap.get?_push_of_some _ (Heap.get?_push_of_some _ e))
    first
      | rfl
      | (rw [Array.getElem?_append_left (by decide)]; rfl)
      | kernel_rfl
  cases gs with
  | running => exact absurd rfl hs.1
  | finished => exact absurd rfl hs.2
  | fresh c =>
    refine wpE_bind (wpE_of (wpAny_roomToWake hl hroom ?_))
    exact rest
  | suspended k l c p fs cl =>
    refine wpE_bind (wpE_of (wpAny_roomToWake hl hroom ?_))
    exact rest
end
end K19
set_option maxHeartbeats 4000000
/-! flat_poses: a generator that sleeps over poses_from. -/
namespace K19
open PySem PySem.Spec PyProof.Rows L2
/-- a call of a def by its name: whatever the call does -/
theorem callName2 {X : Cx} {f : Addr} {x : Str} {p pos : Pos} {e : Expr} {es : List Expr} {tl : TA} {Qa : List V → Hp → Prop} {Q : Value → Shared → Prop} {pins : List (Addr × Obj)} {z : Shared} {σ : L2.St} {H : Hp} {fh : Nat → Option GenState}
    (hg : Gl X x) (hm : X.mg x = some (.ref f)) (hk : PySem.W.keepIn X.K (.ref f) = true) (ha : PA X (e :: es) tl) (I : Inv X pins σ H z) (U : UnOk fh z) (hq : tl σ H Qa)
    (main : ∀ z2 us vs H1, UnOk fh z2 → z.gens.size ≤ z2.gens.size → Inv X pins σ H1 z2 → Vals vs us → Qa vs H1 → codeE (model X.prog X.w) X.A (.call (.ref f) ⟨us, []⟩) (fun r s' => match r with | .ok (.ret v) => Q v s' | _ => False) (un fh z2))
    (hx : X.xe = nE := by rfl) (hdb : (x == ("__debug__" : Str)) = false := by decide) (he : starEach (e :: es) X.env = (false, eval e X.env) :: starEach es X.env := by rfl) (hpl : (backTo pos (starEach es X.env)).any (·.1) = false := by rfl) :
    wpE (model X.prog X.w) X.A (eval (.Call (.Name x p) (e :: es) [] pos) X.env) Q nE (un fh z) := by
  rw [arm_eval_Call_Name']
  have ld : wpAny (model X.prog X.w) X.A (eval (.Name x p) X.env) (fun u s' => u = .ref f ∧ Inv X pins σ H s') nE z := ld_glob I hg hm ⟨rfl, I⟩ hdb
  refine wpE_bind (wpE_mono (wpE_unG U ld) (fun u s1 ⟨z1, u1, e1, g1, eu, I1⟩ => ?_) fun _ _ ⟨_, _, _, q⟩ => q)
  subst eu e1
  have args : wpAny (model X.prog X.w) X.A (evalArgs (.ref f) true (backTo pos (starEach (e :: es) X.env)) []) (fun a s' => ∃ us vs H1, a = ⟨us, []⟩ ∧ Inv X pins σ H1 s' ∧ Vals vs us ∧ Qa vs H1) nE z1 := by
    have q := ha.run pos pins z1 σ H _ I1 hq
    rw [hx] at q
    rw [he] at q ⊢
    exact Calls.evalArgs_plain (thn q fun us s2 ⟨vs, H1, I2, r, q⟩ => ⟨us, vs, H1, rfl, I2, r, q⟩)
  show wpE _ _ (callWith pos (.ref f) [] (backTo pos (starEach (e :: es) X.env)) []) _ _ _
  unfold callWith
  refine wpE_bind (wpE_holding (wpE_mono (wpE_unG u1 args) (fun a s2 ⟨z2, u2, e2, g2, us, vs, H1, ea, I2, r, q⟩ => ?_) fun _ _ ⟨_, _, _, q⟩ => q))
  subst ea e2
  refine wpE_bind (wpE_of (wpAny_standAt ?_))
  have hplain : ((backTo pos (starEach (e :: es) X.env)).any (·.1) || ([] : List (Option Str × Sem Value)).any (·.1.isNone)) = false := by
    rw [he]
    show ((false || (backTo pos (starEach es X.env)).any (·.1)) || false) = false
    rw [hpl]
    rfl
  simp only [hplain]
  obtain ⟨kp, hkp, L⟩ := PySem.W.looks_keep (M := model X.prog X.w) hk I2.kIn
  have main' : wpE (model X.prog X.w) X.A (call (.ref f) us) Q nE (un fh z2) := by
    refine wpE_call (codeE_mono (main z2 us vs H1 u2 (Nat.le_trans g1 g2) I2 r q) fun rr s' hq => ?_)
    cases rr with
    | error e => exact False.elim hq
    | ok fl =>
      cases fl with
      | ret u => exact hq
      | next => exact False.elim hq
      | brk => exact False.elim hq
      | cont => exact False.elim hq
  have tail : ∀ {t : Sem Value}, wpE (model X.prog X.w) X.A t Q nE (un fh z2) → wpE (model X.prog X.w) X.A (t >>= fun r => holding [r] point >>= fun _ => pure r) Q nE (un fh z2) :=
    fun ht => wpE_bind (wpE_mono ht (fun r s2 hr => wpE_of (wpAny_bind (wpAny_holding (wpAny_point (wpAny_pure hr))))) fun _ _ q => q)
  have marked (mk : Value) : wpE (model X.prog X.w) X.A (callMarked mk (.ref f) us []) Q nE (un fh z2) := by
    unfold callMarked
    exact wpE_keep main'
  refine wpE_bind (wpE_of (PySem.W.Looks.here (s := un fh z2) L ?_))
  rcases hkp with rfl | rfl <;> dsimp only <;> first | exact tail main' | (split <;> first | exact tail main' | exact tail (marked _))
/-- a frame of a generator's, by data -/
def FrG (K : PySem.W.Frag) (N : List Str) (scope : Scope) (L : Addr) (z : Shared) (H : Hp) (Q : Gm → Prop) : Prop := ∃ (m : Str → Option Value) (σ : L2.St) (g : Gm), z.heap.Ns L m ∧ (∀ (i : Nat) (x : Str) (v : V), N[i]? = some x → σ[i]? = some (some v) → scope.names.lookup x = some .local ∧ ∃ u, RelV v u ∧ m x = some u) ∧ σ.length = N.length ∧ Ty K g σ H ∧ Q g
theorem FrG.keeps {K : PySem.W.Frag} {N : List Str} {scope : Scope} {L : Addr} {z z' : Shared} {H H' : Hp} {Q : Gm → Prop} (h : FrG K N scope L z H Q) (k : ∀ o, z.heap.get? L = some o → ∃ sl, z'.heap.get? L = some { o with slots := sl }) (e : Same H H') : FrG K N scope L z' H' Q := by
  obtain ⟨m, σ, g, ⟨o, es, ep, ho, r⟩, a, b, c, d⟩ := h
  obtain ⟨sl, e1⟩ := k o ho
  exact ⟨m, σ, g, ⟨_, es, ep, e1, r⟩, a, b, c.mono e, d⟩
theorem frG_made {K : PySem.W.Frag} {N ps : List Str} {scope : Scope} {L f : Addr} {cd : Value} {qual : Str} {z : Shared} {H : Hp} {us : List Value} {vs : List V} {ds : List D} (pre : N.take ps.length = ps) (nd : N.Nodup) (par : ∀ x ∈ ps, scope.names.lookup x = some .local) (hl : vs.length = ps.length) (r : Vals vs us) (rp : RpL K H vs ds)
    (kd : ∀ y, scope.names.lookup y = some .local → (envOfC qual scope L f cd).kindOf y = some .local)
    (ns : z.heap.Ns L (bindL (envOfC qual scope L f cd).kindOf (ps.zip us) fun _ => none)) : FrG K N scope L z H (fun g => g = gm0 N ds) := by
  have hpl : ps.length ≤ N.length := by have := congrArg List.length pre; rw [List.length_take] at this; omega
  refine ⟨_, start N vs, gm0 N ds, ns, fun i y v h1 h2 => ?_, ?_, Ty.start rp, rfl⟩
  · have hi : i < vs.length := by
      unfold L2.start at h2
      by_cases hi : i < vs.length
      · exact hi
      · rw [List.getElem?_append_right (by simpa using hi)] at h2
        rw [List.getElem?_replicate] at h2
        split at h2 <;> cases h2
    have ha : vs[i]? = some v := by
      unfold L2.start at h2
      rw [List.getElem?_append_left (by simpa using hi), List.getElem?_map] at h2
      cases e : vs[i]? with
      | none => rw [e] at h2; cases h2
      | some a => rw [e] at h2; cases h2; rfl
    obtain ⟨u, hu, rv⟩ := r.get ha
    have hp : ps[i]? = some y := by
      rw [← pre, List.getElem?_take_of_lt (by omega)]; exact h1
    have ndP : ps.Nodup := by rw [← pre]; exact nd.sublist (List.take_sublist _ _)
    have k := par y (List.mem_of_getElem? hp)
    exact ⟨k, u, rv, bindL_get ndP hp hu (kd y k)⟩
  · unfold L2.start
    rw [List.length_append, List.length_map, List.length_replicate]
    omega
theorem hok_but {P : Program} {w : World} {H : Hp} {h h' : Heap} {a : Addr} (ok : HOk P w H h) (k : ∀ b o, b ≠ a → h.get? b = some o → h'.get? b = some o) (hn : H a = none) : HOk P w H h' := fun b u e => by
  have nit : ∀ b u, H b = some u → b ≠ a := fun b u e z => by rw [z, hn] at e; cases e
  refine (ok b u e).stay (fun c v hc q => k c v ?_ q) (fun _ q => q) fun _ _ q => q
  rcases hc with z | z
  · rw [z]; exact nit b u e
  · exact nit c _ z
theorem un_down {fr : List Addr} {H H' : Hp} {h h' : Heap} {L L2 : Addr} (a : Un (L :: fr) [] H H' (trunc h L2) h') (hl : L ≤ L2) : Un fr [] H H' (trunc h L) h' := by
  have lt : ∀ {x : Addr} {o : Obj}, (trunc h L).get? x = some o → (trunc h L2).get? x = some o ∧ x ≠ L := fun {x o} e => by
    obtain ⟨q1, q2⟩ := of_trunc e
    exact ⟨by rw [trunc_get (Nat.lt_of_lt_of_le q1 hl)]; exact q2, Nat.ne_of_lt q1⟩
  exact ⟨fun x o e n nf nx => a.keep _ _ (lt e).1 n (fun y => (List.mem_cons.mp y).elim (lt e).2 nf) nx, fun x o e n nf nx => a.slot _ _ (lt e).1 n (List.mem_cons_of_mem _ nf) nx, fun x o e n nx => a.free _ _ (lt e).1 n nx, fun x o e nx => a.there _ _ (lt e).1 nx, a.tups, a.frzs, a.tbls⟩
/-- what lies at a ≥ L changes -/
theorem un_pre {fr : List Addr} {H H' : Hp} {h h1 h' : Heap} {L : Addr} (k : ∀ x o, x < L → h.get? x = some o → h1.get? x = some o) (a : Un fr [] H H' (trunc h1 L) h') : Un fr [] H H' (trunc h L) h' := by
  have lt : ∀ {x : Addr} {o : Obj}, (trunc h L).get? x = some o → (trunc h1 L).get? x = some o := fun {x o} e => by
    obtain ⟨q1, q2⟩ := of_trunc e
    rw [trunc_get q1]
    exact k x o q1 q2
  exact ⟨fun x o e n nf nx => a.keep _ _ (lt e) n nf nx, fun x o e n nf nx => a.slot _ _ (lt e) n nf nx, fun x o e n nx => a.free _ _ (lt e) n nx, fun x o e nx => a.there _ _ (lt e) nx, a.tups, a.frzs, a.tbls⟩
theorem un_post {fr : List Addr} {H H' : Hp} {h h' h2 : Heap} {L : Addr} (k : ∀ x o, x < L → h'.get? x = some o → h2.get? x = some o) (a : Un fr [] H H' (trunc h L) h') : Un fr [] H H' (trunc h L) h2 :=
  ⟨fun x o e n nf nx => k _ _ (of_trunc e).1 (a.keep _ _ e n nf nx), fun x o e n nf nx => by
    obtain ⟨sl, q⟩ := a.slot _ _ e n nf nx
    exact ⟨sl, k _ _ (of_trunc e).1 q⟩, a.free, fun x o e nx => by
    obtain ⟨o', q⟩ := a.there _ _ e nx
    exact ⟨o', k _ _ (of_trunc e).1 q⟩, a.tups, a.frzs, a.tbls⟩
end K19
set_option maxHeartbeats 4000000
/-! flat_poses: a generator that sleeps over poses_from. -/
namespace K19
open PySem PySem.Spec PyProof.Rows L2
/-- a generator of flat_poses: what is fixed -/
structure P1 where
  P : Program
  w : World
  K : PySem.W.Frag
  mg : Str → Option Value
  base : Heap
  cd : Value
  A : Around
  outer : List Env
  L : Addr
  g : Nat
  f0 : Nat → Option GenState
  n : Nat
  PA : List Addr
abbrev YF (a : Addr) : Code := .builtin "proto.yield_from" ⟨[.ref a, .bool false, .none], []⟩
section
variable (D : P1)
abbrev P1.X (z : Shared) (H : Hp) : Cx := cxF D.P D.w D.K D.mg D.base D.cd D.A D.outer D.L z H
abbrev P1.env : Env := envOfC "flat_poses" (defScope s_flat_poses) D.L (He.ga D.K "flat_poses") D.cd
/-- its delegate -/
abbrev P1.two (cd2 : Value) (L2 : Addr) (a2 : Addr) (g2 : Nat) : P2 := ⟨D.P, D.w, D.K, D.mg, D.base, cd2, (D.A.deeper D.env).in1.in1, D.env :: D.outer, L2, g2, D.f0, D.n, a2 :: D.PA⟩
def P1.Pn (z : Shared) (H : Hp) (pins : List (Addr × Obj)) : Prop := ∀ p ∈ pins, z.heap.get? p.1 = some p.2 ∧ H p.1 = none ∧ p.1 ≠ D.L ∧ p.1 ∉ frs D.outer ∧ ∀ v, p.2.data ≠ .cell v
structure P1.Ok : Prop where
  tx : TX D.K D.mg
  bL : D.base.objs.size ≤ D.L
  fL : ∀ b ∈ frs D.outer, b < D.L
  n4 : D.n ≤ 4
  room : Room 17 D.A
/-- it is woken at z -/
structure P1.At (z : Shared) (H : Hp) (pins : List (Addr × Obj)) : Prop where
  env0 : Env0 D.P D.w D.K D.mg D.base D.A D.outer z H
  un : UnOk D.f0 z
  hn : H D.L = none
  ns : ∃ m, z.heap.Ns D.L m
  pin : D.Pn z H pins
  pa : pins.map (·.1) = D.PA
structure P1.Go (z : Shared) (H : Hp) (pins : List (Addr × Obj)) (z' : Shared) (H' : Hp) : Prop where
  un : UnOk D.f0 z'
  gs : z.gens.size ≤ z'.gens.size
  os : z'.os = z.os
  bare : AllBare z'.gens
  base : Un (frs D.outer) [] H H' (trunc z.heap D.L) z'.heap
  same : Same H H'
  hok : HOk D.P D.w H' z'.heap
  pin : D.Pn z' H' pins
  hn : H' D.L = none
  ns : ∃ m, z'.heap.Ns D.L m
/-- what lies behind it while it sleeps -/
structure Dg (C : P2) (a2 : Addr) (fp : List Addr) (tn : Nat → Heap → Prop) (m : Nat) (gs2 : GenState) (j : Option Int) (z : Shared) (H : Hp) : Prop where
  gen : z.gens[C.g]? = some gs2
  slp : C.S fp tn m gs2
  tn : TnF fp tn (2 ^ C.n - m) z H
  fr : C.Fr z H (PfG C.n)
  obj : GObj z.heap a2 C.g j
  ha : H a2 = none
  hn : H C.L = none
def sh1 (a : Addr) (gs : GenState) : Prop := ∃ k l p fs, gs = .suspended k l (YF a) p fs true ∧ fs.all ngF = true ∧ fs.any Frame.guarded = false
/-- its delegate's place -/
structure P1.Sub0 (C : P2) (cd2 : Value) (a2 : Addr) : Prop where
  eq : C = D.two cd2 C.L a2 C.g
  lt : D.L < C.L
  la : C.L < a2
  f0 : D.f0 C.g = none
  np : ∀ b ∈ D.PA, b ≠ C.L
  na : ∀ b ∈ D.PA, b ≠ a2
  ng : C.g ≠ D.g
  ok : C.Ok
structure P1.Sub (C : P2) (cd2 : Value) (a2 : Addr) (it : Addr) (fp : List Addr) (tn : Nat → Heap → Prop) : Prop extends P1.Sub0 D C cd2 a2 where
  It : C.It it fp tn
def P1.S (C : P2) (a2 : Addr) (fp : List Addr) (tn : Nat → Heap → Prop) : Nat → GenState → Prop
  | 0 => fun gs => sh1 a2 gs ∧ ∀ z H pins gs2, D.At z H pins → Dg C a2 fp tn 0 gs2 (some 1) z H → goE (model D.P D.w) D.A D.g gs (fun _ _ _ => False) (fun r s' => r = .ok (.ret .none) ∧ ∃ z' H', s' = un D.f0 z' ∧ D.Go z H pins z' H') (un D.f0 z)
  | m + 1 => fun gs => sh1 a2 gs ∧ ∀ z H pins gs2, D.At z H pins → Dg C a2 fp tn (m + 1) gs2 (some 1) z H → goE (model D.P D.w) D.A D.g gs (fun v s' gs' => P1.S C a2 fp tn m gs' ∧ ∃ z' H' u gs2', s' = un D.f0 z' ∧ D.Go z H pins z' H' ∧ RelV u v ∧ Rp D.K H' u (dUs (poseOf D.n (2 ^ D.n - (m + 1)))) ∧ Dg C a2 fp tn m gs2' (some 1) z' H') (fun _ _ => False) (un D.f0 z)
def P1.Y (C : P2) (a2 : Addr) (fp : List Addr) (tn : Nat → Heap → Prop) (m : Nat) (z : Shared) (H : Hp) (pins : List (Addr × Obj)) : Value → Shared → GenState → Prop :=
  match m with
  | 0 => fun _ _ _ => False
  | m + 1 => fun v s' gs' => D.S C a2 fp tn m gs' ∧ ∃ z' H' u gs2', s' = un D.f0 z' ∧ D.Go z H pins z' H' ∧ RelV u v ∧ Rp D.K H' u (dUs (poseOf D.n (2 ^ D.n - (m + 1)))) ∧ Dg C a2 fp tn m gs2' (some 1) z' H'
def P1.R (m : Nat) (z : Shared) (H : Hp) (pins : List (Addr × Obj)) : Result → Shared → Prop :=
  match m with
  | 0 => fun r s' => r = .ok (.ret .none) ∧ ∃ z' H', s' = un D.f0 z' ∧ D.Go z H pins z' H'
  | _ + 1 => fun _ _ => False
variable {D}
theorem P1.S_iff {C : P2} {a2 : Addr} {fp : List Addr} {tn : Nat → Heap → Prop} {m : Nat} {gs : GenState} : D.S C a2 fp tn m gs ↔ sh1 a2 gs ∧ ∀ z H pins gs2, D.At z H pins → Dg C a2 fp tn m gs2 (some 1) z H → goE (model D.P D.w) D.A D.g gs (D.Y C a2 fp tn m z H pins) (D.R m z H pins) (un D.f0 z) := by
  cases m <;> rfl
theorem frs_cons {env : Env} {L : Addr} {l : List Env} (h : env.frame = some L) : frs (env :: l) = L :: frs l := by
  unfold frs
  rw [List.filterMap_cons, h]
theorem shG.ng {gs : GenState} (h : shG gs) : ngS gs = true ∧ gs.bare = true ∧ isSusp gs = true := by
  obtain ⟨k, l, c, p, fs, rfl, q⟩ := h
  exact ⟨q, rfl, rfl⟩
theorem allBare_set {z : Shared} {g : Nat} {x : GenState} (h : AllBare z.gens) (hx : x.bare = true) : AllBare (z.setGen g x).gens := by
  intro y hy
  have hy : y ∈ z.gens.setIfInBounds g x := hy
  rcases Array.mem_or_eq_of_mem_setIfInBounds hy with q | q
  · exact h y q
  · rw [q]; exact hx
theorem S_sh {C : P2} {fp : List Addr} {tn : Nat → Heap → Prop} {m : Nat} {gs : GenState} (h : C.S fp tn m gs) : shG gs := (P2.S_iff.mp h).1
/-- the delegate is asked -/
theorem P1.ask (O : D.Ok) {C : P2} {cd2 : Value} {a2 : Addr} (S : D.Sub0 C cd2 a2) {z : Shared} {H : Hp} {pins : List (Addr × Obj)} {gs2 : GenState} {j : Option Int} (a : D.At z H pins) (hgen : z.gens[C.g]? = some gs2) (hobj : GObj z.heap a2 C.g j) (ha2 : H a2 = none) (hnC : H C.L = none) (hj : ∀ i, j = some i → i ≤ 0) (hgs : gs2 ≠ .running ∧ gs2 ≠ .finished)
    {Qf : Gm → Prop} (fr : C.Fr z H Qf) {Y2 : Value → Shared → GenState → Prop} {R2 : Result → Shared → Prop} {pins2 : List (Addr × Obj)} (hp2 : ∃ o, z.heap.get? a2 = some o ∧ pins2 = (a2, o) :: pins) {Q : Option Value → Shared → Prop} {E : Value → Shared → Prop}
    (go : ∀ zr, zr = z.setGen C.g .running → C.At zr H pins2 Qf → goE (model D.P D.w) C.A C.g gs2 Y2 R2 (un D.f0 zr))
    (hY : ∀ v s₁ gs', Y2 v s₁ gs' → Q (some v) (s₁.setGen C.g gs')) (hR : ∀ r s₁, R2 r s₁ → r = .ok (.ret .none) ∧ ∀ e h', StopX e h' → (∀ b o, s₁.heap.get? b = some o → h'.get? b = some o) → E e { s₁.setGen C.g .finished with heap := h' }) :
    wpE (model D.P D.w) (D.A.deeper D.env).in1 (callSpecial? (.ref a2) "__next__") Q E (un D.f0 z) := by
  have nolim : z.heap.NoLimit := a.env0.mod.nolimit.keeps fun b o e => (a.env0.bs b o e).1
  have frE : D.env.frame = some D.L := rfl
  have CA : C.A = (D.A.deeper D.env).in1.in1 := by rw [S.eq]
  have CO : C.outer = D.env :: D.outer := by rw [S.eq]
  have CP : C.P = D.P ∧ C.w = D.w ∧ C.K = D.K ∧ C.mg = D.mg ∧ C.base = D.base ∧ C.f0 = D.f0 ∧ C.PA = a2 :: D.PA := by rw [S.eq]; exact ⟨rfl, rfl, rfl, rfl, rfl, rfl, rfl⟩
  obtain ⟨c1, c2, c3, c4, c5, c6, c7⟩ := CP
  have fs : frs C.outer = D.L :: frs D.outer := by rw [CO]; exact frs_cons frE
  obtain ⟨m, ns⟩ := a.ns
  obtain ⟨o2, e2, ep⟩ := hp2
  have atr : C.At (z.setGen C.g .running) H pins2 Qf := by
    refine ⟨?_, ?_, hnC, fr, ?_, ?_⟩
    · rw [c1, c2, c3, c4, c5, CA, CO]
      refine ⟨Around.frames_deeper a.env0.frames, a.env0.mod, a.env0.bs, a.env0.bsz, .cons (by rw [show D.env.scope.kind = .function from gs_flat_poses.kind]; decide) frE ns (Heap.get?_none_of_le O.bL) a.env0.funs, fun b hb => ?_, a.env0.hok, allBare_set a.env0.bare rfl⟩
      rw [frs_cons frE] at hb
      rcases List.mem_cons.mp hb with rfl | hb
      · exact a.hn
      · exact a.env0.frf b hb
    · rw [c6]
      exact a.un.set S.f0 rfl
    · intro p hp
      rw [ep] at hp
      rw [fs]
      rcases List.mem_cons.mp hp with rfl | hp
      · obtain ⟨o, eo, _, hd⟩ := hobj.number
        rw [e2] at eo
        cases eo
        exact ⟨e2, ha2, Nat.ne_of_gt S.la, fun q => (List.mem_cons.mp q).elim (fun y => absurd y (Nat.ne_of_gt (Nat.lt_trans S.lt S.la))) fun y => absurd (O.fL _ y) (Nat.not_lt.mpr (Nat.le_of_lt (Nat.lt_trans S.lt S.la))), hd⟩
      · obtain ⟨q1, q2, q3, q4, q5⟩ := a.pin p hp
        refine ⟨q1, q2, fun y => ?_, fun y => (List.mem_cons.mp y).elim q3 q4, q5⟩
        exact S.np p.1 (by rw [← a.pa]; exact List.mem_map_of_mem hp) y
    · intro p hp
      rw [ep] at hp
      rw [c7]
      rcases List.mem_cons.mp hp with rfl | hp
      · exact List.mem_cons_self
      · exact List.mem_cons_of_mem _ (by rw [← a.pa]; exact List.mem_map_of_mem hp)
  have hh : ((D.A.deeper D.env).in1).handled = none := O.room.hd
  refine wpE_nextG hh nolim (by have := O.room.dp; show D.A.depth + 1 < _; omega) hobj hj (un_at a.un S.f0 hgen) ?_ hgs
  have e1 : (un D.f0 z).setGen C.g .running = un D.f0 (z.setGen C.g .running) := (un_set S.f0).symm
  rw [e1]
  have := go _ rfl atr
  rw [CA] at this
  exact goE_mono this hY hR
theorem close_gen : typeLookup (.type "generator") "close" = pure (some (.builtin "generator.close")) := by rw [typeLookup_type, builtinLookup_eq_fast]; kernel_rfl
theorem P1.Sub0.eqs {C : P2} {cd2 : Value} {a2 : Addr} (S : D.Sub0 C cd2 a2) : C.P = D.P ∧ C.w = D.w ∧ C.K = D.K ∧ C.mg = D.mg ∧ C.base = D.base ∧ C.f0 = D.f0 ∧ C.PA = a2 :: D.PA ∧ C.n = D.n ∧ C.A = (D.A.deeper D.env).in1.in1 ∧ C.outer = D.env :: D.outer ∧ frs C.outer = D.L :: frs D.outer := by
  have CO : C.outer = D.env :: D.outer := by rw [S.eq]
  refine ⟨?_, ?_, ?_, ?_, ?_, ?_, ?_, ?_, ?_, CO, by rw [CO]; exact frs_cons rfl⟩ <;> rw [S.eq]
/-- what a turn of the delegate is to its sleeper -/
theorem P1.go12 (O : D.Ok) {C : P2} {cd2 : Value} {a2 : Addr} (S : D.Sub0 C cd2 a2) {z zr z' z'' : Shared} {H H' : Hp} {pins pins2 : List (Addr × Obj)} (a : D.At z H pins) (hr : ∀ x o, x ≠ a2 → z.heap.get? x = some o → zr.heap.get? x = some o) (os : zr.os = z.os) (gz : z.gens.size ≤ zr.gens.size)
    (G : C.Go zr H pins2 z' H') (hp : ∀ p ∈ pins, p ∈ pins2) (hk : ∀ x o, x ≠ a2 → z'.heap.get? x = some o → z''.heap.get? x = some o) (os2 : z''.os = z'.os) (gz2 : z'.gens.size ≤ z''.gens.size) (U : UnOk D.f0 z'') (B : AllBare z''.gens) (hok : HOk D.P D.w H' z''.heap) : D.Go z H pins z'' H' := by
  obtain ⟨c1, c2, c3, c4, c5, c6, c7, c8, CA, CO, fs⟩ := S.eqs
  have na : D.L ≠ a2 := Nat.ne_of_lt (Nat.lt_trans S.lt S.la)
  have base := G.base
  rw [fs] at base
  obtain ⟨m, ns⟩ := a.ns
  have hL : ∃ o sl, z.heap.get? D.L = some o ∧ z'.heap.get? D.L = some { o with slots := sl } ∧ H' D.L = none := by
    obtain ⟨o, es, ep, ho, r⟩ := ns
    have e1 : (trunc zr.heap C.L).get? D.L = some o := by rw [trunc_get S.lt]; exact hr _ _ na ho
    obtain ⟨sl, e2⟩ := base.any e1 a.hn (by simp)
    exact ⟨o, sl, ho, e2, base.free _ _ e1 a.hn (by simp)⟩
  obtain ⟨o, sl, e1, e2, e3⟩ := hL
  refine ⟨U, Nat.le_trans gz (Nat.le_trans G.gs gz2), by rw [os2, G.os, os], B, ?_, G.same, hok, fun p q => ?_, e3, ?_⟩
  · exact un_pre (fun x ob hx e => hr x ob (Nat.ne_of_lt (Nat.lt_trans hx (Nat.lt_trans S.lt S.la))) e) (un_post (fun x ob hx e => hk x ob (Nat.ne_of_lt (Nat.lt_trans hx (Nat.lt_trans S.lt S.la))) e) (un_down base (Nat.le_of_lt S.lt)))
  · obtain ⟨q1, q2, q3, q4, q5⟩ := G.pin p (hp p q)
    rw [fs] at q4
    exact ⟨hk _ _ (S.na _ (by rw [← a.pa]; exact List.mem_map_of_mem q)) q1, q2, fun y => q4 (by rw [y]; exact List.mem_cons_self), fun y => q4 (List.mem_cons_of_mem _ y), q5⟩
  · obtain ⟨o', es, ep, ho', r⟩ := ns
    rw [e1] at ho'
    cases ho'
    exact ⟨m, _, es, ep, hk _ _ na e2, r⟩
theorem P1.At.but (O : D.Ok) {C : P2} {cd2 : Value} {a2 : Addr} (S : D.Sub0 C cd2 a2) {z : Shared} {H : Hp} {pins : List (Addr × Obj)} {h' : Heap} (a : D.At z H pins) (ha : H a2 = none) (hk : ∀ x o, x ≠ a2 → z.heap.get? x = some o → h'.get? x = some o) : D.At { z with heap := h' } H pins := by
  have na : D.L ≠ a2 := Nat.ne_of_lt (Nat.lt_trans S.lt S.la)
  have lt : ∀ x, x < D.L → x ≠ a2 := fun x q => Nat.ne_of_lt (Nat.lt_trans q (Nat.lt_trans S.lt S.la))
  have ns' : ∃ m, h'.Ns D.L m := by
    obtain ⟨m, o, es, ep, e, r⟩ := a.ns
    exact ⟨m, o, es, ep, hk _ _ na e, r⟩
  refine ⟨⟨a.env0.frames, a.env0.mod, fun b o e => ⟨hk _ _ (lt b (Nat.lt_of_lt_of_le (Heap.lt_size e) O.bL)) (a.env0.bs b o e).1, (a.env0.bs b o e).2⟩, Nat.le_trans O.bL (let ⟨_, q⟩ := ns'; Nat.le_of_lt q.lt), ?_, a.env0.frf, hok_but a.env0.hok hk ha, a.env0.bare⟩, ⟨a.un.dom, a.un.ng⟩, a.hn, ns', fun p q => ?_, a.pa⟩
  · have all : ∀ l : List Env, (∀ b ∈ frs l, b < D.L) → z.heap.FunFrames D.base l → h'.FunFrames D.base l := by
      intro l
      induction l with
      | nil => intro _ _; trivial
      | cons env l ih =>
        rintro q ⟨k, ⟨L, o, e1, e2, e3, e4⟩, r⟩
        have e0 : frs (env :: l) = L :: frs l := frs_cons e1
        rw [e0] at q
        exact ⟨k, ⟨L, o, e1, e2, hk _ _ (lt L (q L List.mem_cons_self)) e3, e4⟩, ih (fun b hb => q b (List.mem_cons_of_mem _ hb)) r⟩
    exact all _ O.fL a.env0.funs
  · obtain ⟨q1, q2⟩ := a.pin p q
    exact ⟨hk _ _ (S.na _ (by rw [← a.pa]; exact List.mem_map_of_mem q)) q1, q2⟩
section
variable {X : Cx} {A : Around} {g : Nat} {Y : Value → Shared → GenState → Prop} {R : Result → Shared → Prop} {fs : List Frame} {A' : Around} {s : Shared} {a : Addr}
/-- «yield from» over a generator: one turn -/
theorem gE_YF (hI : InG A (YF a) fs A') (hfs : splitAtGen fs = none) (hg : fs.any Frame.guarded = false)
    (h : wpE (model X.prog X.w) A' (callSpecial? (.ref a) "__next__") (fun r s' => ∃ v, r = some v ∧ s'.TypeIs (.ref a) "generator" ∧ wpE (model X.prog X.w) A' (Builtin.Generator.sleptOver (.ref a) true) (fun _ s2 => ∃ o n, s2.heap.get? a = some o ∧ o.genNumber? = some n ∧
        ∀ k l p, k (.send .none) = (Builtin.Generator.sleptOver (.ref a) false >>= fun _ => (.pure (.again (YF a)) : Sem PySem.Fin)) → Y v s2 (.suspended k l (YF a) p fs true)) nE s')
      (fun e s' => StopX e s'.heap ∧ gE (model X.prog X.w) A g Y R (YF a) fs (leafOf (.ok (.ret .none))) s') s) : gE (model X.prog X.w) A g Y R (YF a) fs ((model X.prog X.w).den (YF a)) s := by
  rw [L2.den_yf]
  unfold Builtin.«proto.yield_from»
  try dsimp only
  refine gE_bind0 hI (wpE_pure ?_)
  try dsimp only
  refine gE_bind0 hI (wpE_attempt (wpE_holding ?_))
  rw [if_neg Bool.false_ne_true, if_pos (show (Value.none == Value.none) = true from rfl)]
  refine wpE_bind (wpE_of (wpAny_rule ?_))
  refine wpE_bind (wpE_mono h (fun r s' ⟨v, er, ty, q⟩ => ?_) fun e s' ⟨sx, q⟩ => ?_)
  · subst er
    refine wpE_pure ?_
    try dsimp only
    refine gE_bind0 hI (wpE_of (wpAny_typeOf (T := "generator") ty ?_))
    try dsimp only
    first
      | (refine gE_bind0 hI (wpE_of (wpAny_of_eq close_gen ?_)); refine gE_bind0 hI (wpE_pure ?_))
      | refine gE_bind0 hI (wpE_bind (wpE_of (wpAny_of_eq close_gen (wpAny_pure ?_))))
      | refine gE_bind0 hI (wpE_of (wpAny_of_eq close_gen ?_))
    try dsimp only
    refine gE_bind0 hI (wpE_mono q (fun _ s2 ⟨o, n, ho, hn, q⟩ => ?_) fun _ _ q => q)
    refine gE_yieldY hfs hg rfl ho hn fun p => ?_
    exact q _ _ p rfl
  · obtain ⟨b, o, vs, rfl, hoa, hcls, hdat, h5⟩ := sx
    try dsimp only
    refine gE_bind0 hI (wpE_of (wpAny_endsTurn hoa hcls ?_))
    try dsimp only
    rw [if_pos rfl]
    first
      | refine gE_bind0 hI (wpE_of (wpAny_rule ?_))
      | (rw [if_neg Bool.false_ne_true]; refine gE_bind0 hI (wpE_of (wpAny_rule ?_)))
      | (rw [if_neg Bool.false_ne_true]; refine gE_bind0 hI (wpE_pure ?_); refine gE_bind0 hI (wpE_of (wpAny_rule ?_)))
    refine gE_bind0 hI (wpE_of (wpAny_field hoa hdat h5 ?_))
    exact q
end
end
section
variable {D : P1} {C : P2} {cd2 : Value} {a2 it : Addr} {fp : List Addr} {tn : Nat → Heap → Prop}
theorem P1.stops (O : D.Ok) (S : D.Sub C cd2 a2 it fp tn) {z : Shared} {H : Hp} {pins : List (Addr × Obj)} {gs2 : GenState} {j : Option Int} (hj : ∀ i, j = some i → i = 0) (a : D.At z H pins) (d : Dg C a2 fp tn 0 gs2 j z H) :
    wpE (model D.P D.w) (D.A.deeper D.env).in1 (callSpecial? (.ref a2) "__next__") (fun _ _ => False) (fun e s' => ∃ z' H', s' = un D.f0 z' ∧ D.Go z H pins z' H' ∧ StopX e z'.heap) (un D.f0 z) := by
  obtain ⟨c1, c2, c3, c4, c5, c6, c7, c8, CA, CO, fs⟩ := S.eqs
  obtain ⟨o2, e2, num, hd2⟩ := d.obj.number
  have sh := (S_sh d.slp).ng
  refine P1.ask O S.toSub0 a d.gen d.obj d.ha d.hn (fun i e => by rw [hj i e]; decide) ⟨fun q => by rw [q] at sh; exact absurd sh.2.2 (by decide), fun q => by rw [q] at sh; exact absurd sh.2.2 (by decide)⟩ d.fr (pins2 := (a2, o2) :: pins) (Y2 := fun _ _ _ => False) (R2 := fun r s' => r = .ok (.ret .none) ∧ ∃ z' H', s' = un D.f0 z' ∧ C.Go (z.setGen C.g .running) H ((a2, o2) :: pins) z' H') ⟨o2, e2, rfl⟩ (fun zr er ar => ?_) (fun _ _ _ q => q) fun r s1 ⟨er, z', H', e', G⟩ => ⟨er, fun e h' sx kp => ?_⟩
  · subst er
    have tt : TnF fp tn (2 ^ C.n - 0) (z.setGen C.g .running) H := ⟨d.tn.tn, d.tn.fn⟩
    have go := (P2.S_iff.mp d.slp).2 (z.setGen C.g .running) H _ ar tt
    rw [c1, c2] at go
    rw [← c6]
    exact go
  · subst e'
    have U : UnOk D.f0 z' := by rw [← c6]; exact G.un
    refine ⟨{ z'.setGen C.g .finished with heap := h' }, H', ?_, ?_, sx⟩
    · have e1 : (un D.f0 z').setGen C.g .finished = un D.f0 (z'.setGen C.g .finished) := (un_set S.f0).symm
      rw [e1]
      rfl
    · have U2 : UnOk D.f0 (z'.setGen C.g .finished) := U.set S.f0 rfl
      have hok := G.hok
      rw [c1, c2] at hok
      exact P1.go12 (zr := z.setGen C.g .running) (z' := z') (z'' := { z'.setGen C.g .finished with heap := h' }) O S.toSub0 a (fun x o _ e => e) rfl (by rw [GenW.setGen_size]; exact Nat.le_refl _) G (fun p hp => List.mem_cons_of_mem _ hp) (fun x o _ e => kp _ _ e) rfl (by show _ ≤ (z'.setGen C.g .finished).gens.size; rw [GenW.setGen_size]; exact Nat.le_refl _) ⟨U2.dom, U2.ng⟩ (allBare_set G.bare rfl) (hok.kept kp)
theorem P1.nexts (O : D.Ok) (S : D.Sub C cd2 a2 it fp tn) {z : Shared} {H : Hp} {pins : List (Addr × Obj)} {gs2 : GenState} {j : Option Int} {m : Nat} (hj : ∀ i, j = some i → i = 0) (a : D.At z H pins) (d : Dg C a2 fp tn (m + 1) gs2 j z H) :
    wpE (model D.P D.w) (D.A.deeper D.env).in1 (callSpecial? (.ref a2) "__next__") (fun r s' => ∃ v z' H' u gs2', r = some v ∧ s' = un D.f0 z' ∧ D.Go z H pins z' H' ∧ RelV u v ∧ Rp D.K H' u (dUs (poseOf D.n (2 ^ D.n - (m + 1)))) ∧ Dg C a2 fp tn m gs2' j z' H') nE (un D.f0 z) := by
  obtain ⟨c1, c2, c3, c4, c5, c6, c7, c8, CA, CO, fs⟩ := S.eqs
  obtain ⟨o2, e2, num, hd2⟩ := d.obj.number
  have sh := (S_sh d.slp).ng
  refine P1.ask O S.toSub0 a d.gen d.obj d.ha d.hn (fun i e => by rw [hj i e]; decide) ⟨fun q => by rw [q] at sh; exact absurd sh.2.2 (by decide), fun q => by rw [q] at sh; exact absurd sh.2.2 (by decide)⟩ d.fr (pins2 := (a2, o2) :: pins)
    (Y2 := C.Y fp tn (m + 1) (z.setGen C.g .running) H ((a2, o2) :: pins)) (R2 := fun _ _ => False) ⟨o2, e2, rfl⟩ (fun zr er ar => ?_) (fun v s1 gs' ⟨q1, z', H', u, q2, G, q4, q5, q6, q7⟩ => ?_) fun r s1 q => q.elim
  · subst er
    have tt : TnF fp tn (2 ^ C.n - (m + 1)) (z.setGen C.g .running) H := ⟨d.tn.tn, d.tn.fn⟩
    have go := (P2.S_iff.mp d.slp).2 (z.setGen C.g .running) H _ ar tt
    rw [c1, c2] at go
    rw [← c6]
    exact go
  · have U : UnOk D.f0 z' := by rw [← c6]; exact G.un
    have sh' := (S_sh q1).ng
    have hok := G.hok
    rw [c1, c2] at hok
    rw [c6] at q2
    subst q2
    have lt : C.g < z'.gens.size := by
      have h1 : C.g < z.gens.size := (Array.getElem?_eq_some_iff.mp d.gen).1
      have h2 := G.gs
      rw [GenW.setGen_size] at h2
      exact Nat.lt_of_lt_of_le h1 h2
    obtain ⟨p1, p2, p3, p4, p5⟩ := G.pin (a2, o2) List.mem_cons_self
    refine ⟨v, z'.setGen C.g gs', H', u, gs', rfl, (un_set S.f0).symm, ?_, q4, by rw [c3, c8] at q5; exact q5, ⟨?_, q1, ⟨q7.tn, q7.fn⟩, q6, ?_, p2, G.hn⟩⟩
    · exact P1.go12 (zr := z.setGen C.g .running) (z' := z') (z'' := z'.setGen C.g gs') O S.toSub0 a (fun x o _ e => e) rfl (by rw [GenW.setGen_size]; exact Nat.le_refl _) G (fun p hp => List.mem_cons_of_mem _ hp) (fun x o _ e => e) rfl (by rw [GenW.setGen_size]; exact Nat.le_refl _) (U.set S.f0 sh'.1) (allBare_set G.bare sh'.2.1) hok
    · show (z'.gens.setIfInBounds C.g gs')[C.g]? = some gs'
      rw [Array.getElem?_setIfInBounds, if_pos rfl, if_pos lt]
    · obtain ⟨o, nm, qn, ho, r⟩ := d.obj
      rw [e2] at ho
      cases ho
      exact ⟨_, nm, qn, p1, r⟩
/-- the delegate's record changes by the sleeper's hand -/
theorem Dg.but {D : P1} {C : P2} {cd2 : Value} {a2 it : Addr} {fp : List Addr} {tn : Nat → Heap → Prop} {m : Nat} {gs2 : GenState} {j j' : Option Int} {z : Shared} {H : Hp} {h' : Heap} (S : D.Sub C cd2 a2 it fp tn) (d : Dg C a2 fp tn m gs2 j z H) (g : GObj h' a2 C.g j') (hk : ∀ x o, x ≠ a2 → z.heap.get? x = some o → h'.get? x = some o) : Dg C a2 fp tn m gs2 j' { z with heap := h' } H := by
  obtain ⟨c1, c2, c3, c4, c5, c6, c7, c8, CA, CO, fs⟩ := S.eqs
  refine ⟨d.gen, d.slp, ⟨S.It.T.keep _ _ _ d.tn.tn fun b hb o e => hk _ _ (fun y => S.It.pa b hb (by rw [c7, y]; exact List.mem_cons_self)) e, d.tn.fn⟩, ?_, g, d.ha, d.hn⟩
  obtain ⟨mm, σ, gg, ⟨o, es, ep, ho, r⟩, q⟩ := d.fr
  exact ⟨mm, σ, gg, ⟨o, es, ep, hk _ _ (Nat.ne_of_lt S.la) ho, r⟩, q⟩
theorem P1.Go.pre {z z' : Shared} {H H' : Hp} {pins : List (Addr × Obj)} {h' : Heap} (S : D.Sub0 C cd2 a2) (hk : ∀ x o, x ≠ a2 → z.heap.get? x = some o → h'.get? x = some o) (G : D.Go { z with heap := h' } H pins z' H') : D.Go z H pins z' H' :=
  ⟨G.un, G.gs, G.os, G.bare, un_pre (fun x ob hx e => hk x ob (Nat.ne_of_lt (Nat.lt_trans hx (Nat.lt_trans S.lt S.la))) e) G.base, G.same, G.hok, G.pin, G.hn, G.ns⟩
theorem P1.Go.post {z z' : Shared} {H H' : Hp} {pins : List (Addr × Obj)} {h' : Heap} (S : D.Sub0 C cd2 a2) (hp : pins.map (·.1) = D.PA) (ha : H' a2 = none) (hk : ∀ x o, x ≠ a2 → z'.heap.get? x = some o → h'.get? x = some o) (G : D.Go z H pins z' H') : D.Go z H pins { z' with heap := h' } H' := by
  refine ⟨⟨G.un.dom, G.un.ng⟩, G.gs, G.os, G.bare, un_post (fun x ob hx e => hk x ob (Nat.ne_of_lt (Nat.lt_trans hx (Nat.lt_trans S.lt S.la))) e) G.base, G.same, hok_but G.hok hk ha, fun p q => ?_, G.hn, ?_⟩
  · obtain ⟨q1, q2⟩ := G.pin p q
    exact ⟨hk _ _ (S.na _ (by rw [← hp]; exact List.mem_map_of_mem q)) q1, q2⟩
  · obtain ⟨m, o, es, ep, e, r⟩ := G.ns
    exact ⟨m, o, es, ep, hk _ _ (Nat.ne_of_lt (Nat.lt_trans S.lt S.la)) e, r⟩
/-- its sleep's turns -/
theorem P1.yf (O : D.Ok) (S : D.Sub C cd2 a2 it fp tn) (k : Result → Sem PySem.Fin) (l : List Value) (p : Pos)
    (hk : ∀ Y R s, R (.ok (.ret .none)) s → gE (model D.P D.w) D.A D.g Y R (.func (defBody s_flat_poses) D.env) [] (k (.ok (.ret .none))) s) :
    ∀ (m : Nat), m ≤ 2 ^ D.n → ∀ z H pins gs2 j, (∀ i, j = some i → i = 0) → D.At z H pins → Dg C a2 fp tn m gs2 j z H →
      gE (model D.P D.w) D.A D.g (D.Y C a2 fp tn m z H pins) (D.R m z H pins) (YF a2) [.ret k none false l (.func (defBody s_flat_poses) D.env) p []] ((model D.P D.w).den (YF a2)) (un D.f0 z) := by
  have hI : InG D.A (YF a2) [.ret k none false l (.func (defBody s_flat_poses) D.env) p []] (D.A.deeper D.env).in1 := by
    have := (inG_func (A := D.A) (body := defBody s_flat_poses) (env := D.env)).call (c' := YF a2) (h := none) (kf := k) (gg := false) (l := l) (p := p) (by intro x; cases x)
    rw [Around.under_plainId plain_yf] at this
    exact this
  intro m
  induction m with
  | zero =>
    intro _ z H pins gs2 j hj a d
    refine gE_YF (X := D.X z H) hI rfl rfl (wpE_mono (P1.stops O S hj a d) (fun _ _ q => q.elim) fun e s' ⟨z', H', es, G, sx⟩ => ?_)
    subst es
    exact ⟨sx, gE_leaf (.ok (.ret .none)) (hk _ _ _ ⟨rfl, z', H', rfl, G⟩)⟩
  | succ m ih =>
    intro hm z H pins gs2 j hj a d
    refine gE_YF (X := D.X z H) hI rfl rfl (wpE_mono (P1.nexts O S hj a d) (fun r s' ⟨v, z', H', u, gs2', er, es, G, ru, rp, d'⟩ => ?_) fun _ _ q => q.elim)
    subst es
    refine ⟨v, er, d'.obj.typeIs, ?_⟩
    refine wpE_mono (wpE_unG (E := nE) (Q := fun _ s => ∃ h', GObj h' a2 C.g (some 1) ∧ (∀ x o, x ≠ a2 → z'.heap.get? x = some o → h'.get? x = some o) ∧ s = { z' with heap := h' }) G.un (wpAny_slept d'.obj fun h' g1 kp => ⟨h', by
      have e : (if true = true then j.getD 0 + 1 else j.getD 0 - 1) = (1 : Int) := by
        rw [if_pos rfl]
        cases j with
        | none => rfl
        | some i => rw [hj i rfl]; rfl
      rw [e] at g1
      exact g1, kp, rfl⟩)) (fun _ s3 ⟨z3, u3, es3, g3, h', gob, kp, ez⟩ => ?_) fun _ _ ⟨_, _, _, q⟩ => q
    subst es3 ez
    obtain ⟨o, ho, hn, _⟩ := gob.number
    refine ⟨o, _, ho, hn, fun k2 l2 p2 hk2 => ?_⟩
    refine ⟨P1.S_iff.mpr ⟨⟨_, _, _, _, rfl, rfl, rfl⟩, fun zw Hw pinsw gsw aw dw => ?_⟩, { z' with heap := h' }, H', u, gs2', rfl, G.post S.toSub0 a.pa d'.ha kp, ru, rp, d'.but S gob kp⟩
    refine goE_susp ?_
    rw [hk2]
    refine gE_bind0 hI (wpE_mono (wpE_unG (E := nE) (Q := fun _ s => ∃ h', GObj h' a2 C.g (some 0) ∧ (∀ x o, x ≠ a2 → zw.heap.get? x = some o → h'.get? x = some o) ∧ s = { zw with heap := h' }) aw.un (wpAny_slept dw.obj fun h' g1 kp => ⟨h', g1, kp, rfl⟩)) (fun _ s4 ⟨z4, u4, es4, g4, h4, gob4, kp4, ez4⟩ => ?_) fun _ _ ⟨_, _, _, q⟩ => q)
    subst es4 ez4
    refine gE_again (plainId_quiet plain_yf _) ?_
    have main := ih (Nat.le_of_succ_le hm) { zw with heap := h4 } Hw pinsw gsw (some 0) (fun i e => by cases e; rfl) (aw.but O S.toSub0 dw.ha kp4) (dw.but S gob4 kp4)
    refine gE_mono main (fun v s5 gs5 q => ?_) fun r s5 q => ?_
    · cases m with
      | zero => exact q.elim
      | succ m =>
        obtain ⟨q1, z5, H5, u5, gs5', q2, q3, q4⟩ := q
        exact ⟨q1, z5, H5, u5, gs5', q2, q3.pre S.toSub0 kp4, q4⟩
    · cases m with
      | zero =>
        obtain ⟨q1, z5, H5, q2, q3⟩ := q
        exact ⟨q1, z5, H5, q2, q3.pre S.toSub0 kp4⟩
      | succ m => exact q.elim
theorem P1.sleeps (O : D.Ok) (S : D.Sub C cd2 a2 it fp tn) (k : Result → Sem PySem.Fin) (l : List Value) (p : Pos)
    (hk : ∀ Y R s, R (.ok (.ret .none)) s → gE (model D.P D.w) D.A D.g Y R (.func (defBody s_flat_poses) D.env) [] (k (.ok (.ret .none))) s) {m : Nat} (hm : m ≤ 2 ^ D.n) {k2 : Resume → Sem PySem.Fin} {l2 : List Value} {p2 : Pos}
    (hk2 : k2 (.send .none) = (Builtin.Generator.sleptOver (.ref a2) false >>= fun _ => (.pure (.again (YF a2)) : Sem PySem.Fin))) : D.S C a2 fp tn m (.suspended k2 l2 (YF a2) p2 [.ret k none false l (.func (defBody s_flat_poses) D.env) p []] true) := by
  have hI : InG D.A (YF a2) [.ret k none false l (.func (defBody s_flat_poses) D.env) p []] (D.A.deeper D.env).in1 := by
    have := (inG_func (A := D.A) (body := defBody s_flat_poses) (env := D.env)).call (c' := YF a2) (h := none) (kf := k) (gg := false) (l := l) (p := p) (by intro x; cases x)
    rw [Around.under_plainId plain_yf] at this
    exact this
  refine P1.S_iff.mpr ⟨⟨_, _, _, _, rfl, rfl, rfl⟩, fun zw Hw pinsw gsw aw dw => ?_⟩
  refine goE_susp ?_
  rw [hk2]
  refine gE_bind0 hI (wpE_mono (wpE_unG (E := nE) (Q := fun _ s => ∃ h', GObj h' a2 C.g (some 0) ∧ (∀ x o, x ≠ a2 → zw.heap.get? x = some o → h'.get? x = some o) ∧ s = { zw with heap := h' }) aw.un (wpAny_slept dw.obj fun h' g1 kp => ⟨h', g1, kp, rfl⟩)) (fun _ s4 ⟨z4, u4, es4, g4, h4, gob4, kp4, ez4⟩ => ?_) fun _ _ ⟨_, _, _, q⟩ => q)
  subst es4 ez4
  refine gE_again (plainId_quiet plain_yf _) ?_
  have main := P1.yf O S k l p hk m hm { zw with heap := h4 } Hw pinsw gsw (some 0) (fun i e => by cases e; rfl) (aw.but O S.toSub0 dw.ha kp4) (dw.but S gob4 kp4)
  refine gE_mono main (fun v s5 gs5 q => ?_) fun r s5 q => ?_
  · cases m with
    | zero => exact q.elim
    | succ m =>
      obtain ⟨q1, z5, H5, u5, gs5', q2, q3, q4⟩ := q
      exact ⟨q1, z5, H5, u5, gs5', q2, q3.pre S.toSub0 kp4, q4⟩
  · cases m with
    | zero =>
      obtain ⟨q1, z5, H5, q2, q3⟩ := q
      exact ⟨q1, z5, H5, q2, q3.pre S.toSub0 kp4⟩
    | succ m => exact q.elim
end
/-- «yield from» over a generator: the statement -/
theorem gE_YieldFrom {prog : Program} {w : World} {A A' : Around} {g : Nat} {Y : Value → Shared → GenState → Prop} {R : Result → Shared → Prop} {c : Code} {fs : List Frame} {s : Shared} {env : Env} {e : Expr} {yp pos : Pos} {K : Flow → Sem PySem.Fin} {Hx : Value → Sem PySem.Fin} {gd : Bool → Bool} {lv : List Value → List Value} (hI : InG A c fs A')
    (h : wpE (model prog w) A' (eval e env) (fun v s1 => s1.TypeIs v "generator" ∧ wpE (model prog w) A' (pyIter v) (fun u s2 => ∃ a, u = .ref a ∧ ∀ (k : Result → Sem PySem.Fin) (p : Pos), k (.ok (.ret .none)) = K .next → gE (model prog w) A g Y R (YF a) (.ret k none (gd false) (lv []) c p [] :: fs) ((model prog w).den (YF a)) s2) nE s1) nE s)
    (hi : interactive env = false := by rfl) : gE (model prog w) A g Y R c fs ((exec (.Expr (.YieldFrom e yp) pos) env).wrap K Hx gd lv) s := by
  rw [exec_Expr env _ pos hi rfl]
  show gE _ A g Y R c fs (.at pos fun _ => ((eval e env >>= fun v => (standAt yp >>= fun _ => yieldFrom env v)) >>= fun x => dropValue (.YieldFrom e yp) pos x).wrap K Hx gd lv) s
  refine gE_at ?_
  rw [Sem.bind_eq_wrap', Sem.bind_eq_wrap', Sem.wrap_wrap, Sem.wrap_wrap]
  refine gE_wrap0 hI (wpE_mono h (fun v s1 ⟨hT, q⟩ => ?_) fun _ _ q => q)
  refine gE_at ?_
  unfold yieldFrom
  refine gE_bindw hI (wpE_pure ?_)
  refine gE_bindw hI (wpE_of (wpAny_typeOf hT ?_))
  rw [if_neg (by decide)]
  refine gE_bindw hI (wpE_holding (wpE_mono q (fun u s2 ⟨a, eu, q⟩ => ?_) fun _ _ q => q))
  subst eu
  exact gE_call fun p => q _ p rfl
end K19
set_option maxHeartbeats 4000000
/-! flat_poses is woken for the first time. -/
namespace K19
open PySem PySem.Spec PyProof.Rows L2
theorem env0_keep {P : Program} {w : World} {K : PySem.W.Frag} {mg : Str → Option Value} {base : Heap} {A : Around} {outer : List Env} {z z' : Shared} {H : Hp} (e : Env0 P w K mg base A outer z H) (k : ∀ b o, z.heap.get? b = some o → z'.heap.get? b = some o) (hb : AllBare z'.gens) (hs : z.heap.objs.size ≤ z'.heap.objs.size) : Env0 P w K mg base A outer z' H := by
  refine ⟨e.frames, e.mod, fun b o q => ⟨k _ _ (e.bs b o q).1, (e.bs b o q).2⟩, Nat.le_trans e.bsz hs, ?_, e.frf, e.hok.kept k, hb⟩
  have all : ∀ l : List Env, z.heap.FunFrames base l → z'.heap.FunFrames base l := by
    intro l
    induction l with
    | nil => intro _; trivial
    | cons env l ih =>
      rintro ⟨a, ⟨L, o, e1, e2, e3, e4⟩, r⟩
      exact ⟨a, ⟨L, o, e1, e2, k _ _ e3, e4⟩, ih r⟩
  exact all _ e.funs
theorem allBare_push {g : Array GenState} {x : GenState} (h : AllBare g) (hx : x.bare = true) : AllBare (g.push x) := fun y hy => by
  rcases Array.mem_push.mp hy with q | q
  · exact h y q
  · rw [q]; exact hx
section
variable {D : P1} {C : P2} {cd2 : Value} {a2 : Addr}
theorem P1.Go.trans {z z1 z2 : Shared} {H H1 H2 : Hp} {pins : List (Addr × Obj)} (a : D.Go z H pins z1 H1) (b : D.Go z1 H1 pins z2 H2) : D.Go z H pins z2 H2 :=
  ⟨b.un, Nat.le_trans a.gs b.gs, b.os.trans a.os, b.bare, un_trunc a.base b.base, a.same.trans b.same, b.hok, b.pin, b.hn, b.ns⟩
theorem P1.root (O : D.Ok) {z : Shared} {H : Hp} {pins : List (Addr × Obj)} {Q : Gm → Prop} (a : D.At z H pins) (fr : FrG D.K NF (defScope s_flat_poses) D.L z H Q) : ∃ σ g, Inv (D.X z H) pins σ H z ∧ Ty D.K g σ H ∧ Q g := by
  obtain ⟨m, σ, g, ns, hm, hl, ty, q⟩ := fr
  have I0 : Inv (D.X z H) [] σ H z := inv_root rfl (fun _ => rfl) gs_flat_poses.nc O.room.hd a.env0 O.bL O.fL a.hn ns hm hl
  exact ⟨σ, g, I0.pins_of a.pin, ty, q⟩
/-- the delegate's first value -/
theorem P1.first (O : D.Ok) (S : D.Sub0 C cd2 a2) {z : Shared} {H : Hp} {pins : List (Addr × Obj)} (a : D.At z H pins) (hgen : z.gens[C.g]? = some (.fresh (.func pfBody C.env))) (hobj : GObj z.heap a2 C.g none) (ha2 : H a2 = none) (hnC : H C.L = none)
    (fr : C.Fr z H (fun g => g = gm0 NP [dUs [(0, 1), (0, -1)], .int C.n])) :
    wpE (model D.P D.w) (D.A.deeper D.env).in1 (callSpecial? (.ref a2) "__next__") (fun r s' => ∃ v it fp tn m z' H' u gs2', r = some v ∧ m + 1 = 2 ^ D.n ∧ D.Sub C cd2 a2 it fp tn ∧ s' = un D.f0 z' ∧ D.Go z H pins z' H' ∧ RelV u v ∧ Rp D.K H' u (dUs (poseOf D.n 0)) ∧ Dg C a2 fp tn m gs2' none z' H') nE (un D.f0 z) := by
  obtain ⟨c1, c2, c3, c4, c5, c6, c7, c8, CA, CO, fs⟩ := S.eqs
  obtain ⟨o2, e2, num, hd2⟩ := hobj.number
  refine P1.ask O S a hgen hobj ha2 hnC (fun i e => by cases e) ⟨fun q => (by cases q), fun q => (by cases q)⟩ fr (pins2 := (a2, o2) :: pins) ⟨o2, e2, rfl⟩ (Q := fun r s' => ∃ v it fp tn m z' H' u gs2', r = some v ∧ m + 1 = 2 ^ D.n ∧ D.Sub C cd2 a2 it fp tn ∧ s' = un D.f0 z' ∧ D.Go z H pins z' H' ∧ RelV u v ∧ Rp D.K H' u (dUs (poseOf D.n 0)) ∧ Dg C a2 fp tn m gs2' none z' H')
    (Y2 := fun v s' gs' => ∃ it fp tn m, m + 1 = 2 ^ C.n ∧ C.It it fp tn ∧ C.S fp tn m gs' ∧ ∃ z' H' u, s' = un C.f0 z' ∧ C.Go (z.setGen C.g .running) H ((a2, o2) :: pins) z' H' ∧ RelV u v ∧ Rp C.K H' u (dUs (poseOf C.n 0)) ∧ C.Fr z' H' (PfG C.n) ∧ TnF fp tn (2 ^ C.n - m) z' H') (R2 := fun _ _ => False) (fun zr er ar => ?_) (fun v s1 gs' ⟨it, fp, tn, m, hm, J, q1, z', H', u, q2, G, q4, q5, q6, q7⟩ => ?_) fun r s1 q => q.elim
  · subst er
    have go := P2.fresh S.ok ar fun b hb => by
      rw [c7] at hb
      rcases List.mem_cons.mp hb with rfl | hb
      · exact ⟨_, List.mem_cons_self, rfl⟩
      · rw [← a.pa] at hb
        obtain ⟨q, hq, e⟩ := List.mem_map.mp hb
        exact ⟨q, List.mem_cons_of_mem _ hq, e⟩
    rw [c1, c2] at go
    rw [← c6]
    exact go
  · have U : UnOk D.f0 z' := by rw [← c6]; exact G.un
    have sh' := (S_sh q1).ng
    have hok := G.hok
    rw [c1, c2] at hok
    rw [c6] at q2
    subst q2
    have lt : C.g < z'.gens.size := by
      have h1 : C.g < z.gens.size := (Array.getElem?_eq_some_iff.mp hgen).1
      have h2 := G.gs
      rw [GenW.setGen_size] at h2
      exact Nat.lt_of_lt_of_le h1 h2
    obtain ⟨p1, p2, p3, p4, p5⟩ := G.pin (a2, o2) List.mem_cons_self
    refine ⟨v, it, fp, tn, m, z'.setGen C.g gs', H', u, gs', rfl, by rw [← c8]; exact hm, ⟨S, J⟩, (un_set S.f0).symm, ?_, q4, by rw [c3, c8] at q5; exact q5, ⟨?_, q1, ⟨q7.tn, q7.fn⟩, q6, ?_, p2, G.hn⟩⟩
    · exact P1.go12 (zr := z.setGen C.g .running) (z' := z') (z'' := z'.setGen C.g gs') O S a (fun x o _ e => e) rfl (by rw [GenW.setGen_size]; exact Nat.le_refl _) G (fun p hp => List.mem_cons_of_mem _ hp) (fun x o _ e => e) rfl (by rw [GenW.setGen_size]; exact Nat.le_refl _) (U.set S.f0 sh'.1) (allBare_set G.bare sh'.2.1) hok
    · show (z'.gens.setIfInBounds C.g gs')[C.g]? = some gs'
      rw [Array.getElem?_setIfInBounds, if_pos rfl, if_pos lt]
    · obtain ⟨o, nm, qn, ho, r⟩ := hobj
      rw [e2] at ho
      cases ho
      exact ⟨_, nm, qn, p1, r⟩
/-- woken for the first time -/
theorem P1.fresh (O : D.Ok) {z : Shared} {H : Hp} {pins : List (Addr × Obj)} {bs : List Bar} (hg : D.g < z.gens.size) (a : D.At z H pins) (fr : FrG D.K NF (defScope s_flat_poses) D.L z H (fun g => g = gm0 NF [dA bs D.n])) :
    goE (model D.P D.w) D.A D.g (.fresh (.func (defBody s_flat_poses) D.env)) (fun v s' gs' => ∃ C cd2 a2 it fp tn m gs2', m + 1 = 2 ^ D.n ∧ D.Sub C cd2 a2 it fp tn ∧ D.S C a2 fp tn m gs' ∧ ∃ z' H' u, s' = un D.f0 z' ∧ D.Go z H pins z' H' ∧ RelV u v ∧ Rp D.K H' u (dUs (poseOf D.n 0)) ∧ Dg C a2 fp tn m gs2' (some 1) z' H') (fun _ _ => False) (un D.f0 z) := by
  obtain ⟨σ, g, I, ty, rfl⟩ := P1.root O a fr
  have hI : InG D.A (.func (defBody s_flat_poses) D.env) [] (D.A.deeper D.env) := inG_func
  refine goE_fresh (gE_func fun Hx => ?_)
  show gE _ _ _ _ _ _ _ ((execs [.Expr (.YieldFrom fpV (yldP (expV fpY))) (expP fpY)] D.env).wrap _ _ _ _) _
  rw [execs_cons_wrap]
  refine gE_YieldFrom hI ?_
  obtain ⟨fd, F⟩ := f_poses_from O.tx
  obtain ⟨cd2, made⟩ := gen_made (P := D.P) (w := D.w) F gs_poses_from
  have bnd := F.bindsN bd_poses_from
  obtain ⟨tl, hta, htq⟩ := fp_args O.tx D.cd D.A D.outer D.L z H (P := D.P) (w := D.w) (mg := D.mg) (base := D.base)
  have args := htq H _ bs D.n (show (gm0 NF [dA bs D.n])[0]? = some (some (dA bs D.n)) from rfl)
  have call : wpE (model D.P D.w) (D.A.deeper D.env) (eval fpV D.env) (fun v s1 => ∃ z2 z3 H1 us vs a2, v = .ref a2 ∧ s1 = un D.f0 z3 ∧ UnOk D.f0 z2 ∧ UnOk D.f0 z3 ∧ z.gens.size ≤ z2.gens.size ∧ Inv (D.X z H) pins σ H1 z2 ∧ Same H H1 ∧ Vals vs us ∧ RpL D.K H1 vs [dUs [(0, 1), (0, -1)], .int D.n] ∧
      GenMade z2 z3 z2.heap.objs.size a2 z2.gens.size (.func pfBody (envOfC "poses_from" (defScope s_poses_from) z2.heap.objs.size (He.ga D.K "poses_from") cd2)) (bindL (envOfC "poses_from" (defScope s_poses_from) z2.heap.objs.size (He.ga D.K "poses_from") cd2).kindOf ((["choices", "letters"] : List Str).zip us) fun _ => none)) nE (un D.f0 z) := by
    rw [fp_call]
    refine callName2 (X := D.X z H) (Qa := fun vs H1 => Same H H1 ∧ RpL D.K H1 vs [dUs [(0, 1), (0, -1)], .int D.n]) rfl (g_poses_from O.tx) F.kp hta I a.un (args σ H (Same.refl _) ty _ fun vs H1 e r => ⟨e, r⟩) fun z2 us vs H1 U2 gz I2 rv ⟨sm, rp⟩ => ?_
    have hl : us.length = (["choices", "letters"] : List Str).length := by rw [← rv.length, rp.length]; rfl
    have hb := bnd z2 us I2.kIn (by simpa using hl)
    rw [List.append_nil] at hb
    refine codeE_mono (codeE_un U2 (made (D.A.deeper D.env) z2 ⟨us, []⟩ us ((O.room.mono (by decide : 1 ≤ 17)).deeper D.env).depth I2.kIn I2.nolimit hl hb)) fun r s' ⟨z3, U3, e3, a2, er, G⟩ => ?_
    subst er
    exact ⟨z2, z3, H1, us, vs, a2, rfl, e3, U2, U3, gz, I2, sm, rv, rp, G⟩
  refine wpE_mono call (fun v s1 ⟨z2, z3, H1, us, vs, a2, ev, e3, U2, U3, gz, I2, sm, rv, rp, G⟩ => ?_) fun _ _ q => q
  subst ev e3
  have isg : GObj z3.heap a2 z2.gens.size none := GObj.of G.obj
  refine ⟨isg.typeIs, wpE_mono (wpE_unG U3 (wpAny_pyIter_gen (E := nE) (Q := fun u s => u = .ref a2 ∧ s = z3) G.obj ⟨rfl, rfl⟩)) (fun u s2 ⟨z4, _, e4, _, eu, ez⟩ => ?_) fun _ _ ⟨_, _, _, q⟩ => q⟩
  subst e4 eu ez
  refine ⟨a2, rfl, fun k p hk0 => ?_⟩
  -- the delegate's place
  have L1lt : D.L < z2.heap.objs.size := I2.lt
  have ltA : ∀ x ∈ pins, x.1 < z2.heap.objs.size := fun x hx => Heap.lt_size (I2.pin x (List.mem_append_right _ hx)).1
  have baseO : (D.two cd2 z2.heap.objs.size a2 z2.gens.size).Ok := ⟨O.tx, Nat.le_trans O.bL (Nat.le_of_lt L1lt), fun b hb => by
    have hb : b ∈ frs (D.env :: D.outer) := hb
    rw [frs_cons (L := D.L) rfl] at hb
    rcases List.mem_cons.mp hb with rfl | hb
    · exact L1lt
    · exact Nat.lt_trans (O.fL b hb) L1lt, O.room.hd, O.n4, by
    have r1 : Room 16 (D.A.deeper D.env) := Room.deeper O.room _
    have r2 : Room 15 (D.A.deeper D.env).in1 := Room.in1 r1
    have r3 : Room 14 (D.A.deeper D.env).in1.in1 := Room.in1 r2
    exact (Room.deeper r3 _).mono (by decide)⟩
  have S : D.Sub0 (D.two cd2 z2.heap.objs.size a2 z2.gens.size) cd2 a2 := ⟨rfl, L1lt, G.lt, U2.top, fun b hb => by
    rw [← a.pa] at hb
    obtain ⟨q, hq, rfl⟩ := List.mem_map.mp hb
    exact Nat.ne_of_lt (ltA q hq), fun b hb => by
    rw [← a.pa] at hb
    obtain ⟨q, hq, rfl⟩ := List.mem_map.mp hb
    exact Nat.ne_of_lt (Nat.lt_trans (ltA q hq) G.lt), Nat.ne_of_gt (Nat.lt_of_lt_of_le hg gz), baseO⟩
  have B3 : AllBare z4.gens := by rw [G.gens]; exact allBare_push I2.bare rfl
  have sz : z2.heap.objs.size ≤ z4.heap.objs.size := by rw [G.top]; exact Nat.le_succ_of_le (Nat.le_of_lt G.lt)
  have ns4 : ∃ m, z4.heap.Ns D.L m := by
    obtain ⟨m, ns, _⟩ := I2.loc
    exact ⟨m, ns.keeps G.keep⟩
  have pin4 : D.Pn z4 H1 pins := fun q hq => by
    obtain ⟨x1, x2⟩ := I2.pin q (List.mem_append_right _ hq)
    exact ⟨G.keep _ _ x1, x2⟩
  have At4 : D.At z4 H1 pins := ⟨env0_keep (env0_of I2 a.env0) G.keep B3 sz, U3, I2.free, ns4, pin4, a.pa⟩
  have Go4 : D.Go z H pins z4 H1 := ⟨U3, by rw [G.gens, Array.size_push]; exact Nat.le_succ_of_le gz, G.os.trans I2.os, B3, un_post (fun x o _ e => G.keep _ _ e) I2.base, sm, I2.hok.kept G.keep, pin4, I2.free, ns4⟩
  have hgen : z4.gens[z2.gens.size]? = some (.fresh (.func pfBody (D.two cd2 z2.heap.objs.size a2 z2.gens.size).env)) := by
    rw [G.gens]
    exact Array.getElem?_push_size ..
  have fr4 : (D.two cd2 z2.heap.objs.size a2 z2.gens.size).Fr z4 H1 (fun g => g = gm0 NP [dUs [(0, 1), (0, -1)], .int D.n]) :=
    frG_made (ps := ["choices", "letters"]) rfl sc_poses_from.nd gs_poses_from.par rp.length rv rp (fun y q => q) G.ns
  have hk : ∀ Y R s, R (.ok (.ret .none)) s → gE (model D.P D.w) D.A D.g Y R (.func (defBody s_flat_poses) D.env) [] (k (.ok (.ret .none))) s := fun Y R s h => by
    rw [hk0]
    exact gE_end (.ok (.ret .none)) h
  have hI2 : InG D.A (YF a2) [.ret k none (id false) (id []) (.func (defBody s_flat_poses) D.env) p []] (D.A.deeper D.env).in1 := by
    have := (inG_func (A := D.A) (body := defBody s_flat_poses) (env := D.env)).call (c' := YF a2) (h := none) (kf := k) (gg := false) (l := []) (p := p) (by intro x; cases x)
    rw [Around.under_plainId plain_yf] at this
    exact this
  refine gE_YF (X := D.X z H) hI2 rfl rfl (wpE_mono (P1.first O S At4 hgen isg (I2.hok.fresh (Nat.le_of_lt G.lt)) (I2.hok.fresh (Nat.le_refl _)) fr4) (fun r s' ⟨v, it, fp, tn, m, z', H', u, gs2', er, hm, SS, es, G', ru, rp', d'⟩ => ?_) fun _ _ q => q.elim)
  subst es
  refine ⟨v, er, d'.obj.typeIs, ?_⟩
  refine wpE_mono (wpE_unG (M := model D.P D.w) (E := nE) (Q := fun _ s => ∃ h', GObj h' a2 z2.gens.size (some 1) ∧ (∀ x o, x ≠ a2 → z'.heap.get? x = some o → h'.get? x = some o) ∧ s = { z' with heap := h' }) G'.un (wpAny_slept d'.obj fun h' g1 kp => ⟨h', g1, kp, rfl⟩)) (fun _ s3 ⟨z5, u5, es5, g5, h', gob, kp, ez⟩ => ?_) fun _ _ ⟨_, _, _, q⟩ => q
  subst es5 ez
  obtain ⟨o, ho, hn, _⟩ := gob.number
  refine ⟨o, _, ho, hn, fun k2 l2 p2 hk2 => ?_⟩
  refine ⟨_, cd2, a2, it, fp, tn, m, gs2', hm, SS, ?_, { z' with heap := h' }, H', u, rfl, Go4.trans (G'.post S a.pa d'.ha kp), ru, rp', d'.but SS gob kp⟩
  exact P1.sleeps O SS k [] p hk (by omega) hk2
end
end K19
set_option maxHeartbeats 4000000
/-! flat_at walks over flat_poses. -/
namespace K19
open PySem PySem.Spec PyProof.Rows L2
theorem setGen_same {z : Shared} {g : Nat} {x : GenState} (h : z.gens[g]? = some x) : z.setGen g x = z := by
  obtain ⟨lt, e⟩ := Array.getElem?_eq_some_iff.mp h
  unfold Shared.setGen
  have : z.gens.setIfInBounds g x = z.gens := by
    apply Array.ext_getElem?
    intro i
    rw [Array.getElem?_setIfInBounds]
    by_cases q : g = i
    · subst q
      rw [if_pos rfl, if_pos lt, h]
    · rw [if_neg q]
  rw [this]
theorem FrG.keepX {K : PySem.W.Frag} {N : List Str} {scope : Scope} {L : Addr} {z z' : Shared} {H H' : Hp} {Q : Gm → Prop} (h : FrG K N scope L z H Q) (k : ∀ o, z.heap.get? L = some o → z'.heap.get? L = some o) (e : Same H H') : FrG K N scope L z' H' Q := by
  obtain ⟨m, σ, g, ⟨o, es, ep, ho, r⟩, a, b, c, d⟩ := h
  exact ⟨m, σ, g, ⟨o, es, ep, k o ho, r⟩, a, b, c.mono e, d⟩
/-- flat_at's loop over the generator of flat_poses at a1: what is fixed -/
structure FaC (D : P1) (X : Cx) (dp : Dl) (pins : List (Addr × Obj)) (a1 : Addr) : Prop where
  ok : D.Ok
  P : D.P = X.prog
  w : D.w = X.w
  K : D.K = X.K
  mg : D.mg = X.mg
  bs : D.base = X.base
  A : D.A = X.A.in1
  outer : D.outer = X.stack
  calm : X.A.handled = none
  room : X.A.depth < recursionLimit
  stk : X.stack = X.env :: X.outer ∧ X.env.frame = some X.env.locals
  ex : X.ex = []
  cells : X.env.cells = []
  pn : X.pn = []
  xe : X.xe = nE
  s0 : X.s_0.heap.objs.size ≤ D.L
  lL : X.env.locals < D.L
  pl : ∀ p ∈ dp ++ pins, p.1 < D.L
  la : D.L < a1
  PA : D.PA = a1 :: (dp ++ pins).map (·.1)
  fg : D.f0 D.g = none
/-- the generators' own objects -/
structure Pv (D : P1) (a1 : Addr) (C : P2) (cd2 : Value) (a2 it : Addr) (fp : List Addr) (tn : Nat → Heap → Prop) (gs1 gs2 : GenState) (m : Nat) (z : Shared) (H : Hp) : Prop where
  sub : D.Sub C cd2 a2 it fp tn
  s1 : D.S C a2 fp tn m gs1
  s2 : C.S fp tn m gs2
  tn : TnF fp tn (2 ^ C.n - m) z H
  fr : C.Fr z H (PfG C.n)
  obj : GObj z.heap a2 C.g (some 1)
  ha : H a2 = none
  hC : H C.L = none
  hL : H D.L = none
  ns : ∃ m, z.heap.Ns D.L m
  ob1 : GObj z.heap a1 D.g none
  h1 : H a1 = none
def prA (D : P1) (a1 : Addr) (C : P2) (a2 : Addr) (fp : List Addr) : List Addr := D.L :: a1 :: C.L :: a2 :: fp
section
variable {D : P1} {X : Cx} {dp : Dl} {pins : List (Addr × Obj)} {a1 : Addr} {C : P2} {cd2 : Value} {a2 it : Addr} {fp : List Addr} {tn : Nat → Heap → Prop} {gs1 gs2 : GenState} {m : Nat} {z z' : Shared} {H H' : Hp} {σ : L2.St}
theorem Pv.keep (p : Pv D a1 C cd2 a2 it fp tn gs1 gs2 m z H) (k : ∀ b ∈ prA D a1 C a2 fp, ∀ o, z.heap.get? b = some o → z'.heap.get? b = some o) (hn : ∀ b ∈ prA D a1 C a2 fp, H' b = none) (e : Same H H') : Pv D a1 C cd2 a2 it fp tn gs1 gs2 m z' H' := by
  have i1 : D.L ∈ prA D a1 C a2 fp := List.mem_cons_self
  have i2 : a1 ∈ prA D a1 C a2 fp := List.mem_cons_of_mem _ List.mem_cons_self
  have i3 : C.L ∈ prA D a1 C a2 fp := List.mem_cons_of_mem _ (List.mem_cons_of_mem _ List.mem_cons_self)
  have i4 : a2 ∈ prA D a1 C a2 fp := List.mem_cons_of_mem _ (List.mem_cons_of_mem _ (List.mem_cons_of_mem _ List.mem_cons_self))
  have i5 : ∀ b ∈ fp, b ∈ prA D a1 C a2 fp := fun b hb => List.mem_cons_of_mem _ (List.mem_cons_of_mem _ (List.mem_cons_of_mem _ (List.mem_cons_of_mem _ hb)))
  refine ⟨p.sub, p.s1, p.s2, ⟨p.sub.It.T.keep _ _ _ p.tn.tn fun b hb o q => k b (i5 b hb) o q, fun b hb => hn b (i5 b hb)⟩, ?_, p.obj.keeps (k _ i4), hn _ i4, hn _ i3, hn _ i1, ?_, p.ob1.keeps (k _ i2), hn _ i2⟩
  · exact FrG.keepX p.fr (k _ i3) e
  · obtain ⟨mm, o, es, ep, ho, r⟩ := p.ns
    exact ⟨mm, o, es, ep, k _ i1 _ ho, r⟩
theorem Pv.objs (p : Pv D a1 C cd2 a2 it fp tn gs1 gs2 m z H) : ∀ b ∈ prA D a1 C a2 fp, ∃ o, z.heap.get? b = some o ∧ ∀ v, o.data ≠ .cell v := by
  intro b hb
  unfold prA at hb
  simp only [List.mem_cons] at hb
  rcases hb with rfl | rfl | rfl | rfl | hb
  · obtain ⟨mm, o, es, ep, ho, hd, _⟩ := p.ns
    exact ⟨o, ho, fun v q => by rw [hd] at q; cases q⟩
  · obtain ⟨o, ho, _, hd⟩ := p.ob1.number
    exact ⟨o, ho, hd⟩
  · obtain ⟨mm, _, _, ⟨o, es, ep, ho, hd, _⟩, _⟩ := p.fr
    exact ⟨o, ho, fun v q => by rw [hd] at q; cases q⟩
  · obtain ⟨o, ho, _, hd⟩ := p.obj.number
    exact ⟨o, ho, hd⟩
  · exact p.sub.It.T.obj _ _ p.tn.tn b hb
theorem Pv.free (p : Pv D a1 C cd2 a2 it fp tn gs1 gs2 m z H) : ∀ b ∈ prA D a1 C a2 fp, H b = none := by
  intro b hb
  unfold prA at hb
  simp only [List.mem_cons] at hb
  rcases hb with rfl | rfl | rfl | rfl | hb
  · exact p.hL
  · exact p.h1
  · exact p.hC
  · exact p.ha
  · exact p.tn.fn b hb
theorem Pv.ge (F : FaC D X dp pins a1) (p : Pv D a1 C cd2 a2 it fp tn gs1 gs2 m z H) : ∀ b ∈ prA D a1 C a2 fp, D.L ≤ b := by
  intro b hb
  unfold prA at hb
  simp only [List.mem_cons] at hb
  have l1 := p.sub.lt
  have l2 := p.sub.la
  rcases hb with rfl | rfl | rfl | rfl | hb
  · exact Nat.le_refl _
  · exact Nat.le_of_lt F.la
  · exact Nat.le_of_lt l1
  · exact Nat.le_of_lt (Nat.lt_trans l1 l2)
  · exact Nat.le_of_lt (Nat.lt_trans l1 (p.sub.It.lt b hb))
theorem FaC.fpk (F : FaC D X dp pins a1) (I : Inv X (dp ++ pins) σ H z) {b : Addr} (hb : D.L ≤ b) (hn : H b = none) : FpOk X (dp ++ pins) H b :=
  ⟨hn, Nat.ne_of_gt (Nat.lt_of_lt_of_le F.lL hb), fun q => by
    have h1 : b ∈ frs D.outer := by
      rw [F.outer, F.stk.1, frs_cons F.stk.2]
      exact List.mem_cons_of_mem _ q
    exact absurd (F.ok.fL b h1) (Nat.not_lt.mpr hb), .inr (Nat.le_trans F.s0 hb), fun x c q => (by rw [F.cells] at q; cases q), fun p hp e => by
    rw [F.pn, List.nil_append] at hp
    exact absurd (F.pl p hp) (Nat.not_lt.mpr (by rw [e]; exact hb))⟩
/-- the walker, behind a turn of the generator -/
theorem FaC.inv (F : FaC D X dp pins a1) {zr : Shared} {pinsD : List (Addr × Obj)} (I : Inv X (dp ++ pins) σ H z) (hz : zr.heap = z.heap ∧ zr.os = z.os) (G : D.Go zr H pinsD z' H') {gg : Array GenState} (hg : AllBare gg) : Inv X (dp ++ pins) σ H' { z' with gens := gg } := by
  have base := G.base
  rw [hz.1, F.outer] at base
  have hok := G.hok
  rw [F.P, F.w] at hok
  have lt : ∀ {x : Addr} {o : Obj}, z.heap.get? x = some o → x ∉ (List.range z.heap.objs.size).filter (fun b => decide (D.L ≤ b)) → (trunc z.heap D.L).get? x = some o := fun {x o} e h => by
    have l1 := Heap.lt_size e
    have l2 : x < D.L := by
      rcases Nat.lt_or_ge x D.L with q | q
      · exact q
      · exact absurd (List.mem_filter.mpr ⟨List.mem_range.mpr l1, by simpa using q⟩) h
    rw [trunc_get l2]
    exact e
  refine I.call' (ch := (List.range z.heap.objs.size).filter fun b => decide (D.L ≤ b)) (by show z'.os = z.os; rw [G.os, hz.2]) ⟨fun b o e n nf nx => base.keep b o (lt e nx) n nf (by simp), fun b o e n nf nx => base.slot b o (lt e nx) n nf (by simp), fun b o e n nx => base.free b o (lt e nx) n (by simp), fun b o e nx => base.there b o (lt e nx) (by simp), base.tups, base.frzs, base.tbls⟩ hok hg fun b hb => ?_
  have hb2 : D.L ≤ b := by simpa using (List.mem_filter.mp hb).2
  refine ⟨.inr (Nat.le_trans F.s0 hb2), Nat.ne_of_gt (Nat.lt_of_lt_of_le F.lL hb2), fun x c q => (by rw [F.cells] at q; cases q), fun p hp e => ?_⟩
  rw [F.pn, List.nil_append] at hp
  exact absurd (F.pl p hp) (Nat.not_lt.mpr (by rw [e]; exact hb2))
/-- the generator may be woken -/
theorem FaC.at (F : FaC D X dp pins a1) (I : Inv X (dp ++ pins) σ H z) (U : UnOk D.f0 z) (hL : H D.L = none) (ns : ∃ m, z.heap.Ns D.L m) (ob1 : GObj z.heap a1 D.g none) (h1 : H a1 = none) : ∃ o1, z.heap.get? a1 = some o1 ∧ D.At z H ((a1, o1) :: (dp ++ pins)) := by
  obtain ⟨o1, e1, _, hd1⟩ := ob1.number
  have fs : frs D.outer = X.env.locals :: X.fs := by rw [F.outer, F.stk.1, frs_cons F.stk.2]
  refine ⟨o1, e1, ?_, U, hL, ns, ?_, by rw [F.PA]; rfl⟩
  · rw [F.P, F.w, F.K, F.mg, F.bs, F.A, F.outer]
    have e0 := I.env0
    exact ⟨e0.frames, e0.mod, e0.bs, e0.bsz, e0.funs, e0.frf, e0.hok, e0.bare⟩
  · intro p hp
    rw [fs]
    rcases List.mem_cons.mp hp with rfl | hp
    · refine ⟨e1, h1, Nat.ne_of_gt F.la, fun q => ?_, hd1⟩
      rw [← fs] at q
      exact absurd (F.ok.fL _ q) (Nat.not_lt.mpr (Nat.le_of_lt F.la))
    · obtain ⟨q1, q2, q3, q4, q5⟩ := I.pin p (List.mem_append_right _ hp)
      exact ⟨q1, q2, Nat.ne_of_lt (F.pl p hp), fun y => (List.mem_cons.mp y).elim q3 q4, q5⟩
end
/-- both generators sleep; m poses are to come -/
def FaS (D : P1) (X : Cx) (dp : Dl) (pins : List (Addr × Obj)) (a1 : Addr) (m : Nat) (σ : L2.St) (H : Hp) (s : Shared) : Prop :=
  ∃ C cd2 a2 it fp tn gs1 gs2 z, s = un (hideF (hideF D.f0 D.g gs1) C.g gs2) z ∧ UnOk (hideF (hideF D.f0 D.g gs1) C.g gs2) z ∧ Inv X (dp ++ pins) σ H z ∧ Pv D a1 C cd2 a2 it fp tn gs1 gs2 m z H
theorem sh1.ng {a : Addr} {gs : GenState} (h : sh1 a gs) : ngS gs = true ∧ isSusp gs = true := by
  obtain ⟨k, l, p, fs, rfl, q, _⟩ := h
  exact ⟨q, rfl⟩
theorem S1_sh {D : P1} {C : P2} {a2 : Addr} {fp : List Addr} {tn : Nat → Heap → Prop} {m : Nat} {gs : GenState} (h : D.S C a2 fp tn m gs) : sh1 a2 gs := (P1.S_iff.mp h).1
section
variable {D : P1} {X : Cx} {dp : Dl} {pins : List (Addr × Obj)} {a1 : Addr} {C : P2} {cd2 : Value} {a2 it : Addr} {fp : List Addr} {tn : Nat → Heap → Prop} {gs1 gs2 : GenState} {m : Nat} {z zr z' : Shared} {H H' : Hp} {σ : L2.St}
theorem FaS.mk (F : FaC D X dp pins a1) {o1 : Obj} (I : Inv X (dp ++ pins) σ H z) (hz : zr.heap = z.heap ∧ zr.os = z.os) (ob1 : GObj z.heap a1 D.g none) (e1 : z.heap.get? a1 = some o1) (G : D.Go zr H ((a1, o1) :: (dp ++ pins)) z' H') (lt : D.g < zr.gens.size) (S : D.Sub C cd2 a2 it fp tn) (q1 : D.S C a2 fp tn m gs1) (d : Dg C a2 fp tn m gs2 (some 1) z' H') :
    FaS D X dp pins a1 m σ H' ((un D.f0 z').setGen D.g gs1) := by
  have lt' : D.g < z'.gens.size := Nat.lt_of_lt_of_le lt G.gs
  have n1 := (S1_sh q1).ng
  have n2 := (S_sh d.slp).ng
  have ltC : C.g < z'.gens.size := (Array.getElem?_eq_some_iff.mp d.gen).1
  have fC : hideF D.f0 D.g gs1 C.g = none := by
    unfold hideF
    rw [if_neg S.ng]
    exact S.f0
  have gA : (z'.setGen D.g (stk gs1)).gens[C.g]? = some gs2 := by
    show (z'.gens.setIfInBounds D.g (stk gs1))[C.g]? = _
    rw [Array.getElem?_setIfInBounds, if_neg (Ne.symm S.ng)]
    exact d.gen
  have ltA : C.g < (z'.setGen D.g (stk gs1)).gens.size := by rw [GenW.setGen_size]; exact ltC
  have e2 : (un (hideF D.f0 D.g gs1) (z'.setGen D.g (stk gs1))).setGen C.g gs2 = un (hideF D.f0 D.g gs1) (z'.setGen D.g (stk gs1)) := setGen_same (by rw [un_get, gA, Option.map_some, fC]; rfl)
  obtain ⟨p1, p2, p3, p4, p5⟩ := G.pin (a1, o1) List.mem_cons_self
  refine ⟨C, cd2, a2, it, fp, tn, gs1, gs2, (z'.setGen D.g (stk gs1)).setGen C.g (stk gs2), ?_, (G.un.hide lt' n1.2).hide ltA n2.2.2, ?_, ?_⟩
  · rw [un_hide lt', ← e2, un_hide ltA]
  · exact F.inv I hz G (allBare_set (allBare_set G.bare (stk_bare _)) (stk_bare _))
  · refine ⟨S, q1, d.slp, ⟨d.tn.tn, d.tn.fn⟩, d.fr, d.obj, d.ha, d.hn, G.hn, G.ns, ?_, p2⟩
    obtain ⟨o, nm, qn, ho, r⟩ := ob1
    rw [e1] at ho
    cases ho
    exact ⟨_, nm, qn, p1, r⟩
theorem nextE {prog : Program} {w : World} {A : Around} {s : Shared} {a : Addr} {Q : Option Value → Shared → Prop} (h : wpE (model prog w) A (callSpecial? (.ref a) "__next__") (fun r s' => ∃ v, r = some v ∧ Q (some v) s') (fun e s' => StopX e s'.heap ∧ Q none s') s) : wpE (model prog w) A (pyNext (.ref a)) Q nE s := by
  unfold pyNext
  refine wpE_bind (wpE_attempt (wpE_mono h (fun r s' ⟨v, er, q⟩ => ?_) fun e s' ⟨sx, q⟩ => ?_))
  · subst er
    exact wpE_pure q
  · obtain ⟨b, o, vs, rfl, hoa, hcls, hdat, h5⟩ := sx
    show wpE _ _ (isInstance (.ref b) (.type "StopIteration") >>= _) _ _ s'
    refine wpE_bind (wpE_of (wpAny_isInstance (T := "StopIteration") (b := true) ⟨_, hoa, hcls⟩ isSubtype_stop ?_))
    exact wpE_pure q
theorem FaS.wake (F : FaC D X dp pins a1) {s : Shared} (h : FaS D X dp pins a1 m σ H s) : wpE (model X.prog X.w) X.A (pyNext (.ref a1)) (fun r s1 => match m with
    | 0 => r = none ∧ ∃ z' H', s1 = un D.f0 z' ∧ UnOk D.f0 z' ∧ Inv X (dp ++ pins) σ H' z' ∧ Same H H'
    | m + 1 => ∃ v u H', r = some v ∧ RelV u v ∧ Rp X.K H' u (dUs (poseOf D.n (2 ^ D.n - (m + 1)))) ∧ Same H H' ∧ FaS D X dp pins a1 m σ H' s1) nE s := by
  obtain ⟨C, cd2, a2, it, fp, tn, gs1, gs2, z, rfl, U, I, p⟩ := h
  have S := p.sub
  have n1 := (S1_sh p.s1).ng
  have n2 := (S_sh p.s2).ng
  have f1 : hideF (hideF D.f0 D.g gs1) C.g gs2 D.g = some gs1 := by
    unfold hideF
    rw [if_neg (Ne.symm S.ng), if_pos rfl]
  have lt1 : D.g < z.gens.size := (Array.getElem?_eq_some_iff.mp (U.dom _ _ f1).2).1
  have f2 : hideF (hideF D.f0 D.g gs1) C.g gs2 C.g = some gs2 := by
    unfold hideF
    rw [if_pos rfl]
  have lt2 : C.g < z.gens.size := (Array.getElem?_eq_some_iff.mp (U.dom _ _ f2).2).1
  have hgs : (un (hideF (hideF D.f0 D.g gs1) C.g gs2) z).gens[D.g]? = some gs1 := by
    rw [un_get, (U.dom _ _ f1).2, Option.map_some, f1]
    rfl
  have fs2 : showF (hideF (hideF D.f0 D.g gs1) C.g gs2) D.g C.g = some gs2 := by
    unfold showF
    rw [if_neg S.ng]
    exact f2
  have fe : showF (showF (hideF (hideF D.f0 D.g gs1) C.g gs2) D.g) C.g = D.f0 := by
    funext i
    unfold showF hideF
    by_cases q1 : i = C.g
    · rw [if_pos q1, q1, S.f0]
    · rw [if_neg q1]
      by_cases q2 : i = D.g
      · rw [if_pos q2, q2, F.fg]
      · rw [if_neg q2, if_neg q1, if_neg q2]
  have er : (un (hideF (hideF D.f0 D.g gs1) C.g gs2) z).setGen D.g .running = un D.f0 ((z.setGen D.g .running).setGen C.g gs2) := by
    rw [un_show, un_show_self fs2, fe]
  have Ur : UnOk D.f0 ((z.setGen D.g .running).setGen C.g gs2) := by
    have := (U.show (g := D.g) (X := .running) rfl).show (g := C.g) (X := gs2) n2.1
    rw [fe] at this
    exact this
  have Ir : Inv X (dp ++ pins) σ H ((z.setGen D.g .running).setGen C.g gs2) := ⟨I.ok, I.os, allBare_set (allBare_set I.bare rfl) n2.2.1, I.base, I.loc, I.cell, I.free, I.freeC, I.pin, I.hok, I.len⟩
  obtain ⟨o1, e1, At⟩ := F.at Ir Ur p.hL p.ns p.ob1 p.h1
  have lt2' : C.g < (z.setGen D.g .running).gens.size := by rw [GenW.setGen_size]; exact lt2
  have dg : Dg C a2 fp tn m gs2 (some 1) ((z.setGen D.g .running).setGen C.g gs2) H := ⟨by
    show ((z.setGen D.g .running).gens.setIfInBounds C.g gs2)[C.g]? = _
    rw [Array.getElem?_setIfInBounds, if_pos rfl, if_pos lt2'], p.s2, ⟨p.tn.tn, p.tn.fn⟩, p.fr, p.obj, p.ha, p.hC⟩
  have go := (P1.S_iff.mp p.s1).2 _ H _ gs2 At dg
  rw [F.P, F.w, F.A] at go
  have ltr : D.g < ((z.setGen D.g .running).setGen C.g gs2).gens.size := by rw [GenW.setGen_size, GenW.setGen_size]; exact lt1
  have nolim : z.heap.NoLimit := I.nolimit
  refine nextE (wpE_nextG F.calm nolim F.room p.ob1 (fun i e => by cases e) hgs ?_ ⟨fun q => by rw [q] at n1; exact absurd n1.2 (by decide), fun q => by rw [q] at n1; exact absurd n1.2 (by decide)⟩)
  rw [er]
  refine goE_mono go (fun v s1 gs' q => ?_) fun r s1 q => ?_
  · cases m with
    | zero => exact q.elim
    | succ m =>
      obtain ⟨q1, z', H', u, gs2', rfl, G, ru, rp, d'⟩ := q
      exact ⟨v, rfl, v, u, H', rfl, ru, by rw [← F.K]; exact rp, G.same, FaS.mk (zr := (z.setGen D.g .running).setGen C.g gs2) F I ⟨rfl, rfl⟩ p.ob1 e1 G ltr S q1 d'⟩
  · cases m with
    | succ m => exact q.elim
    | zero =>
      obtain ⟨e, z', H', rfl, G⟩ := q
      refine ⟨e, fun ex h' sx kp => ⟨sx, rfl, { z'.setGen D.g .finished with heap := h' }, H', ?_, ?_, ?_, G.same⟩⟩
      · have e3 : (un D.f0 z').setGen D.g .finished = un D.f0 (z'.setGen D.g .finished) := (un_set F.fg).symm
        rw [e3]
        rfl
      · have U2 : UnOk D.f0 (z'.setGen D.g .finished) := G.un.set F.fg rfl
        exact ⟨U2.dom, U2.ng⟩
      · have I2 := F.inv (zr := (z.setGen D.g .running).setGen C.g gs2) I ⟨rfl, rfl⟩ G (gg := (z'.setGen D.g .finished).gens) (allBare_set G.bare rfl)
        exact I2.kept (t' := z'.toks) kp
/-- .. for the first time -/
theorem fa_first (F : FaC D X dp pins a1) {bs : List Bar} (I : Inv X (dp ++ pins) σ H z) (U : UnOk D.f0 z) (hgen : z.gens[D.g]? = some (.fresh (.func (defBody s_flat_poses) D.env))) (ob1 : GObj z.heap a1 D.g none) (h1 : H a1 = none) (hL : H D.L = none) (fr : FrG D.K NF (defScope s_flat_poses) D.L z H (fun g => g = gm0 NF [dA bs D.n])) :
    wpE (model X.prog X.w) X.A (pyNext (.ref a1)) (fun r s1 => ∃ v u H' m, m + 1 = 2 ^ D.n ∧ r = some v ∧ RelV u v ∧ Rp X.K H' u (dUs (poseOf D.n 0)) ∧ Same H H' ∧ FaS D X dp pins a1 m σ H' s1) nE (un D.f0 z) := by
  have lt1 : D.g < z.gens.size := (Array.getElem?_eq_some_iff.mp hgen).1
  have er : (un D.f0 z).setGen D.g .running = un D.f0 (z.setGen D.g .running) := (un_set F.fg).symm
  have Ur : UnOk D.f0 (z.setGen D.g .running) := U.set F.fg rfl
  have Ir : Inv X (dp ++ pins) σ H (z.setGen D.g .running) := ⟨I.ok, I.os, allBare_set I.bare rfl, I.base, I.loc, I.cell, I.free, I.freeC, I.pin, I.hok, I.len⟩
  obtain ⟨o1, e1, At⟩ := F.at Ir Ur hL (let ⟨m, _, _, ns, _⟩ := fr; ⟨m, ns⟩) ob1 h1
  have ltr : D.g < (z.setGen D.g .running).gens.size := by rw [GenW.setGen_size]; exact lt1
  have go := P1.fresh F.ok ltr At fr
  rw [F.P, F.w, F.A] at go
  refine nextE (wpE_nextG F.calm I.nolimit F.room ob1 (fun i e => by cases e) (un_at U F.fg hgen) ?_ ⟨fun q => (by cases q), fun q => (by cases q)⟩)
  rw [er]
  refine goE_mono go (fun v s1 gs' ⟨C, cd2, a2, it, fp, tn, m, gs2', hm, S, q1, z', H', u, es, G, ru, rp, d'⟩ => ?_) fun r s1 q => q.elim
  subst es
  exact ⟨v, rfl, v, u, H', m, hm, rfl, ru, by rw [← F.K]; exact rp, G.same, FaS.mk (zr := z.setGen D.g .running) F I ⟨rfl, rfl⟩ ob1 e1 G ltr S q1 d'⟩
/-- what the walker does in between -/
theorem FaS.step (F : FaC D X dp pins a1) {α : Type} {s : Shared} {t : Sem α} {Qa : List (Addr × Obj) → Nat → α → Shared → Prop} (h : FaS D X dp pins a1 m σ H s)
    (ht : ∀ pn z, Inv X ((dp ++ pins) ++ pn) σ H z → wpAny (model X.prog X.w) X.A t (Qa pn m) nE z) :
    wpE (model X.prog X.w) X.A t (fun a s' => ∃ C cd2 a2 it fp tn gs1 gs2 z z', s' = un (hideF (hideF D.f0 D.g gs1) C.g gs2) z' ∧ UnOk (hideF (hideF D.f0 D.g gs1) C.g gs2) z' ∧ Pv D a1 C cd2 a2 it fp tn gs1 gs2 m z H ∧ Qa (pinsAt (prA D a1 C a2 fp) z.heap) m a z') nE s := by
  obtain ⟨C, cd2, a2, it, fp, tn, gs1, gs2, z, rfl, U, I, p⟩ := h
  have I2 := I.pinned (fp := prA D a1 C a2 fp) (fun b hb => F.fpk I (Pv.ge F p b hb) (p.free b hb)) p.objs
  exact wpE_mono (wpE_unG U (ht _ z I2)) (fun a s' ⟨z', u', e', _, q⟩ => ⟨C, cd2, a2, it, fp, tn, gs1, gs2, z, z', e', u', p, q⟩) fun _ _ ⟨_, _, _, q⟩ => q
theorem FaS.again {σ' : L2.St} (p : Pv D a1 C cd2 a2 it fp tn gs1 gs2 m z H) (I : Inv X ((dp ++ pins) ++ pinsAt (prA D a1 C a2 fp) z.heap) σ' H' z') (U : UnOk (hideF (hideF D.f0 D.g gs1) C.g gs2) z') (e : Same H H') : FaS D X dp pins a1 m σ' H' (un (hideF (hideF D.f0 D.g gs1) C.g gs2) z') := by
  have pk : ∀ b ∈ prA D a1 C a2 fp, ∀ o, z.heap.get? b = some o → z'.heap.get? b = some o ∧ H' b = none := fun b hb o q =>
    let r := I.pin (b, o) (List.mem_append_right _ (List.mem_append_right _ (mem_pinsAt hb q)))
    ⟨r.1, r.2.1⟩
  exact ⟨C, cd2, a2, it, fp, tn, gs1, gs2, z', rfl, U, I.unpinned, p.keep (fun b hb o q => (pk b hb o q).1) (fun b hb => let ⟨o, q, _⟩ := p.objs b hb; (pk b hb o q).2) e⟩
end
end K19
set_option maxHeartbeats 4000000
/-! flat_at, at level two. -/
namespace K19
open PySem PySem.Spec PyProof.Rows L2
theorem fAns_some {n c : Nat} {r : List Rat} {len : Rat} (hc : c < 2 ^ n) (h0 : ∀ c', c' < c → flatHit r len (poseOf n c') = false) (h : flatHit r len (poseOf n c) = true) : flatAns n r len = some (poseOf n c) := by
  unfold flatAns posesL
  rw [List.find?_map]
  have : (List.range (2 ^ n)).find? (flatHit r len ∘ poseOf n) = some c := by
    rw [List.find?_range_eq_some]
    refine ⟨h, List.mem_range.mpr hc, fun j hj => ?_⟩
    show (!flatHit r len (poseOf n j)) = true
    rw [h0 j hj]
    rfl
  rw [this]
  rfl
theorem fAns_none {n : Nat} {r : List Rat} {len : Rat} (h0 : ∀ c, c < 2 ^ n → flatHit r len (poseOf n c) = false) : flatAns n r len = none := by
  unfold flatAns posesL
  rw [List.find?_map]
  have : (List.range (2 ^ n)).find? (flatHit r len ∘ poseOf n) = none := by
    rw [List.find?_eq_none]
    intro c hc
    have := h0 c (List.mem_range.mp hc)
    show ¬ flatHit r len (poseOf n c) = true
    rw [this]
    decide
  rw [this]
  rfl
theorem SlpD.more {dp : Dl} {q : Addr × Obj} {G : GenState} (h : SlpD dp G) : SlpD (q :: dp) G := by
  cases G with
  | suspended k l c p fs cl =>
    rcases h with h | ⟨h, a, as, kw, o, n, e1, e2, e3⟩
    · exact .inl h
    · exact .inr ⟨h, a, as, kw, o, n, e1, List.mem_cons_of_mem _ e2, e3⟩
  | _ => trivial
/-- what flat_at's loop knows -/
structure FaG (n : Nat) (bs : List Bar) (r : List Rat) (len : Rat) (g : Gm) : Prop where
  l4 : g.length = 4
  ar : g[0]? = some (some (dA bs n))
  ro : g[1]? = some (some (dqs r))
  le : g[2]? = some (some (dq len))
theorem FaG.put {n : Nat} {bs : List Bar} {r : List Rat} {len : Rat} {g : Gm} {d : D} (G : FaG n bs r len g) : FaG n bs r len (g.set 3 (some d)) := ⟨by rw [List.length_set]; exact G.l4, by rw [List.getElem?_set_ne (by decide)]; exact G.ar, by rw [List.getElem?_set_ne (by decide)]; exact G.ro, by rw [List.getElem?_set_ne (by decide)]; exact G.le⟩
section
variable {P : Program} {w : World} {K : PySem.W.Frag} {mg : Str → Option Value} {base : Heap} {cd : Value} {A : Around} {outer : List Env} {z0 : Shared} {H00 : Hp}
variable {n : Nat} {bs : List Bar} {r : List Rat} {len : Rat} {dp : Dl} {pins : List (Addr × Obj)} {a1 : Addr} {D : P1} {Dd : Ends} {Hs : Hp} {fh : Nat → Option GenState}
/-- a pose has come -/
theorem fa_got (T : TX K mg) (F : FaC D (cxA P w K mg base cd A outer z0 H00) dp pins a1) (hr : Room 19 (A.deeper (envOfC "flat_at" (defScope s_flat_at) z0.heap.objs.size (He.ga K "flat_at") cd))) (n4 : n ≤ 4) (hl : r.length = n + 1) (hw : wtR r ≤ 2500) (hdok : ∀ i G, D.f0 i = some G → SlpD dp G) (hdg : ∀ q ∈ dp, ∃ n, q.2.genNumber? = some n)
    {m c : Nat} (hc : m + 1 + c = 2 ^ n) (hfree : ∀ c', c' < c → flatHit r len (poseOf n c') = false) {v : Value} {u : V} {H : Hp} {σ : L2.St} {g : Gm} {s : Shared} (ru : RelV u v) (rp : Rp K H u (dUs (poseOf n c))) (ty : Ty K g σ H) (G : FaG n bs r len g) (sm : Same Hs H)
    (h : FaS D (cxA P w K mg base cd A outer z0 H00) dp pins a1 m σ H s) (hrt : ∀ v H', flatAns n r len = some (poseOf n c) → Same Hs H' → Rp K H' v (dUs (poseOf n c)) → Dd.rt v H') :
    wpE (model P w) (cxA P w K mg base cd A outer z0 H00).A (letOwnedTupleGo (forT faFor) (.ref a1) v) (fun _ s2 => wpE (model P w) (cxA P w K mg base cd A outer z0 H00).A (assign (forT faFor) (cxA P w K mg base cd A outer z0 H00).env v) (fun _ s3 => wpE (model P w) (cxA P w K mg base cd A outer z0 H00).A (execs (forB faFor) (cxA P w K mg base cd A outer z0 H00).env) (fun f s4 => match f with
        | .next => ∃ σ' H' g', FaS D (cxA P w K mg base cd A outer z0 H00) dp pins a1 m σ' H' s4 ∧ Ty K g' σ' H' ∧ FaG n bs r len g' ∧ Same Hs H' ∧ ∀ c', c' < c + 1 → flatHit r len (poseOf n c') = false
        | .cont => False
        | .brk => False
        | .ret v => SP2 (cxA P w K mg base cd A outer z0 H00) pins Dd (.ret v) s4) nE s3) nE s2) nE s := by
  have e0 : letOwnedTupleGo (forT faFor) (.ref a1) v = pure () := rfl
  rw [e0]
  refine wpE_pure ?_
  have lt : c < 2 ^ n := by omega
  have po := poseOf_ok n c
  refine wpE_mono (h.step F (Qa := fun pn m _ z' => Inv (cxA P w K mg base cd A outer z0 H00) ((dp ++ pins) ++ pn) (σ.set 3 (some u)) H z') fun pn z I => ?_) (fun _ s3 ⟨C, cd2, a2, it, fp, tn, gs1, gs2, z, z', e, U, p, I⟩ => ?_) fun _ _ q => q
  · refine thn ((fa_tgt cd A outer z0 H00).run _ z σ H u v (fun σ' H' => σ' = σ.set 3 (some u) ∧ H' = H) I ru ⟨rfl, rfl⟩) fun _ s' ⟨σ', H', I', e1, e2⟩ => ?_
    subst e1 e2
    exact I'
  subst e
  have h3 := FaS.again p I U (Same.refl _)
  obtain ⟨t, ht, hq⟩ := fa_in T cd A outer z0 H00 hr (P := P) (w := w) (mg := mg) (base := base)
  have body := hq H (g.set 3 (some (dUs (poseOf n c)))) r len (poseOf n c) (by rw [po.1, hl]) (by rw [po.1]; exact n4) hw po.2 G.put.ro G.put.le (by rw [List.getElem?_set_self (by rw [G.l4]; decide)])
  refine wpE_mono (h3.step F (Qa := fun pn m f s' => SP (cxA P w K mg base cd A outer z0 H00) ((dp ++ pins) ++ pn) { nx := fun σ' H' => ∃ g', Ty K g' σ' H' ∧ g' = g.set 3 (some (dUs (poseOf n c))) ∧ Same H H' ∧ flatHit r len (poseOf n c) = false, rt := fun v H' => ∃ d', Rp K H' v d' ∧ d' = dUs (poseOf n c) ∧ Same H H' ∧ flatHit r len (poseOf n c) = true } f s') fun pn z I => ?_) (fun f s4 ⟨C, cd2, a2, it, fp, tn, gs1, gs2, z, z', e, U, p, q⟩ => ?_) fun _ _ q => q
  · exact ht.run _ z _ H _ I (body _ _ (ty.set 3 rp) ⟨fun g s H t q => ⟨g, t, q⟩, fun d v H r q => ⟨d, r, q⟩, fun _ _ _ _ q => q, fun _ _ _ _ q => q⟩)
  subst e
  cases f with
  | brk => obtain ⟨_, _, _, q⟩ := q; exact q
  | cont => obtain ⟨_, _, _, q⟩ := q; exact q
  | next =>
    obtain ⟨σ', H', I', g', ty', eg, sm', hit⟩ := q
    subst eg
    refine ⟨σ', H', _, FaS.again p I' U sm', ty', G.put, sm.trans sm', fun c' hc' => ?_⟩
    rcases Nat.lt_or_ge c' c with q | q
    · exact hfree c' q
    · have : c' = c := by omega
      rw [this]
      exact hit
  | ret v =>
    obtain ⟨vv, σ', H', I', rv, d', rp', ed, sm', hit⟩ := q
    subst ed
    obtain ⟨o2, e2, num, _⟩ := p.obj.number
    have i4 : a2 ∈ prA D a1 C a2 fp := List.mem_cons_of_mem _ (List.mem_cons_of_mem _ (List.mem_cons_of_mem _ List.mem_cons_self))
    refine ⟨_, (a2, o2) :: dp, z', rfl, ⟨U, fun i G q => ?_, fun q hq => ?_⟩, vv, σ', H', I'.pins_of fun q hq => ?_, rv, hrt vv H' (fAns_some lt hfree hit) (sm.trans sm') rp'⟩
    · unfold hideF at q
      by_cases q1 : i = C.g
      · rw [if_pos q1] at q
        cases q
        obtain ⟨k, l, cc, pp, fs, e, _⟩ := S_sh p.s2
        subst e
        exact .inl rfl
      · rw [if_neg q1] at q
        by_cases q2 : i = D.g
        · rw [if_pos q2] at q
          cases q
          obtain ⟨k, l, pp, fs, e, _, hg⟩ := S1_sh p.s1
          subst e
          exact .inr ⟨hg, a2, _, _, o2, _, rfl, List.mem_cons_self, num⟩
        · rw [if_neg q2] at q
          exact (hdok i G q).more
    · rcases List.mem_cons.mp hq with rfl | hq
      · exact ⟨_, num⟩
      · exact hdg q hq
    · rcases List.mem_cons.mp hq with rfl | hq
      · exact I'.pin _ (List.mem_append_right _ (List.mem_append_right _ (mem_pinsAt i4 e2)))
      · exact I'.pin q (List.mem_append_right _ (List.mem_append_left _ hq))
/-- the loop -/
theorem fa_loop (T : TX K mg) (F : FaC D (cxA P w K mg base cd A outer z0 H00) dp pins a1) (hr : Room 19 (A.deeper (envOfC "flat_at" (defScope s_flat_at) z0.heap.objs.size (He.ga K "flat_at") cd))) (hn : D.n = n) (n4 : n ≤ 4) (hl : r.length = n + 1) (hw : wtR r ≤ 2500) (hdok : ∀ i G, D.f0 i = some G → SlpD dp G) (hdg : ∀ q ∈ dp, ∃ n, q.2.genNumber? = some n)
    (hrt : ∀ us v H', flatAns n r len = some us → Same Hs H' → Rp K H' v (dUs us) → Dd.rt v H') (hnx : flatAns n r len = none → ∀ σ' H' g', Ty K g' σ' H' → FaG n bs r len g' → Same Hs H' → Dd.nx σ' H')
    {z : Shared} {H : Hp} {σ : L2.St} {g : Gm} (I : Inv (cxA P w K mg base cd A outer z0 H00) (dp ++ pins) σ H z) (U : UnOk D.f0 z) (hgen : z.gens[D.g]? = some (.fresh (.func (defBody s_flat_poses) D.env))) (ob1 : GObj z.heap a1 D.g none) (h1 : H a1 = none) (hL : H D.L = none) (fr : FrG D.K NF (defScope s_flat_poses) D.L z H (fun g => g = gm0 NF [dA bs D.n]))
    (ty : Ty K g σ H) (G : FaG n bs r len g) (sm : Same Hs H) :
    codeE (model P w) (cxA P w K mg base cd A outer z0 H00).A (.forLoop (forT faFor) (.ref a1) (forB faFor) [] (cxA P w K mg base cd A outer z0 H00).env) (fun rr s' => match rr with | .ok f => SP2 (cxA P w K mg base cd A outer z0 H00) pins Dd f s' | .error e => False) (un D.f0 z) := by
  have tailR : ∀ {f : Flow} {s : Shared}, SP2 (cxA P w K mg base cd A outer z0 H00) pins Dd f s → SP2 (cxA P w K mg base cd A outer z0 H00) pins Dd f s := fun h => h
  refine codeE_for (fun μ s => (μ = 2 ^ n ∧ s = un D.f0 z) ∨ (μ < 2 ^ n ∧ ∃ σ H g, FaS D (cxA P w K mg base cd A outer z0 H00) dp pins a1 μ σ H s ∧ Ty K g σ H ∧ FaG n bs r len g ∧ Same Hs H ∧ ∀ c, c < 2 ^ n - μ → flatHit r len (poseOf n c) = false)) ?_ (2 ^ n) _ (.inl ⟨rfl, rfl⟩)
  rintro μ s (⟨rfl, rfl⟩ | ⟨hμ, σ, H, g, h, ty, G, sm, hfree⟩)
  · refine wpE_mono (fa_first F I U hgen ob1 h1 hL fr) (fun rr s1 ⟨v, u, H', m, hm, er, ru, rp, sm', hS⟩ => ?_) fun _ _ q => q
    subst er
    rw [hn] at hm rp
    refine wpE_mono (fa_got T F hr n4 hl hw hdok hdg (c := 0) (by omega) (fun c' hc' => absurd hc' (Nat.not_lt_zero _)) ru rp (ty.mono sm') G (sm.trans sm') hS (fun v H' e s r => hrt _ v H' e s r)) (fun _ s2 q => ?_) fun _ _ q => q
    refine wpE_mono q (fun _ s3 q => ?_) fun _ _ q => q
    refine wpE_mono q (fun f s4 q => ?_) fun _ _ q => q
    cases f with
    | next =>
      obtain ⟨σ', H2, g', q1, q2, q3, q4, q5⟩ := q
      have e1 : 2 ^ n - m = 0 + 1 := by omega
      exact ⟨m, by omega, .inr ⟨by omega, σ', H2, g', q1, q2, q3, q4, by rw [e1]; exact q5⟩⟩
    | cont => exact q.elim
    | brk => exact q.elim
    | ret v => exact q
  · cases μ with
    | zero =>
      refine wpE_mono (h.wake F) (fun rr s1 ⟨er, z', H', es, U', I', sm'⟩ => ?_) fun _ _ q => q
      subst er es
      exact ⟨D.f0, dp, z', rfl, ⟨U', hdok, hdg⟩, σ, H', I', hnx (fAns_none fun c hc => hfree c (by omega)) σ H' g (ty.mono sm') G (sm.trans sm')⟩
    | succ m =>
      refine wpE_mono (h.wake F) (fun rr s1 ⟨v, u, H', er, ru, rp, sm', hS⟩ => ?_) fun _ _ q => q
      subst er
      rw [hn] at rp
      have e1 : 2 ^ n - (m + 1) + 1 = 2 ^ n - m := by omega
      refine wpE_mono (fa_got T F hr n4 hl hw hdok hdg (c := 2 ^ n - (m + 1)) (by omega) hfree ru rp (ty.mono sm') G (sm.trans sm') hS (fun v H' e s r => hrt _ v H' e s r)) (fun _ s2 q => ?_) fun _ _ q => q
      refine wpE_mono q (fun _ s3 q => ?_) fun _ _ q => q
      refine wpE_mono q (fun f s4 q => ?_) fun _ _ q => q
      cases f with
      | next =>
        obtain ⟨σ', H2, g', q1, q2, q3, q4, q5⟩ := q
        exact ⟨m, by omega, .inr ⟨by omega, σ', H2, g', q1, q2, q3, q4, by rw [← e1]; exact q5⟩⟩
      | cont => exact q.elim
      | brk => exact q.elim
      | ret v => exact q
/-- the statement's reading -/
def tFa (K : PySem.W.Frag) : TS := fun Dd σ H => ∃ n bs r len g, n ≤ 4 ∧ r.length = n + 1 ∧ wtR r ≤ 2500 ∧ Ty K g σ H ∧ FaG n bs r len g ∧ (∀ us v H', flatAns n r len = some us → Same H H' → Rp K H' v (dUs us) → Dd.rt v H') ∧ (flatAns n r len = none → ∀ σ' H' g', Ty K g' σ' H' → FaG n bs r len g' → Same H H' → Dd.nx σ' H')
theorem fa_for (T : TX K mg) (hr : Room 19 (A.deeper (envOfC "flat_at" (defScope s_flat_at) z0.heap.objs.size (He.ga K "flat_at") cd))) : PS2 (cxA P w K mg base cd A outer z0 H00) (.For (forT faFor) (forI faFor) (forB faFor) [] (forP faFor)) (tFa K) := by
  refine ⟨fun pins z σ H Dd fh dp I hd ⟨n, bs, r, len, g, n4, hl, hw, ty, G, hrt, hnx⟩ => ?_⟩
  rw [exec_For]
  refine wpE_bind (wpE_of (wpAny_standAt ?_))
  obtain ⟨fd, F⟩ := f_flat_poses T
  obtain ⟨cd1, made⟩ := gen_made (P := P) (w := w) F gs_flat_poses
  have bnd := F.bindsN bd_flat_poses
  obtain ⟨tl, hta, htq⟩ := fa_args T cd A outer z0 H00 (P := P) (w := w) (mg := mg) (base := base)
  have args := htq H g bs n G.ar
  have call : wpE (model P w) (cxA P w K mg base cd A outer z0 H00).A (eval (forI faFor) (cxA P w K mg base cd A outer z0 H00).env) (fun v s1 => ∃ z2 z3 H1 us vs a1, v = .ref a1 ∧ s1 = un fh z3 ∧ UnOk fh z2 ∧ UnOk fh z3 ∧ Inv (cxA P w K mg base cd A outer z0 H00) (dp ++ pins) σ H1 z2 ∧ Same H H1 ∧ Vals vs us ∧ RpL K H1 vs [dA bs n] ∧
      GenMade z2 z3 z2.heap.objs.size a1 z2.gens.size (.func (defBody s_flat_poses) (envOfC "flat_poses" (defScope s_flat_poses) z2.heap.objs.size (He.ga K "flat_poses") cd1)) (bindL (envOfC "flat_poses" (defScope s_flat_poses) z2.heap.objs.size (He.ga K "flat_poses") cd1).kindOf ((["arms"] : List Str).zip us) fun _ => none)) nE (un fh z) := by
    rw [fa_call]
    refine callName2 (X := cxA P w K mg base cd A outer z0 H00) (Qa := fun vs H1 => Same H H1 ∧ RpL K H1 vs [dA bs n]) rfl (g_flat_poses T) F.kp hta I hd.un (args σ H (Same.refl _) ty _ fun vs H1 e r => ⟨e, r⟩) fun z2 us vs H1 U2 gz I2 rv ⟨sm, rp⟩ => ?_
    have hl : us.length = (["arms"] : List Str).length := by rw [← rv.length, rp.length]; rfl
    have hb := bnd z2 us I2.kIn (by simpa using hl)
    rw [List.append_nil] at hb
    refine codeE_mono (codeE_un U2 (made (cxA P w K mg base cd A outer z0 H00).A z2 ⟨us, []⟩ us hr.depth I2.kIn I2.nolimit hl hb)) fun rr s' ⟨z3, U3, e3, a1, er, Gm⟩ => ?_
    subst er
    exact ⟨z2, z3, H1, us, vs, a1, rfl, e3, U2, U3, I2, sm, rv, rp, Gm⟩
  refine wpE_bind (wpE_mono call (fun v s1 ⟨z2, z3, H1, us, vs, a1, ev, e3, U2, U3, I2, sm, rv, rp, Gm⟩ => ?_) fun _ _ q => q)
  subst ev e3
  refine wpE_bind (wpE_of (wpAny_of_eq (a := .ref a1) (by rfl) ?_))
  refine wpE_bind (wpE_of (wpAny_standAt ?_))
  refine wpE_bind (wpE_holding (wpE_mono (wpE_unG U3 (wpAny_pyIter_gen (E := nE) (Q := fun u s => u = .ref a1 ∧ s = z3) Gm.obj ⟨rfl, rfl⟩)) (fun u s2 ⟨z4, _, e4, _, eu, ez⟩ => ?_) fun _ _ ⟨_, _, _, q⟩ => q))
  subst e4 eu ez
  unfold runOwn
  refine wpE_onRaise (E := nE) (wpE_run (h := none) ?_)
  have ltP : ∀ q ∈ dp ++ pins, q.1 < z2.heap.objs.size := fun q hq => Heap.lt_size (I2.pin q (List.mem_append_right _ hq)).1
  have bsz : base.objs.size ≤ z2.heap.objs.size := Nat.le_trans I2.ok.bsz I2.sz
  have ok1 : (P1.mk P w K mg base cd1 (cxA P w K mg base cd A outer z0 H00).A.in1 (cxA P w K mg base cd A outer z0 H00).stack z2.heap.objs.size z2.gens.size fh n (a1 :: (dp ++ pins).map (·.1))).Ok := ⟨T, bsz, fun b hb => by
    have hb : b ∈ frs (cxA P w K mg base cd A outer z0 H00).stack := hb
    rcases List.mem_cons.mp (I2.stkSub b hb) with rfl | hb
    · exact I2.lt
    · obtain ⟨_, o, ho, _⟩ := I2.ok.funs.mem hb
      exact Nat.lt_of_lt_of_le (Heap.lt_size ho) I2.sz, n4, (Room.in1 hr).mono (by decide)⟩
  have FC : FaC (P1.mk P w K mg base cd1 (cxA P w K mg base cd A outer z0 H00).A.in1 (cxA P w K mg base cd A outer z0 H00).stack z2.heap.objs.size z2.gens.size fh n (a1 :: (dp ++ pins).map (·.1))) (cxA P w K mg base cd A outer z0 H00) dp pins a1 :=
    ⟨ok1, rfl, rfl, rfl, rfl, rfl, rfl, rfl, hr.hd, hr.depth, ⟨rfl, rfl⟩, rfl, rfl, rfl, rfl, I2.sz, I2.lt, ltP, Gm.lt, rfl, U2.top⟩
  have I4 : Inv (cxA P w K mg base cd A outer z0 H00) (dp ++ pins) σ H1 z4 := I2.call' (ch := []) Gm.os (Un.kept Gm.keep) (I2.hok.kept Gm.keep) (by rw [Gm.gens]; exact allBare_push I2.bare rfl) fun b hb => by simp at hb
  have hgen : z4.gens[z2.gens.size]? = some (.fresh (.func (defBody s_flat_poses) (envOfC "flat_poses" (defScope s_flat_poses) z2.heap.objs.size (He.ga K "flat_poses") cd1))) := by
    rw [Gm.gens]
    exact Array.getElem?_push_size ..
  have fr4 : FrG K NF (defScope s_flat_poses) z2.heap.objs.size z4 H1 (fun g => g = gm0 NF [dA bs n]) := frG_made (ps := ["arms"]) rfl sc_flat_poses.nd gs_flat_poses.par rp.length rv rp (fun y q => q) Gm.ns
  refine codeE_mono (fa_loop T FC hr rfl n4 hl hw hd.ok hd.gen (Hs := H) hrt hnx I4 U3 hgen (GObj.of Gm.obj) (I2.hok.fresh (Nat.le_of_lt Gm.lt)) (I2.hok.fresh (Nat.le_refl _)) fr4 (ty.mono sm) G sm) fun rr s' q => ?_
  cases rr with
  | ok f => exact q
  | error e => exact q.elim
end
section
variable {P : Program} {w : World} {K : PySem.W.Frag} {mg : Str → Option Value} {base : Heap}
/-- flat_at -/
theorem ok2_flat_at (T : TX K mg) : ∃ fd, FunD K "flat_at" "flat_at" (defArgs s_flat_at) (defBody s_flat_at) (defScope s_flat_at) [] [] (He.ga K "flat_at") fd ∧ Fn2 P w K mg base 20 (He.ga K "flat_at") fd ["arms", "row", "length"] (spP K r_flatat) := by
  obtain ⟨fd, F⟩ := f_flat_at T
  refine ⟨fd, F, FunD.two F sc_flat_at (fun vs H Q E ⟨ds, d, r, ⟨_, _, _, _, e, _⟩, _⟩ => by rw [r.length, e]; rfl) fun cdv A outer z H vs Q hr ⟨ds, d, rl, ⟨bs, n, r, len, e, n4, hl, hw, ed⟩, hQ⟩ => ?_⟩
  subst e ed
  refine ⟨tSeq (tFa K) (tRet (tC .non)), ?_, ?_⟩
  · show PSs2 _ [.For (forT faFor) (forI faFor) (forB faFor) [] (forP faFor), faRet] _
    exact pss2_cons (fa_for T hr) (PSs.two (fa_ret cdv A outer z H))
  · refine ⟨n, bs, r, len, gm0 NA [dA bs n, dqs r, dq len], n4, hl, hw, Ty.start rl, ⟨rfl, rfl, rfl, rfl⟩, fun us v H' e sm rp => ?_, fun e σ' H' g' _ _ sm => ?_⟩
    · exact hQ v H' sm (by rw [e]; exact rp)
    · exact hQ _ H' sm (by rw [e]; exact .non)
end
end K19
set_option maxHeartbeats 4000000
set_option exponentiation.threshold 20000
namespace K19
open PySem PySem.Spec PyProof.Rows L2
/-! The defs that ask flat_at, at level two. -/
variable {P : Program} {w : World} {K : PySem.W.Frag} {mg : Str → Option Value} {base : Heap}
/-- a def of the module's, at level two -/
structure Cal2 (P : Program) (w : World) (K : PySem.W.Frag) (mg : Str → Option Value) (base : Heap) (k : Nat) (x : Str) (ps : List Str) (sp : Sp) : Prop where
  fn : ∃ fd, Fn2 P w K mg base k (He.ga K x) fd ps sp ∧ Binds K fd ps []
  gl : mg x = some (.ref (He.ga K x))
  kp : PySem.W.keepIn K (.ref (He.ga K x)) = true
section
variable {X : Cx} {k : Nat} {x : Str} {ps : List Str} {sp : Sp} {p pos : Pos} {e : Expr} {es : List Expr} {t : TA}
theorem pe2_cal (C : Cal2 X.prog X.w X.K X.mg X.base k x ps sp) (hr : Room k X.A) (hg : Gl X x) (ha : PA X (e :: es) t) (hstk : X.stack = X.env :: X.outer ∧ X.env.frame = some X.env.locals := by exact ⟨rfl, rfl⟩) (hx : X.xe = nE := by rfl) (hdb : (x == ("__debug__" : Str)) = false := by decide)
    (he : starEach (e :: es) X.env = (false, eval e X.env) :: starEach es X.env := by rfl) (hpl : (backTo pos (starEach es X.env)).any (·.1) = false := by rfl) : PE2 X (.Call (.Name x p) (e :: es) [] pos) (tCall sp [] noE t) := by
  obtain ⟨fd, F, b⟩ := C.fn
  exact pe2_call (E := noE) F hr hg C.gl C.kp b ha hstk hx hdb he hpl
end
/-- one reading or the other -/
def tEi (t u : TE) : TE := fun σ H Q => t σ H Q ∨ u σ H Q
theorem pe2_or {X : Cx} {e : Expr} {t u : TE} (a : PE2 X e t) (b : PE2 X e u) : PE2 X e (tEi t u) := ⟨fun pins z σ H Q fh dp I hd h => h.elim (a.run pins z σ H Q fh dp I hd) (b.run pins z σ H Q fh dp I hd)⟩
theorem yd_orl {R : Hp → Hp → Prop} {K : PySem.W.Frag} {g : Gm} {H : Hp} {d : D} {t u : TE} (h : Yd R K t g H d) : Yd R K (tEi t u) g H d := fun s H1 e ty Q q => .inl (h s H1 e ty Q q)
theorem yd_orr {R : Hp → Hp → Prop} {K : PySem.W.Frag} {g : Gm} {H : Hp} {d : D} {t u : TE} (h : Yd R K u g H d) : Yd R K (tEi t u) g H d := fun s H1 e ty Q q => .inr (h s H1 e ty Q q)
section
variable {x : Str} {st : Stmt} {N ps : List Str} {k : Nat}
/-- THE RULE for a def on plain data -/
theorem cal2_pure {rel : Hp → List D → D → Prop} (F : ∃ fd, FunD K x x (defArgs st) (defBody st) (defScope st) [] [] (He.ga K x) fd) (gl : mg x = some (.ref (He.ga K x))) (S : FnScope N ps (defScope st)) (hb : Bnd x x st ps) (len : ∀ H ds d, rel H ds d → ds.length = ps.length)
    (body : ∀ (cdv : Value) (A : Around) (outer : List Env) (s : Shared) (H : Hp), Room k (A.deeper (envOfC x (defScope st) s.heap.objs.size (He.ga K x) cdv)) →
      ∃ t, PSs2 (cxOf CX0 P w K mg base N x (defScope st) (He.ga K x) cdv A outer s H noE).nox (defBody st) t ∧ ∀ H ds d, rel H ds d → Sd K t (gm0 N ds) H (enP d H)) : Cal2 P w K mg base (k + 1) x ps (spP K rel) := by
  obtain ⟨fd, F⟩ := F
  refine ⟨⟨fd, FunD.two F S (fun vs H Q E ⟨ds, d, r, h, _⟩ => by rw [r.length]; exact len H ds d h) fun cdv A outer z H vs Q hr ⟨ds, d, r, h, hQ⟩ => ?_, F.bindsN hb⟩, gl, F.kp⟩
  obtain ⟨t, ht, hb⟩ := body cdv A outer z H hr
  exact ⟨t, ht, hb H ds d h _ _ (Ty.start r) (fits_p hQ)⟩
theorem cal2_hand {rel : Hp → List D → (D → Hp → Prop) → Prop} (F : ∃ fd, FunD K x x (defArgs st) (defBody st) (defScope st) [] [] (He.ga K x) fd) (gl : mg x = some (.ref (He.ga K x))) (S : FnScope N ps (defScope st)) (hb : Bnd x x st ps) (len : ∀ H ds q, rel H ds q → ds.length = ps.length)
    (body : ∀ (cdv : Value) (A : Around) (outer : List Env) (s : Shared) (H : Hp), Room k (A.deeper (envOfC x (defScope st) s.heap.objs.size (He.ga K x) cdv)) →
      ∃ t, PSs2 (cxOf CX0 P w K mg base N x (defScope st) (He.ga K x) cdv A outer s H noE).nox (defBody st) t ∧ ∀ H ds q, rel H ds q → Sd K t (gm0 N ds) H (enH q H)) : Cal2 P w K mg base (k + 1) x ps (spH K rel) := by
  obtain ⟨fd, F⟩ := F
  refine ⟨⟨fd, FunD.two F S (fun vs H Q E ⟨ds, d, r, h, _⟩ => by rw [r.length]; exact len H ds d h) fun cdv A outer z H vs Q hr ⟨ds, q, r, h, hQ⟩ => ?_, F.bindsN hb⟩, gl, F.kp⟩
  obtain ⟨t, ht, hb⟩ := body cdv A outer z H hr
  exact ⟨t, ht, hb H ds q h _ _ (Ty.start r) ⟨fun g s H' _ z => hQ .non .non H' z.1 .non z.2, fun d v H' rv z => hQ v d H' z.1 rv z.2, fun _ _ _ _ q => q.elim, fun _ _ _ _ q => q.elim⟩⟩
end
theorem ok2_flat_at' (T : TX K mg) (B : BX P w K mg base) : Cal2 P w K mg base 20 "flat_at" ["arms", "row", "length"] (spP K r_flatat) := by
  obtain ⟨fd, F, a⟩ := ok2_flat_at T (P := P) (w := w) (base := base)
  exact ⟨⟨fd, a, F.bindsN bd_flat_at⟩, g_flat_at T, F.kp⟩
theorem ok2_farthest_pose (T : TX K mg) (B : BX P w K mg base) : Cal2 P w K mg base 21 "farthest_pose" ["arms", "one", "other"] (spP K (r_twoN K fun n r => dAns (flatAns n r (hiR r)))) := by
  refine cal2_pure (f_farthest_pose T) (g_farthest_pose T) sc_farthest_pose bd_farthest_pose (fun H ds d ⟨_, _, _, _, _, _, _, _, e, _⟩ => by rw [e]; rfl) fun cdv A outer s H hr => ⟨_, (pss2_cons (PS.two (ps_set (i := 3) sc_farthest_pose.nd rfl (by first | exact Or.inl rfl | exact Or.inr rfl) (pe_calM (ok_Arms_difference_row T B) (c_Arms T) (m_difference_row T) (pv 0) (hr.mono (by decide)) pass1 (pa_cons (pv 1) (pa_cons (pv 2) pa_nil)))))
      (pss2_one (ps2_ret (pe2_cal (ok2_flat_at' T B) (hr.mono (by decide)) rfl (pa_cons (pv 0) (pa_cons (pv 3) (pa_cons (pe_ix (r := rIxT K) ix_tup (pe_cal (ok_far_ends T) (hr.mono (by decide)) rfl pass0 (pa_cons (pv 3) pa_nil)) pe_int (fun _ _ => rfl)) pa_nil))))))), ?_⟩
  rintro H ds d ⟨bs, n, x, k, m, y, j, l, rfl, h, rfl⟩
  refine sd_seq (sd_asg (R := Same) (Same.refl _) (yd_methE (yd_var (d := dA bs n) rfl) (ya_cons (yd_var rfl) (ya_cons (yd_var rfl) ya_nil)) fun H1 e1 => (h.mono e1).diff) fun H1 e1 => ?_)
  exact sd_ret (R := Same) (Same.refl _) (yd_call (ya_cons (yd_var (d := dA bs n) rfl) (ya_cons (yd_var (d := dqs (drow bs n k m j l)) rfl) (ya_cons (yd_ixT (d := dq (hiR (drow bs n k m j l))) (yd_call (ya_cons (yd_var (d := dqs (drow bs n k m j l)) rfl) ya_nil) fun _ _ => h.far) yd_int rfl) ya_nil))) fun _ _ => h.flat _) fun H2 e2 => ⟨rfl, e1.trans e2⟩
theorem ok2_nearest_pose (T : TX K mg) (B : BX P w K mg base) : Cal2 P w K mg base 21 "nearest_pose" ["arms", "one", "other"] (spP K (r_twoN K fun n r => dAns (flatAns n r (loR r)))) := by
  refine cal2_pure (f_nearest_pose T) (g_nearest_pose T) sc_nearest_pose bd_nearest_pose (fun H ds d ⟨_, _, _, _, _, _, _, _, e, _⟩ => by rw [e]; rfl) fun cdv A outer s H hr => ⟨_, (pss2_cons (PS.two (ps_set (i := 3) sc_nearest_pose.nd rfl (by first | exact Or.inl rfl | exact Or.inr rfl) (pe_calM (ok_Arms_difference_row T B) (c_Arms T) (m_difference_row T) (pv 0) (hr.mono (by decide)) pass1 (pa_cons (pv 1) (pa_cons (pv 2) pa_nil)))))
      (pss2_one (ps2_ret (pe2_cal (ok2_flat_at' T B) (hr.mono (by decide)) rfl (pa_cons (pv 0) (pa_cons (pv 3) (pa_cons (pe_ix (r := rIxT K) ix_tup (pe_cal (ok_far_ends T) (hr.mono (by decide)) rfl pass0 (pa_cons (pv 3) pa_nil)) pe_int (fun _ _ => rfl)) pa_nil))))))), ?_⟩
  rintro H ds d ⟨bs, n, x, k, m, y, j, l, rfl, h, rfl⟩
  refine sd_seq (sd_asg (R := Same) (Same.refl _) (yd_methE (yd_var (d := dA bs n) rfl) (ya_cons (yd_var rfl) (ya_cons (yd_var rfl) ya_nil)) fun H1 e1 => (h.mono e1).diff) fun H1 e1 => ?_)
  exact sd_ret (R := Same) (Same.refl _) (yd_call (ya_cons (yd_var (d := dA bs n) rfl) (ya_cons (yd_var (d := dqs (drow bs n k m j l)) rfl) (ya_cons (yd_ixT (d := dq (loR (drow bs n k m j l))) (yd_call (ya_cons (yd_var (d := dqs (drow bs n k m j l)) rfl) ya_nil) fun _ _ => h.far) yd_int rfl) ya_nil))) fun _ _ => h.flat _) fun H2 e2 => ⟨rfl, e1.trans e2⟩
theorem ok2_beyond_pose (T : TX K mg) (B : BX P w K mg base) : Cal2 P w K mg base 21 "beyond_pose" ["arms", "one", "other", "length"] (spP K (r_beyond K)) := by
  refine cal2_pure (f_beyond_pose T) (g_beyond_pose T) sc_beyond_pose bd_beyond_pose (fun H ds d ⟨_, _, _, _, _, _, _, _, _, e, _⟩ => by rw [e]; rfl) fun cdv A outer s H hr => ⟨_, (pss2_cons (PS.two (ps_set (i := 4) sc_beyond_pose.nd rfl (by first | exact Or.inl rfl | exact Or.inr rfl) (pe_calM (ok_Arms_difference_row T B) (c_Arms T) (m_difference_row T) (pv 0) (hr.mono (by decide)) pass1 (pa_cons (pv 1) (pa_cons (pv 2) pa_nil)))))
      (pss2_cons (PS.two (ps_if (pt_not (pt_val (pe_cal (ok_is_from_zero T) (hr.mono (by decide)) rfl pass0 (pa_cons (pv 3) pa_nil)))) (pss_one ps_never) pss_nil))
      (pss2_cons (PS.two (ps_set (i := 5) sc_beyond_pose.nd rfl (by first | exact Or.inl rfl | exact Or.inr rfl) (pe_ix (r := rIxT K) ix_tup (pe_cal (ok_far_ends T) (hr.mono (by decide)) rfl pass0 (pa_cons (pv 4) pa_nil)) pe_int (fun _ _ => rfl))))
      (pss2_one (ps2_ret (pe2_ifExp (PT.two (pt_cmpR op_gt (pe_cal (ok_compare T) (hr.mono (by decide)) rfl pass0 (pa_cons (pv 5) (pa_cons (pv 3) pa_nil))) pe_int (nomark _))) (pe2_cal (ok2_flat_at' T B) (hr.mono (by decide)) rfl (pa_cons (pv 0) (pa_cons (pv 4) (pa_cons (pv 5) pa_nil)))) (PE.two pe_non))))))), ?_⟩
  rintro H ds d ⟨bs, n, x, k, m, y, j, l, len, rfl, h, h0, hb, rfl⟩
  refine sd_seq (sd_asg (R := Same) (Same.refl _) (yd_methE (yd_var (d := dA bs n) rfl) (ya_cons (yd_var rfl) (ya_cons (yd_var rfl) ya_nil)) fun H1 e1 => (h.mono e1).diff) fun H1 e1 => ?_)
  refine sd_seq (sd_ifF (R := Same) (Same.refl _) (yt_not ((yt_B (yd_call (d := .bl (fromZero (dq len))) (ya_cons (yd_var (d := dq len) rfl) ya_nil) fun _ _ => ⟨_, rfl, .inl ⟨rfl, rfl⟩⟩)).is (c := true) (by rw [from_dq]; exact decide_eq_true h0))) fun H2 e2 => sd_next ?_)
  refine sd_seq (sd_asg (R := Same) (d := dq (hiR (drow bs n k m j l))) (Same.refl _) (yd_ixT (yd_call (ya_cons (yd_var (d := dqs (drow bs n k m j l)) rfl) ya_nil) fun _ _ => h.far) yd_int rfl) fun H3 e3 => ?_)
  have n4 := h.G.n4
  have w1 := h.w
  have w2 := drow_wt bs n k m j l
  have w3 := bt_sumq (absR (drow bs n k m j l))
  have w4 := wtR_abs (drow bs n k m j l)
  refine sd_ret (R := Same) (Same.refl _) (yd_if (yt_test (yd_cmp (yd_call (d := .int (cmpR (hiR (drow bs n k m j l)) len)) (ya_cons (yd_var (d := dq (hiR (drow bs n k m j l))) rfl) (ya_cons (yd_var (d := dq len) rfl) ya_nil)) fun _ _ => ⟨_, _, rfl, (show bt (sumq _) + bt _ ≤ 900000 by omega), rfl⟩) yd_int)) (fun z => ?_) fun z => ?_) fun H4 e4 => ⟨rfl, e1.trans (e2.trans (e3.trans e4))⟩
  · have z2 : len < hiR (drow bs n k m j l) := by
      have z := of_decide_eq_true z
      unfold cmpR at z
      split at z
      · omega
      · split at z
        · assumption
        · omega
    rw [if_pos z2]
    exact yd_call (ya_cons (yd_var (d := dA bs n) rfl) (ya_cons (yd_var (d := dqs (drow bs n k m j l)) rfl) (ya_cons (yd_var (d := dq (hiR (drow bs n k m j l))) rfl) ya_nil))) fun _ _ => h.flat _
  · have z2 : ¬ len < hiR (drow bs n k m j l) := fun q => by
      have z := of_decide_eq_false z
      unfold cmpR at z
      rw [if_neg (fun h2 => by have := Rat.not_lt.2 (Rat.le_of_lt q); exact this h2), if_pos q] at z
      omega
    rw [if_neg z2]
    exact yd_non
/-- it is told -/
def r_calledT (K : PySem.W.Frag) : Hp → List D → D → Prop := fun H ds d => ∃ bs n x y z k m j l len, ds = [dA bs n, x, y, z] ∧ z = dq len ∧ Two K H bs n x k m y j l ∧ 0 ≤ len ∧ bt len ≤ 10000 ∧ d = dTold "told" (if len < hiR (drow bs n k m j l) then dAns (flatAns n (drow bs n k m j l) (hiR (drow bs n k m j l))) else .non)
theorem ok2_law_called (T : TX K mg) (B : BX P w K mg base) : Cal2 P w K mg base 22 "_law_called" ["_law_arms", "_law_one", "_law_other", "_law_length"] (spP K (r_calledT K)) := by
  refine cal2_pure (f_law_called T) (g_law_called T) sc_law_called bd_law_called (fun H ds d ⟨_, _, _, _, _, _, _, _, _, _, e, _⟩ => by rw [e]; rfl) fun cdv A outer s H hr => ⟨_, (pss2_cons (PS.two (ps_set (i := 4) sc_law_called.nd rfl (by first | exact Or.inl rfl | exact Or.inr rfl) (pe_tup (pa_cons pe_str (pa_cons pe_non pa_nil)))))
      (pss2_cons (ps2_try (pss2_one (ps2_set (i := 4) sc_law_called.nd rfl (by first | exact Or.inl rfl | exact Or.inr rfl) (pe2_tup (pa2_cons (PE.two pe_str) (pa2_cons (pe2_cal (ok2_beyond_pose T B) (hr.mono (by decide)) rfl (pa_cons (pv 0) (pa_cons (pv 1) (pa_cons (pv 2) (pa_cons (pv 3) pa_nil))))) (PA.two pa_nil)))))))
      (pss2_one (PS.two (ps_ret (pv 4)))))), ?_⟩
  rintro H ds d ⟨bs, n, x, y, z, k, m, j, l, len, rfl, rfl, h, h0, hb, rfl⟩
  refine sd_seq (sd_asg (R := Same) (Same.refl _) (yd_tup (ya_cons yd_str (ya_cons yd_non ya_nil))) fun H1 e1 => ?_)
  refine sd_seq (sd_asg (i := 4) (R := Same) (Same.refl _) (yd_tup (ya_cons yd_str (ya_cons (yd_call (ya_cons (yd_var (i := 0) rfl) (ya_cons (yd_var (i := 1) rfl) (ya_cons (yd_var (i := 2) rfl) (ya_cons (yd_var (i := 3) (d := dq len) rfl) ya_nil)))) fun H2 e2 => ⟨bs, n, x, k, m, y, j, l, len, rfl, h.mono (e1.trans e2), h0, hb, rfl⟩) ya_nil))) fun H2 e2 => ?_)
  exact sd_ret (R := Same) (Same.refl _) (yd_var rfl) fun H3 e3 => ⟨rfl, e1.trans (e2.trans e3)⟩
end K19
set_option maxHeartbeats 4000000
set_option exponentiation.threshold 20000
namespace K19
open PySem PySem.Spec PyProof.Rows L2
variable {P : Program} {w : World} {K : PySem.W.Frag} {mg : Str → Option Value} {base : Heap}
theorem sc_law_limits : FnScope ["_law_hand_here", "_law_bars", "_law_arms", "_law_one", "_law_other", "_law_high", "_law_small", "_law_lengths", "_law_length", "_law_told", "_law_wrong"] ["_law_hand_here", "_law_bars", "_law_arms", "_law_one", "_law_other", "_law_high"] (defScope s_law_limits) := ⟨rfl, rfl, rfl, by decide +kernel, rfl, by decide +kernel, by decide +kernel⟩
theorem bd_law_limits : Bnd "_law_limits" "_law_limits" s_law_limits ["_law_hand_here", "_law_bars", "_law_arms", "_law_one", "_law_other", "_law_high"] := fun _ _ _ _ _ _ us hl => match us, hl with | [_, _, _, _, _, _], _ => rfl
section
variable {g : Gm} {H : Hp} {ta : TA} {q : Addr → List D → Hp → Prop}
/-- a list as it is written, whose items may change the hand -/
theorem zl_lst (h : Za K ta g H fun ds H1 => ds.length ≤ 100000 ∧ ∀ p H2, H1 p = none → Same H1 H2 → q p ds H2) : Zl K (tLst ta) g H q := fun s ty Q k =>
  h s ty _ fun vs ds H1 e rs ⟨hl, z⟩ => ⟨by rw [rs.length]; exact sz_ok hl, fun p hp => k p vs ds _ (e.trans (Kp.of (Same.new hp))) upd_same (rs.mono (Same.new hp)) (z p _ hp (Same.new hp))⟩
theorem zd_ixTakeZ {m : Int} {n : Nat} {a : Addr} {W : XK} {q : D → Hp → Prop} {te : TE} (h : Zl K te g H fun p ds H1 => HandOk a H1 ∧ ¬ InH a H1 p ∧ ds.length = n ∧ ∀ (i : Nat) x H', ds[i]? = some x → Hr a H1 H' → HandOk a H' → q x H') (hg : g[0]? = some (some (.ref a))) (hm : m = n) (h0 : 0 < m := by decide) (h1 : m < 2 ^ 60 := by decide) :
    Zd K (tOp (rIxL K) te (tCall (spH K r_takeH) [] W (tCons (tVar 0) (tCons (tC (.int m)) tNil)))) g H q := fun s ty Q k =>
  h s ty _ fun p us ds H1 e1 hl hv ⟨ok1, np, hn, z⟩ => zd_take (q := fun d H2 => ∃ i : Nat, d = .int (i : Int) ∧ i < ds.length ∧ Hr a H1 H2 ∧ HandOk a H2) (yd_var hg) yd_int ok1 (fun i H2 p1 p2 p3 p4 => ⟨i.toNat, by rw [Int.toNat_of_nonneg p1], by omega, p3, p4⟩) h0 h1 s (ty.kp e1) _ fun v d H2 k2 rv ⟨i, ed, hi, hr, ok2⟩ => by
    subst ed
    cases rv
    obtain ⟨hl2, _⟩ := hr p _ hl np
    obtain ⟨v, hv2, rv⟩ := hv.get (i := i) (List.getElem?_eq_getElem hi)
    refine ⟨p, us, (i : Int), v, rfl, rfl, SqL.of hl2, atI_nat hv2, k v _ H2 (e1.trans k2) (rv.mono k2) ?_⟩
    exact z i _ H2 (List.getElem?_eq_getElem hi) hr ok2
end
/-- what is told of a length -/
def told (r : List Rat) (n : Nat) (len : Rat) : D := if len < 0 then dTold "length" .non else dTold "told" (if len < hiR r then dAns (flatAns n r (hiR r)) else .non)
theorem Ask.calledT {bs : List Bar} {n : Nat} {k : Int} {m : Rat} {j : Int} {l : Rat} {H : Hp} {len : Rat} (A : Ask bs n k m j l) (h : ¬ len < 0) (hb : bt len ≤ 10000) : r_calledT K H [dA bs n, .tup [.int k, dq m], .tup [.int j, dq l], dq len] (told (drow bs n k m j l) n len) := by
  refine ⟨bs, n, _, _, _, k, m, j, l, len, rfl, rfl, A.tt, Rat.not_lt.mp h, hb, ?_⟩
  unfold told
  rw [if_neg h]
theorem Ask.calledB {bs : List Bar} {n : Nat} {k : Int} {m : Rat} {j : Int} {l : Rat} {H : Hp} {len : Rat} (A : Ask bs n k m j l) (h : len < 0) : r_calledB K H [dA bs n, .tup [.int k, dq m], .tup [.int j, dq l], dq len] (told (drow bs n k m j l) n len) := by
  refine ⟨bs, n, _, _, _, rfl, .inl ⟨k, m, j, l, A.tt, .data rfl ?_, ?_⟩⟩
  · rw [from_dq]
    exact decide_eq_false (Rat.not_le.mpr h)
  · unfold told
    rw [if_pos h]
def r_limits (K : PySem.W.Frag) : Hp → List D → (D → Hp → Prop) → Prop := fun H ds q => ∃ a bs n k m j l, ds = [.ref a, dBars bs, dA bs n, .tup [.int k, dq m], .tup [.int j, dq l], dq (hiR (drow bs n k m j l))] ∧ Ask bs n k m j l ∧ HandOk a H ∧ ∀ H', HandOk a H' → q (.bl true) H'
theorem ok2_law_limits (T : TX K mg) (B : BX P w K mg base) : Cal2 P w K mg base 23 "_law_limits" ["_law_hand_here", "_law_bars", "_law_arms", "_law_one", "_law_other", "_law_high"] (spH K (r_limits K)) := by
  refine cal2_hand (f_law_limits T) (g_law_limits T) sc_law_limits bd_law_limits (fun H ds d ⟨_, _, _, _, _, _, _, e, _⟩ => by rw [e]; rfl) fun cdv A outer s H hr => ⟨_, (pss2_cons (PS.two (ps_set (i := 6) sc_law_limits.nd rfl (by first | exact Or.inl rfl | exact Or.inr rfl) (pe_cal (ok_law_ratio T) (hr.mono (by decide)) rfl pass0 (pa_cons pe_int (pa_cons (pe_op op_add pe_int (pe_cal (ok_law_take T) (hr.mono (by decide)) rfl pass0 (pa_cons (pv 0) (pa_cons (pe_op op_pow pe_int pe_int) pa_nil)))) pa_nil)))))
      (pss2_cons (PS.two (ps_set (i := 7) sc_law_limits.nd rfl (by first | exact Or.inl rfl | exact Or.inr rfl) (pe_lst (pa_cons (pv 5) (pa_cons (pe_cal (ok_law_plus T) (hr.mono (by decide)) rfl pass0 (pa_cons (pv 5) (pa_cons (pv 6) pa_nil))) (pa_cons (pe_cal (ok_law_less T) (hr.mono (by decide)) rfl pass0 (pa_cons (pv 5) (pa_cons (pv 6) pa_nil))) (pa_cons (pe_cal (ok_law_above T) (hr.mono (by decide)) rfl pass0 (pa_cons (pv 0) pa_nil)) (pa_cons (pe_tup (pa_cons pe_int (pa_cons pe_int pa_nil))) pa_nil))))))))
      (pss2_cons (ps2_forL rfl (pv 7) (pg_name (i := 8) sc_law_limits.nd rfl (by first | exact Or.inl rfl | exact Or.inr rfl)) (pss2_cons (ps2_set (i := 9) sc_law_limits.nd rfl (by first | exact Or.inl rfl | exact Or.inr rfl) (pe2_or (pe2_cal (ok2_law_called T B) (hr.mono (by decide)) rfl (pa_cons (pv 2) (pa_cons (pv 3) (pa_cons (pv 4) (pa_cons (pv 8) pa_nil))))) (PE.two (pe_cal (ok_law_called T B) (hr.mono (by decide)) rfl pass0 (pa_cons (pv 2) (pa_cons (pv 3) (pa_cons (pv 4) (pa_cons (pv 8) pa_nil))))))))
      (pss2_one (PS.two (ps_if (pt_cmpR op_lt (pe_ix (r := rIxT K) ix_tup (pv 8) pe_int (fun _ _ => rfl)) pe_int (nomark _)) (pss_one (ps_if (pt_cmpR op_ne (pe_ix (r := rIxT K) ix_tup (pv 9) pe_int (fun _ _ => rfl)) pe_str (nomark _)) (pss_one (ps_ret pe_bl)) pss_nil)) (pss_one (ps_if (pt_cmpR op_ne (pe_ix (r := rIxT K) ix_tup (pv 9) pe_int (fun _ _ => rfl)) pe_str (nomark _)) (pss_one (ps_ret pe_bl)) (pss_one (ps_if (pt_not (pt_val (pe_cal (ok_law_below T) (hr.mono (by decide)) rfl pass0 (pa_cons (pv 8) (pa_cons (pv 5) pa_nil))))) (pss_one (ps_if (pt_cmpR op_notN (pe_ix (r := rIxT K) ix_tup (pv 9) pe_int (fun _ _ => rfl)) pe_non (nomark _)) (pss_one (ps_ret pe_bl)) pss_nil)) (pss_one (ps_if (pt_not (pt_val (pe_cal (ok_law_is_pose T) (hr.mono (by decide)) rfl pass0 (pa_cons (pe_ix (r := rIxT K) ix_tup (pv 9) pe_int (fun _ _ => rfl)) (pa_cons (pe_cal (ok_law_most T) (hr.mono (by decide)) rfl pass0 (pa_cons (pv 1) pa_nil)) pa_nil))))) (pss_one (ps_ret pe_bl)) (pss_one (ps_if (pt_not (pt_val (pe_cal (ok_law_below T) (hr.mono (by decide)) rfl pass0 (pa_cons (pe_cal (ok_law_times T) (hr.mono (by decide)) rfl pass0 (pa_cons (pv 8) (pa_cons (pv 8) pa_nil))) (pa_cons (pe_cal (ok_law_square T) (hr.mono (by decide)) rfl pass0 (pa_cons (pe_cal (ok_law_gap T) (hr.mono (by decide)) rfl pass0 (pa_cons (pv 1) (pa_cons (pe_ix (r := rIxT K) ix_tup (pv 9) pe_int (fun _ _ => rfl)) (pa_cons (pv 3) (pa_cons (pv 4) pa_nil))))) pa_nil)) pa_nil))))) (pss_one (ps_ret pe_bl)) pss_nil)))))))))))))
      (pss2_cons (PS.two (ps_set (i := 10) sc_law_limits.nd rfl (by first | exact Or.inl rfl | exact Or.inr rfl) (pe_ix (r := rIxL K) ix_list (pe_lst (pa_cons pe_non (pa_cons pe_int (pa_cons pe_bl (pa_cons (pe_tup (pa_cons pe_int (pa_cons pe_int pa_nil))) (pa_cons (pe_tup (pa_cons (pe_un un_neg pe_int) (pa_cons pe_int pa_nil))) (pa_cons (pe_lst (pa_cons pe_int (pa_cons pe_int pa_nil))) (pa_cons (pe_tup (pa_cons pe_int (pa_cons pe_int pa_nil))) pa_nil)))))))) (pe_cal (ok_law_take T) (hr.mono (by decide)) rfl pass0 (pa_cons (pv 0) (pa_cons pe_int pa_nil))) (fun _ _ => rfl))))
      (pss2_cons (PS.two (ps_if (PW.pt (pw_or (pt_cmpR op_ne (pe_ix (r := rIxT K) ix_tup (pe_cal (ok_law_called T B) (hr.mono (by decide)) rfl pass0 (pa_cons (pv 2) (pa_cons (pv 3) (pa_cons (pv 4) (pa_cons (pv 10) pa_nil))))) pe_int (fun _ _ => rfl)) pe_str (nomark _)) (pw_or1 (pt_cmpR op_ne (pe_ix (r := rIxT K) ix_tup (pe_cal (ok_law_called T B) (hr.mono (by decide)) rfl pass0 (pa_cons (pv 2) (pa_cons (pe_tup (pa_cons (pe_callB (r := rLenX K) call_len rfl (n_len T) bo_len (pa_cons (pv 1) pa_nil)) (pa_cons (pe_tup (pa_cons pe_int (pa_cons pe_int pa_nil))) pa_nil))) (pa_cons (pv 4) (pa_cons (pv 10) pa_nil))))) pe_int (fun _ _ => rfl)) pe_str (nomark _))))) (pss_one (ps_ret pe_bl)) pss_nil))
      (pss2_one (PS.two (ps_ret (pe_cmpR op_eq (pe_ix (r := rIxT K) ix_tup (pe_cal (ok_law_called T B) (hr.mono (by decide)) rfl pass0 (pa_cons (pv 2) (pa_cons (pv 3) (pa_cons (pe_tup (pa_cons (pe_un un_neg pe_int) (pa_cons (pe_tup (pa_cons pe_int (pa_cons pe_int pa_nil))) pa_nil))) (pa_cons (pe_tup (pa_cons pe_int (pa_cons pe_int pa_nil))) pa_nil))))) pe_int (fun _ _ => rfl)) pe_str (nomark _)))))))))), ?_⟩
  rintro H ds q ⟨a, bs, n, k, m, j, l, rfl, AK, ok, hq⟩
  have whi := bt_hi (drow bs n k m j l)
  have wr := AK.wr
  generalize hr0 : drow bs n k m j l = r at *
  refine sd_seq (sd_asgZ (zd_ratio (za_cons (zd_of yd_int fun H0 e0 => za_cons (zd_I0 (zd_of yd_int fun H1 e1 => ⟨1, rfl, zd_take (many := 10 ^ 12) (yd_var rfl) (yd_I yd_int yd_int pow_small) (ok.same (e0.trans e1)) fun i H2 i1 i2 h2 ok2 => ⟨i, rfl, za_nil ⟨1, 1 + i, rfl, by omega, by omega, fun H3 e3 => ?_⟩⟩⟩))))))
  have bsm : bt (Rat.divInt 1 (1 + i)) ≤ 41 := bt_divInt (by decide) (by omega) (by decide) (by omega)
  generalize Rat.divInt 1 (1 + i) = sm at *
  have k3 : Kp H H3 := Hr.kp ok ((Hr.same ok (e0.trans e1)).trans (h2.trans (Hr.same ok2 e3)))
  have ok3 := ok2.same e3
  clear h2 ok2 i1 i2
  have ba := bt_add (hiR r) sm
  have bb := bt_sub (hiR r) sm
  refine sd_seq (sd_asgZl (zl_lst (za_cons (zd_of (yd_var (d := dq (hiR r)) rfl) fun H4 e4 => za_cons (zd_of (yd_ar (yd_var (d := dq (hiR r)) rfl) (yd_var (d := dq sm) rfl) (show bt _ + bt _ ≤ 9000 by omega)) fun H5 e5 => za_cons (zd_of (yd_ar (yd_var (d := dq (hiR r)) rfl) (yd_var (d := dq sm) rfl) (show bt _ + bt _ ≤ 9000 by omega)) fun H6 e6 => za_cons (zd_h (Pd := PQ 21) (yd_var rfl) (ok3.same (e4.trans (e5.trans e6))) fun x H7 px h7 ok7 => za_cons (zd_of (yd_q (q := 0)) fun H8 e8 => za_nil ⟨(by decide : 5 ≤ 100000), fun p H9 hp e9 us hlp hvp => ?_⟩))))))))
  obtain ⟨x, rfl, bx⟩ := px
  obtain ⟨ls, hls, bls⟩ : ∃ ls : List Rat, [dq (hiR r), dq (hiR r + sm), dq (hiR r - sm), dq x, dq 0] = ls.map dq ∧ ∀ q ∈ ls, bt q ≤ 1500 := ⟨[hiR r, hiR r + sm, hiR r - sm, x, 0], rfl, fun q hq => by
    have b0 : bt 0 ≤ 4 := by decide +kernel
    simp only [List.mem_cons, List.not_mem_nil, or_false] at hq
    rcases hq with rfl | rfl | rfl | rfl | rfl <;> omega⟩
  rw [hls] at hvp
  have k9 : Kp H H9 := k3.trans ((Hr.kp ok3 ((Hr.same ok3 (e4.trans (e5.trans e6))).trans h7)).trans (Kp.of (e8.trans e9)))
  have ok9 := ok7.same (e8.trans e9)
  clear hls
  refine sd_seq (sd_for (vs := [8]) (R := Same) (Same.refl _) (yi_list (a := p) (us := us) (ds := ls.map dq) (yd_var (i := 7) rfl) hlp hvp) (fun i hi => tg_name) (fun H10 i g' H' => (∃ o8 o9 : Option D, g' = [some (.ref a), some (dBars bs), some (dA bs n), some (.tup [.int k, dq m]), some (.tup [.int j, dq l]), some (dq (hiR r)), some (dq sm), some (.ref p), o8, o9, none]) ∧ Same H10 H') (fun _ _ _ _ h => h.2) (fun H10 e10 => ⟨⟨_, _, rfl⟩, Same.refl _⟩) ?_ ?_)
  · rintro H10 i g' H11 e10 hi ⟨⟨o8, o9, rfl⟩, e11⟩ H12 e12
    rw [List.length_map] at hi
    rw [dqs_getD hi]
    have bl := bls _ (getD_mem hi)
    generalize ls.getD i 0 = len at *
    have tk : ∀ {H13 : Hp} (o9 : Option D), Yd Same K (tOp (rIxT K) (tVar 8) (tC (.int 0))) [some (.ref a), some (dBars bs), some (dA bs n), some (.tup [.int k, dq m]), some (.tup [.int j, dq l]), some (dq (hiR r)), some (dq sm), some (.ref p), some (dq len), o9, none] H13 (.int len.num) := fun {H13} o9 => yd_ixT (yd_var (d := dq len) rfl) yd_int rfl
    refine sd_seq (sd_asg (R := Same) (d := told r n len) (Same.refl _) (by
      have e1 : told r n len = told (drow bs n k m j l) n len := by rw [hr0]
      rw [e1]
      by_cases hneg : len < 0
      · exact yd_orr (yd_call (ya_cons (yd_var rfl) (ya_cons (yd_var rfl) (ya_cons (yd_var rfl) (ya_cons (yd_var (d := dq len) rfl) ya_nil)))) fun H13 e13 => AK.calledB hneg)
      · exact yd_orl (yd_call (ya_cons (yd_var rfl) (ya_cons (yd_var rfl) (ya_cons (yd_var rfl) (ya_cons (yd_var (d := dq len) rfl) ya_nil)))) fun H13 e13 => AK.calledT hneg (by omega))) fun H13 e13 => ?_)
    have e1113 := e11.trans (e12.trans e13)
    refine sd_if (R := Same) (Same.refl _) (yt_test (yd_cmp (tk _) yd_int)) (fun z H14 e14 => ?_) fun z H14 e14 => ?_
    · have z := of_decide_eq_true z
      have neg : len < 0 := by
        rcases Rat.le_total (a := 0) (b := len) with q | q
        · have := Rat.num_nonneg.mpr q
          omega
        · rcases Rat.le_iff_lt_or_eq.mp q with w | w
          · exact w
          · rw [w] at z
            exact absurd z (by decide)
      have et : told r n len = dTold "length" .non := by unfold told; rw [if_pos neg]
      rw [et]
      exact sd_ifF (R := Same) (Same.refl _) (yt_test (yd_neS (yd_ixT (yd_var (d := dTold "length" .non) rfl) yd_int rfl) yd_str)) (fun H15 e15 => sd_next ⟨⟨_, _, rfl⟩, e1113.trans (e14.trans e15)⟩) (by decide)
    · have z := of_decide_eq_false z
      have pos : ¬ len < 0 := fun w => by
        have : ¬ 0 ≤ len := Rat.not_le.mpr w
        exact this (Rat.num_nonneg.mp (by omega))
      have et : told r n len = dTold "told" (if len < hiR r then dAns (flatAns n r (hiR r)) else .non) := by unfold told; rw [if_neg pos]
      rw [et]
      refine sd_ifF (R := Same) (Same.refl _) (yt_test (yd_neS (yd_ixT (d := .str "told") (yd_var (d := dTold "told" _) rfl) yd_int rfl) yd_str)) (fun H15 e15 => ?_) (by decide)
      have e1115 := e1113.trans (e14.trans e15)
      refine sd_if (R := Same) (Same.refl _) (yt_not (yt_B (yd_call (d := .bl (decide (len < hiR r))) (ya_cons (yd_var (d := dq len) rfl) (ya_cons (yd_var (d := dq (hiR r)) rfl) ya_nil)) fun _ _ => ⟨_, _, rfl, (show bt _ + bt _ ≤ 900000 by omega), rfl⟩))) (fun z2 H16 e16 => ?_) fun z2 H16 e16 => ?_
      · have z2 : ¬ len < hiR r := by simpa using z2
        rw [if_neg z2]
        exact sd_ifF (R := Same) (Same.refl _) (yt_test (yd_notN (yd_ixT (d := .non) (yd_var (d := dTold "told" .non) rfl) yd_int rfl))) (fun H17 e17 => sd_next ⟨⟨_, _, rfl⟩, e1115.trans (e16.trans e17)⟩) (by rfl)
      · have z2 : len < hiR r := by simpa using z2
        rw [if_pos z2]
        obtain ⟨us, hus⟩ := flatAns_hi (n := n) (r := r) (by rw [← hr0]; exact AK.len)
        obtain ⟨ul, uf, usq⟩ := flatAns_some hus
        rw [hus]
        subst ul
        have G := AK.G
        have n4 := G.n4
        have wt := AK.wt uf.b
        have gsq := AK.gapSq uf.b
        have usq2 : sqU (gapU us (steps bs k m) (steps bs j l)) = hiR r * hiR r := by rw [AK.gap, hr0]; exact usq
        refine sd_ifF (R := Same) (Same.refl _) (yt_not (yt_B (yd_call (d := .bl true) (ya_cons (yd_ixT (d := dUs us) (yd_var (d := dTold "told" (dUs us)) rfl) yd_int rfl) (ya_cons (yd_call (d := .int (us.length : Nat)) (ya_cons (yd_var (d := dBars bs) rfl) ya_nil) fun _ _ => ⟨bs, us.length, rfl, G, rfl⟩) ya_nil)) fun _ _ => ⟨us, rfl, by omega, uf.pose, rfl⟩))) (fun H17 e17 => ?_) (by rfl)
        have lt : len * len < hiR r * hiR r := by
          have h1 : 0 ≤ len := Rat.not_lt.mp pos
          have h2 : 0 < hiR r - len := by grind
          have h3 : 0 < hiR r + len := by grind
          have := Rat.mul_pos h2 h3
          grind
        have bm := bt_mul len len
        have bs2 : bt (sqU (gapU us (steps bs k m) (steps bs j l))) ≤ 100000 := by
          rw [usq2]
          have := bt_mul (hiR r) (hiR r)
          omega
        exact sd_ifF (R := Same) (Same.refl _) (yt_not (yt_B (yd_call (d := .bl true) (ya_cons (yd_ar (yd_var (d := dq len) rfl) (yd_var (d := dq len) rfl) (show bt _ + bt _ ≤ 9000 by omega)) (ya_cons (yd_sq (yd_call (d := dUv (gapU us (steps bs k m) (steps bs j l))) (ya_cons (yd_var (d := dBars bs) rfl) (ya_cons (yd_ixT (d := dUs us) (yd_var (d := dTold "told" (dUs us)) rfl) yd_int rfl) (ya_cons (yd_var rfl) (ya_cons (yd_var rfl) ya_nil)))) fun _ _ => ⟨bs, us, k, m, j, l, rfl, G, ⟨AK.k0, AK.k1⟩, ⟨AK.j0, AK.j1⟩, wt.1, wt.2, rfl⟩) gsq) ya_nil)) fun _ _ => ⟨_, _, rfl, (show bt _ + bt _ ≤ 900000 by omega), by rw [decide_eq_true (by rw [usq2]; exact lt)]⟩))) (fun H18 e18 => sd_next ⟨⟨_, _, rfl⟩, e1115.trans (e16.trans (e17.trans e18))⟩) (by rfl)
  · rintro H10 g' H11 e10 ⟨⟨o8, o9, rfl⟩, e11⟩
    have ok11 := ok9.same (e10.trans e11)
    have k11 := k9.trans (Kp.of (e10.trans e11))
    clear bls hlp hvp
    refine sd_seq (sd_asgZ (zd_ixTakeZ (n := 7) (a := a) (zl_lst (za_cons (zd_of yd_non fun H12 e12 => za_cons (zd_of yd_int fun H13 e13 => za_cons (zd_of yd_bl fun H14 e14 => za_cons (zd_of (yd_tup (ya_cons yd_int (ya_cons yd_int ya_nil))) fun H15 e15 => za_cons (zd_of (yd_tup (ya_cons (yd_neg yd_int) (ya_cons yd_int ya_nil))) fun H16 e16 => za_cons (zd_ofL (yl_lst (ya_cons yd_int (ya_cons yd_int ya_nil))) fun c uc H17 hc e17 hlc hvc => za_cons (zd_of (yd_tup (ya_cons yd_int (ya_cons yd_int ya_nil))) fun H18 e18 => za_nil ⟨(by decide : 7 ≤ 100000), fun p2 H19 hp2 e19 => ?_⟩))))))))) rfl rfl))
    have e16' := e12.trans (e13.trans (e14.trans (e15.trans e16)))
    have ok16 := ok11.same e16'
    have ok18 := ok16.same (e17.trans e18)
    refine ⟨ok18.same e19, InH.new' ok18 hp2 e19, rfl, fun i x H20 hx h20 ok20 => ?_⟩
    have bad : LenBad H20 x := by
      rcases i with _ | _ | _ | _ | _ | _ | _ | i
      · cases hx
        exact .data rfl rfl
      · cases hx
        exact .data rfl rfl
      · cases hx
        exact .data rfl rfl
      · cases hx
        exact .data rfl (by decide +kernel)
      · cases hx
        exact .data rfl (by decide +kernel)
      · cases hx
        refine .lst (vs := uc) (h20 c _ (e18.trans e19 _ _ hlc) ?_).1
        exact InH.new' ok16 hc (e17.trans (e18.trans e19))
      · cases hx
        exact .data rfl (by decide +kernel)
      · cases hx
    have k20 : Kp H H20 := k11.trans ((Kp.of (e16'.trans (e17.trans (e18.trans e19)))).trans (Hr.kp (ok18.same e19) h20))
    clear h20 hx
    have G := AK.G
    have w := AK.w
    have pb : PlBad bs.length (.tup [.int (bs.length : Int), dq 1]) := .tup rfl rfl (by
      show (isWhole (.int (bs.length : Int)) (.int (-1)) (.int ((bs.length : Int) - 1)) && isRatio (dq 1)) = false
      unfold isWhole
      simp [loOk, hiOk]
      omega)
    have pb2 : PlBad bs.length (.tup [.int (-2), dq 1]) := .tup rfl rfl rfl
    refine sd_seq (sd_ifF (R := Same) (Same.refl _) (yt_or0 (yt_test (yd_neS (yd_ixT (d := .str "length") (yd_call (d := dTold "length" .non) (ya_cons (yd_var rfl) (ya_cons (yd_var rfl) (ya_cons (yd_var rfl) (ya_cons (yd_var (d := x) rfl) ya_nil)))) fun H21 e21 => ⟨bs, n, _, _, _, rfl, .inl ⟨k, m, j, l, AK.tt, bad.mono e21, rfl⟩⟩) yd_int rfl) yd_str)) (yt_test (yd_neS (yd_ixT (d := .str "place") (yd_call (d := dTold "place" .non) (ya_cons (yd_var rfl) (ya_cons (yd_tup (ya_cons ((yd_lenT (yd_var (d := dBars bs) rfl)).is (by rw [List.length_map])) (ya_cons (yd_q (q := 1)) ya_nil))) (ya_cons (yd_var rfl) (ya_cons (yd_var (d := x) rfl) ya_nil)))) fun H21 e21 => ⟨bs, n, _, _, _, rfl, .inr ⟨G, .inl pb, rfl⟩⟩) yd_int rfl) yd_str)) (by decide)) (fun H21 e21 => sd_next ?_) (by decide))
    refine sd_ret (R := Same) (d := .bl true) (Same.refl _) ((yd_eqS (yd_ixT (d := .str "place") (yd_call (d := dTold "place" .non) (ya_cons (yd_var rfl) (ya_cons (yd_var rfl) (ya_cons (yd_tup (ya_cons (yd_neg yd_int) (ya_cons (yd_q (q := 1)) ya_nil))) (ya_cons (yd_q (q := 1)) ya_nil)))) fun H22 e22 => ⟨bs, n, _, _, _, rfl, .inr ⟨G, .inr ⟨pb2, k, m, .tup ⟨AK.k0, AK.k1⟩, by omega⟩, rfl⟩⟩) yd_int rfl) yd_str).is (by rw [decide_eq_true rfl])) fun H22 e22 => ⟨k20.trans (Kp.of (e21.trans e22)), hq _ (ok20.same (e21.trans e22))⟩
end K19
set_option maxHeartbeats 4000000
set_option exponentiation.threshold 20000
namespace K19
open PySem PySem.Spec PyProof.Rows L2
variable {P : Program} {w : World} {K : PySem.W.Frag} {mg : Str → Option Value} {base : Heap}
theorem sc_law_asked : FnScope ["_law_hand_here", "_law_bars", "_law_one", "_law_other", "_law_arms", "_law_n", "_law_row_here", "_law_low", "_law_high", "_law_told", "_law_pose", "_law_square_here", "_law_wrong", "_law_act"] ["_law_hand_here", "_law_bars", "_law_one", "_law_other"] (defScope s_law_asked) := ⟨rfl, rfl, rfl, by decide +kernel, rfl, by decide +kernel, by decide +kernel⟩
theorem bd_law_asked : Bnd "_law_asked" "_law_asked" s_law_asked ["_law_hand_here", "_law_bars", "_law_one", "_law_other"] := fun _ _ _ _ _ _ us hl => match us, hl with | [_, _, _, _], _ => rfl
section
variable {g : Gm} {H : Hp} {te : TE} {ta : TA} {tt : TT} {t u : TS} {E : En} {q : D → Hp → Prop} {W : XK} {rel : Hp → List D → D → Prop} {bad : Hp → List D → Prop} {C : Addr}
theorem zd_callE (h : Za K ta g H fun ds H1 => ∃ d, rel H1 ds d ∧ ∀ H2, Same H1 H2 → q d H2) : Zd K (tCall (spE K rel bad C) [] W ta) g H q := fun s ty Q k =>
  h s ty _ fun vs ds H1 e rs ⟨d, hr, z⟩ => ⟨ds, by rw [List.append_nil]; exact rs, .inl ⟨d, hr, fun v H2 e2 rv => k v d H2 (e.trans (Kp.of e2)) rv (z H2 e2)⟩⟩
theorem zd_impK {q' : D → Hp → Prop} (h : Zd K te g H q') (hq : ∀ d H', Kp H H' → q' d H' → q d H') : Zd K te g H q := fun s ty Q k => h s ty Q fun v d H1 e r z => k v d H1 e r (hq d H1 e z)
theorem sd_mono {E' : En} (h : Sd K t g H E) (n : ∀ g H, E.nx g H → E'.nx g H) (r : ∀ d H, E.rt d H → E'.rt d H := by intro _ _ q; exact q.elim) (c : ∀ g H, E.ct g H → E'.ct g H := by intro _ _ q; exact q.elim) (b : ∀ g H, E.bk g H → E'.bk g H := by intro _ _ q; exact q.elim) : Sd K t g H E' := fun s Z ty fz =>
  h s Z ty ⟨fun g s H ty q => fz.nx g s H ty (n g H q), fun d v H rv q => fz.rt d v H rv (r d H q), fun g s H ty q => fz.bk g s H ty (b g H q), fun g s H ty q => fz.ct g s H ty (c g H q)⟩
theorem zd_form {tb : TE} {a : Addr} {bs : List Bar} {k : Int} {m : Rat} (h : Yd Same K te g H (.ref a)) (h2 : Yd Same K tb g H (.tup [.int k, dq m])) (hk : -1 ≤ k ∧ k < bs.length) (ok : HandOk a H) (hq : ∀ d H', PlOk K bs H' d k m → Hr a H H' → HandOk a H' → q d H') : Zd K (tCall (spH K (r_form K)) [] W (tCons te (tCons tb tNil))) g H q :=
  zd_callH (za_of (ya_cons h (ya_cons h2 ya_nil)) fun H1 e => ⟨a, k, m, bs, rfl, hk, ok.same e, fun d H' p h o => hq d H' p ((Hr.same ok e).trans h) o⟩)
theorem sd_ifZF (h : Zt K tt g H fun b H1 => b = false ∧ Sd K u g H1 E) : Sd K (tIfS tt t u) g H E := sd_ifZ fun s ty Q k => h s ty Q fun b H1 e ⟨hb, z⟩ => k b H1 e (by subst hb; exact z)
end
def r_asked (K : PySem.W.Frag) : Hp → List D → (D → Hp → Prop) → Prop := fun H ds q => ∃ a bs n k m j l, ds = [.ref a, dBars bs, .tup [.int k, dq m], .tup [.int j, dq l]] ∧ Ask bs n k m j l ∧ HandOk a H ∧ ∀ H', HandOk a H' → q (.bl true) H'
theorem ok2_law_asked (T : TX K mg) (B : BX P w K mg base) : Cal2 P w K mg base 24 "_law_asked" ["_law_hand_here", "_law_bars", "_law_one", "_law_other"] (spH K (r_asked K)) := by
  refine cal2_hand (f_law_asked T) (g_law_asked T) sc_law_asked bd_law_asked (fun H ds d ⟨_, _, _, _, _, _, _, e, _⟩ => by rw [e]; rfl) fun cdv A outer s H hr => ⟨_, (pss2_cons (PS.two (ps_set (i := 4) sc_law_asked.nd rfl (by first | exact Or.inl rfl | exact Or.inr rfl) (pe_arms T (hr.mono (by decide)) rfl (pa_cons (pv 1) pa_nil))))
      (pss2_cons (PS.two (ps_set (i := 5) sc_law_asked.nd rfl (by first | exact Or.inl rfl | exact Or.inr rfl) (pe_cal (ok_law_most T) (hr.mono (by decide)) rfl pass0 (pa_cons (pv 1) pa_nil))))
      (pss2_cons (PS.two (ps_set (i := 6) sc_law_asked.nd rfl (by first | exact Or.inl rfl | exact Or.inr rfl) (pe_cal (ok_law_apart T) (hr.mono (by decide)) rfl pass0 (pa_cons (pv 1) (pa_cons (pv 2) (pa_cons (pv 3) pa_nil))))))
      (pss2_cons (PS.two (ps_asg (pe_cal (ok_law_pushed T) (hr.mono (by decide)) rfl pass0 (pa_cons (pv 6) pa_nil)) (pg_tup (n := 2) rfl (pgs_cons (pg_name (i := 7) sc_law_asked.nd rfl (by first | exact Or.inl rfl | exact Or.inr rfl)) (pgs_cons (pg_name (i := 8) sc_law_asked.nd rfl (by first | exact Or.inl rfl | exact Or.inr rfl)) pgs_nil)))))
      (pss2_cons (PS.two (ps_if (pt_not (pt_val (pe_cal (ok_law_same T) (hr.mono (by decide)) rfl pass0 (pa_cons (pe_cal (ok_greatest_distance T B) (hr.mono (by decide)) rfl pass1 (pa_cons (pv 4) (pa_cons (pe_cal (ok_law_form T) (hr.mono (by decide)) rfl pass0 (pa_cons (pv 0) (pa_cons (pv 2) pa_nil))) (pa_cons (pv 3) pa_nil)))) (pa_cons (pv 8) pa_nil))))) (pss_one (ps_ret pe_bl)) pss_nil))
      (pss2_cons (PS.two (ps_if (pt_not (pt_val (pe_cal (ok_law_same T) (hr.mono (by decide)) rfl pass0 (pa_cons (pe_cal (ok_least_distance T B) (hr.mono (by decide)) rfl pass1 (pa_cons (pv 4) (pa_cons (pv 2) (pa_cons (pe_cal (ok_law_form T) (hr.mono (by decide)) rfl pass0 (pa_cons (pv 0) (pa_cons (pv 3) pa_nil))) pa_nil)))) (pa_cons (pv 7) pa_nil))))) (pss_one (ps_ret pe_bl)) pss_nil))
      (pss2_cons (PS.two (ps_if (pt_not (pt_val (pe_cal (ok_law_truth T) (hr.mono (by decide)) rfl pass0 (pa_cons (pe_cal (ok_can_meet T B) (hr.mono (by decide)) rfl pass1 (pa_cons (pv 4) (pa_cons (pv 2) (pa_cons (pv 3) pa_nil)))) (pa_cons (pe_cmpR (r := rEqD K) (op_eqD hr.units) (pv 7) (pe_tup (pa_cons pe_int (pa_cons pe_int pa_nil))) (nomark _)) pa_nil))))) (pss_one (ps_ret pe_bl)) pss_nil))
      (pss2_cons (ps2_set (i := 9) sc_law_asked.nd rfl (by first | exact Or.inl rfl | exact Or.inr rfl) (pe2_cal (ok2_farthest_pose T B) (hr.mono (by decide)) rfl (pa_cons (pv 4) (pa_cons (pv 2) (pa_cons (pv 3) pa_nil)))))
      (pss2_cons (PS.two (ps_if (PW.pt (pw_or (pt_not (pt_val (pe_cal (ok_law_is_flat T) (hr.mono (by decide)) rfl pass0 (pa_cons (pv 9) (pa_cons (pv 5) pa_nil))))) (pw_or1 (pt_cmpR (r := rNeD K) (op_neD hr.units) (pe_cal (ok_law_square T) (hr.mono (by decide)) rfl pass0 (pa_cons (pe_cal (ok_law_gap T) (hr.mono (by decide)) rfl pass0 (pa_cons (pv 1) (pa_cons (pv 9) (pa_cons (pv 2) (pa_cons (pv 3) pa_nil))))) pa_nil)) (pe_cal (ok_law_times T) (hr.mono (by decide)) rfl pass0 (pa_cons (pv 8) (pa_cons (pv 8) pa_nil))) (nomark _))))) (pss_one (ps_ret pe_bl)) pss_nil))
      (pss2_cons (ps2_set (i := 9) sc_law_asked.nd rfl (by first | exact Or.inl rfl | exact Or.inr rfl) (pe2_cal (ok2_nearest_pose T B) (hr.mono (by decide)) rfl (pa_cons (pv 4) (pa_cons (pv 2) (pa_cons (pv 3) pa_nil)))))
      (pss2_cons (PS.two (ps_if (pt_not (pt_val (pe_cal (ok_law_reached T) (hr.mono (by decide)) rfl pass0 (pa_cons (pv 6) (pa_cons (pv 7) pa_nil))))) (pss_one (ps_if (pt_cmpR op_notN (pv 9) pe_non (nomark _)) (pss_one (ps_ret pe_bl)) pss_nil)) (pss_one (ps_if (PW.pt (pw_or (pt_not (pt_val (pe_cal (ok_law_is_flat T) (hr.mono (by decide)) rfl pass0 (pa_cons (pv 9) (pa_cons (pv 5) pa_nil))))) (pw_or1 (pt_cmpR (r := rNeD K) (op_neD hr.units) (pe_cal (ok_law_square T) (hr.mono (by decide)) rfl pass0 (pa_cons (pe_cal (ok_law_gap T) (hr.mono (by decide)) rfl pass0 (pa_cons (pv 1) (pa_cons (pv 9) (pa_cons (pv 2) (pa_cons (pv 3) pa_nil))))) pa_nil)) (pe_cal (ok_law_times T) (hr.mono (by decide)) rfl pass0 (pa_cons (pv 7) (pa_cons (pv 7) pa_nil))) (nomark _))))) (pss_one (ps_ret pe_bl)) pss_nil))))
      (pss2_cons (PS.two (ps_set (i := 10) sc_law_asked.nd rfl (by first | exact Or.inl rfl | exact Or.inr rfl) (pe_cal (ok_law_any_pose T) (hr.mono (by decide)) rfl pass0 (pa_cons (pv 0) (pa_cons (pv 5) pa_nil)))))
      (pss2_cons (PS.two (ps_set (i := 11) sc_law_asked.nd rfl (by first | exact Or.inl rfl | exact Or.inr rfl) (pe_cal (ok_square_between T B) (hr.mono (by decide)) rfl pass0 (pa_cons (pv 4) (pa_cons (pv 10) (pa_cons (pv 2) (pa_cons (pv 3) pa_nil)))))))
      (pss2_cons (PS.two (ps_if (PW.pt (pw_or (pt_val (pe_cal (ok_law_below T) (hr.mono (by decide)) rfl pass0 (pa_cons (pv 11) (pa_cons (pe_cal (ok_law_times T) (hr.mono (by decide)) rfl pass0 (pa_cons (pv 7) (pa_cons (pv 7) pa_nil))) pa_nil)))) (pw_or1 (pt_val (pe_cal (ok_law_below T) (hr.mono (by decide)) rfl pass0 (pa_cons (pe_cal (ok_law_times T) (hr.mono (by decide)) rfl pass0 (pa_cons (pv 8) (pa_cons (pv 8) pa_nil))) (pa_cons (pv 11) pa_nil))))))) (pss_one (ps_ret pe_bl)) pss_nil))
      (pss2_cons (PS.two (ps_set (i := 12) sc_law_asked.nd rfl (by first | exact Or.inl rfl | exact Or.inr rfl) (pe_ix (r := rIxL K) ix_list (pe_lst (pa_cons (pe_tup (pa_cons (pe_callB (r := rLenX K) call_len rfl (n_len T) bo_len (pa_cons (pv 1) pa_nil)) (pa_cons (pe_tup (pa_cons pe_int (pa_cons pe_int pa_nil))) pa_nil))) (pa_cons (pe_tup (pa_cons (pe_un un_neg pe_int) (pa_cons (pe_tup (pa_cons pe_int (pa_cons pe_int pa_nil))) pa_nil))) (pa_cons (pe_tup (pa_cons pe_int (pa_cons pe_int pa_nil))) (pa_cons pe_non (pa_cons (pe_tup (pa_cons pe_bl (pa_cons (pe_tup (pa_cons pe_int (pa_cons pe_int pa_nil))) pa_nil))) pa_nil)))))) (pe_cal (ok_law_take T) (hr.mono (by decide)) rfl pass0 (pa_cons (pv 0) (pa_cons pe_int pa_nil))) (fun _ _ => rfl))))
      (pss2_cons (PS.two (ps_if (pt_cmpR (r := rNeD K) (op_neD hr.units) (pe_lc (own := [("_law_act", 13)]) rfl sc_law_asked.nd (pi_range1 rfl (n_range T) (pa_cons pe_int pa_nil)) (blkOk_by (own := [("_law_act", 13)]) (N := ["_law_hand_here", "_law_bars", "_law_one", "_law_other", "_law_arms", "_law_n", "_law_row_here", "_law_low", "_law_high", "_law_told", "_law_pose", "_law_square_here", "_law_wrong", "_law_act"]) (sc := defScope s_law_asked) (by decide +kernel)) (fun _ _ _ _ _ => pg_name (i := 13) sc_law_asked.nd rfl (Or.inl rfl)) (fun _ _ _ _ _ => (pts_one (PW.pt (pw_or (pt_not (pt_val (pe_cal (ok_law_stray T B) (hr.mono (by decide)) rfl pass0 (pa_cons (pv 13) (pa_cons (pv 4) (pa_cons (pv 12) (pa_cons (pv 3) pa_nil))))))) (pw_or1 (pt_not (pt_val (pe_cal (ok_law_stray T B) (hr.mono (by decide)) rfl pass0 (pa_cons (pv 13) (pa_cons (pv 4) (pa_cons (pv 2) (pa_cons (pv 12) pa_nil)))))))))))) (fun _ _ _ _ _ => (pv 13))) (pe_lst pa_nil) (nomark _)) (pss_one (ps_ret pe_bl)) pss_nil))
      (pss2_one (ps2_ret (pe2_cal (ok2_law_limits T B) (hr.mono (by decide)) rfl (pa_cons (pv 0) (pa_cons (pv 1) (pa_cons (pv 4) (pa_cons (pv 2) (pa_cons (pv 3) (pa_cons (pv 8) pa_nil))))))))))))))))))))))))), ?_⟩
  rintro H ds q ⟨a, bs, n, k, m, j, l, rfl, AK, ok, hq⟩
  have G := AK.G
  have n4 := G.n4
  have wr := AK.wr
  have whi := bt_hi (drow bs n k m j l)
  have rlen := AK.len
  have rne : drow bs n k m j l ≠ [] := fun z => by rw [z] at rlen; cases rlen
  have wlo := bt_lo (drow bs n k m j l) rne
  generalize hr0 : drow bs n k m j l = r at *
  refine sd_seq (sd_asg (R := Same) (d := dA bs n) (Same.refl _) (yd_arms (yd_var (d := dBars bs) rfl) G) fun H1 e1 => ?_)
  refine sd_seq (sd_asg (R := Same) (d := .int (n : Nat)) (Same.refl _) (yd_call (ya_cons (yd_var (d := dBars bs) rfl) ya_nil) fun _ _ => ⟨bs, n, rfl, G, rfl⟩) fun H2 e2 => ?_)
  refine sd_seq (sd_asg (R := Same) (d := dqs r) (Same.refl _) (yd_call (ya_cons (yd_var (d := dBars bs) rfl) (ya_cons (yd_var rfl) (ya_cons (yd_var rfl) ya_nil))) fun _ _ => ⟨bs, n, k, m, j, l, rfl, G, AK.pl.1, AK.pl.2, by rw [hr0]⟩) fun H3 e3 => ?_)
  refine sd_seq (sd_tup2 (R := Same) (d1 := dq (loR r)) (d2 := dq (hiR r)) (Same.refl _) (yd_call (ya_cons (yd_var (d := dqs r) rfl) ya_nil) fun _ _ => ⟨r, rfl, rne, by omega, by omega, rfl⟩) fun H4 e4 => ?_)
  have e04 := e1.trans (e2.trans (e3.trans e4))
  have ok4 := ok.same e04
  have k4 : Kp H H4 := Kp.of e04
  refine sd_seq (sd_ifZF (zt_not (zt_B (zd_call (za_cons ?_)))))
  refine zd_callE (za_cons ?_)
  refine zd_of (yd_var (d := dA bs n) rfl) fun H5 e5 => za_cons ?_
  refine zd_form (bs := bs) (yd_var rfl) (yd_var rfl) ⟨AK.k0, AK.k1⟩ (ok4.same e5) fun d H6 pl h6 ok6 => za_cons ?_
  refine zd_of (yd_var (d := .tup [.int j, dq l]) rfl) fun H7 e7 => za_nil ⟨dq (hiR r), ⟨bs, n, d, k, m, _, j, l, rfl, AK.two (pl.mono e7) (.tup ⟨AK.j0, AK.j1⟩), by rw [hr0]⟩, fun H8 e8 => za_cons ?_⟩
  refine zd_of (yd_var (d := dq (hiR r)) rfl) fun H9 e9 => za_nil ⟨.bl true, ⟨hiR r, rfl, rfl⟩, fun H10 e10 => ⟨true, rfl, rfl, sd_next ?_⟩⟩
  have ok10 := ok6.same (e7.trans (e8.trans (e9.trans e10)))
  have k10 : Kp H H10 := k4.trans ((Hr.kp ok4 ((Hr.same ok4 e5).trans h6)).trans (Kp.of (e7.trans (e8.trans (e9.trans e10)))))
  clear h6 pl ok6 k4 ok4
  refine sd_seq (sd_ifZF (zt_not (zt_B (zd_call (za_cons ?_)))))
  refine zd_callE (za_cons ?_)
  refine zd_of (yd_var (d := dA bs n) rfl) fun H11 e11 => za_cons ?_
  refine zd_of (yd_var (d := .tup [.int k, dq m]) rfl) fun H12 e12 => za_cons ?_
  refine zd_form (bs := bs) (yd_var rfl) (yd_var rfl) ⟨AK.j0, AK.j1⟩ (ok10.same (e11.trans e12)) fun d H13 pl h13 ok13 => za_nil ⟨dq (loR r), ⟨bs, n, _, k, m, d, j, l, rfl, AK.two (.tup ⟨AK.k0, AK.k1⟩) pl, by rw [hr0]⟩, fun H14 e14 => za_cons ?_⟩
  refine zd_of (yd_var (d := dq (loR r)) rfl) fun H15 e15 => za_nil ⟨.bl true, ⟨loR r, rfl, rfl⟩, fun H16 e16 => ⟨true, rfl, rfl, sd_next ?_⟩⟩
  have ok16 := ok13.same (e14.trans (e15.trans e16))
  have k16 : Kp H H16 := k10.trans ((Hr.kp ok10 ((Hr.same ok10 (e11.trans e12)).trans h13)).trans (Kp.of (e14.trans (e15.trans e16))))
  clear h13 pl ok13 k10 ok10
  refine sd_seq (sd_ifF (R := Same) (Same.refl _) (yt_not (yt_B (yd_call (d := .bl true) (ya_cons (yd_callE (d := .bl (decide (loR r = 0))) (ya_cons (yd_var rfl) (ya_cons (yd_var rfl) (ya_cons (yd_var rfl) ya_nil))) fun _ _ => ⟨bs, n, _, k, m, _, j, l, rfl, AK.tt, by rw [hr0]⟩) (ya_cons (yd_eqQ (yd_var (d := dq (loR r)) rfl) (yd_q (q := 0))) ya_nil)) fun _ _ => ⟨_, rfl, rfl⟩))) (fun H17 e17 => sd_next ?_) (by rfl))
  obtain ⟨us, hus⟩ := flatAns_hi (n := n) (r := r) rlen
  obtain ⟨ul, uf, usq⟩ := flatAns_some hus
  subst ul
  refine sd_seq (sd_asg (R := Same) (d := dUs us) (Same.refl _) (yd_call (ya_cons (yd_var rfl) (ya_cons (yd_var rfl) (ya_cons (yd_var rfl) ya_nil))) fun _ _ => ⟨bs, us.length, _, k, m, _, j, l, rfl, AK.tt, by rw [hr0]; show _ = dAns (flatAns us.length r (hiR r)); rw [hus]; rfl⟩) fun H18 e18 => ?_)
  have flat : ∀ {H' : Hp} {g : Gm} {u : List Uv} {len : Rat} {i : Nat} (hg : g[9]? = some (some (dUs u))) (h1 : g[1]? = some (some (dBars bs))) (h2 : g[2]? = some (some (.tup [.int k, dq m]))) (h3 : g[3]? = some (some (.tup [.int j, dq l]))) (h5 : g[5]? = some (some (.int (us.length : Nat)))) (hi : g[i]? = some (some (dq len))) (ul : u.length = us.length) (uf : FlatOk u) (usq : sqU (spotR (upU :: u) r) = len * len) (bl : 2 * bt len ≤ 9000),
      Yt Same K (tOr (tNot (tB (tCall (spP K r_isflat) [] E0 (tCons (tVar 9) (tCons (tVar 5) tNil))))) (tTest (tOp (rNeD K) (tCall (spP K r_sq) [] E0 (tCons (tCall (spP K r_gap) [] E0 (tCons (tVar 1) (tCons (tVar 9) (tCons (tVar 2) (tCons (tVar 3) tNil))))) tNil)) (tCall (spP K (r_ar fun q r => q * r)) [] E0 (tCons (tVar i) (tCons (tVar i) tNil)))))) g H' false := by
    intro H' g u len i hg h1 h2 h3 h5 hi ul uf usq bl
    have AK2 : Ask bs u.length k m j l := ul ▸ AK
    have G2 := AK2.G
    have wt := AK2.wt uf.b
    have gsq := AK2.gapSq uf.b
    have e : sqU (gapU u (steps bs k m) (steps bs j l)) = len * len := by rw [AK2.gap, ul, hr0]; exact usq
    refine yt_or0 (yt_not (yt_B (yd_call (d := .bl true) (ya_cons (yd_var hg) (ya_cons (yd_var h5) ya_nil)) fun _ _ => ⟨u, by rw [ul], by omega, uf, rfl⟩))) ((yt_test (yd_neQ (yd_sq (yd_call (d := dUv (gapU u (steps bs k m) (steps bs j l))) (ya_cons (yd_var h1) (ya_cons (yd_var hg) (ya_cons (yd_var h2) (ya_cons (yd_var h3) ya_nil)))) fun _ _ => ⟨bs, u, k, m, j, l, rfl, G2, ⟨AK.k0, AK.k1⟩, ⟨AK.j0, AK.j1⟩, wt.1, wt.2, rfl⟩) gsq) (yd_ar (yd_var hi) (yd_var hi) (show bt _ + bt _ ≤ 9000 by omega)))).is ?_)
    rw [e]
    simp
  refine sd_seq (sd_ifF (R := Same) (Same.refl _) (flat rfl rfl rfl rfl rfl rfl rfl uf usq (by omega)) (fun H19 e19 => sd_next ?_) (by rfl))
  refine sd_seq (sd_asg (R := Same) (d := dAns (flatAns us.length r (loR r))) (Same.refl _) (yd_call (ya_cons (yd_var rfl) (ya_cons (yd_var rfl) (ya_cons (yd_var rfl) ya_nil))) fun _ _ => ⟨bs, us.length, _, k, m, _, j, l, rfl, AK.tt, by rw [hr0]⟩) fun H20 e20 => ?_)
  have rch := reach_flat rlen (loR r)
  refine sd_seq (sd_mono (E := { nx := fun g' H' => ∃ d9 : D, g' = [some (.ref a), some (dBars bs), some (.tup [.int k, dq m]), some (.tup [.int j, dq l]), some (dA bs us.length), some (.int (us.length : Nat)), some (dqs r), some (dq (loR r)), some (dq (hiR r)), some d9, none, none, none, none] ∧ Same H20 H', rt := fun _ _ => False }) ?_ ?_)
  · refine sd_if (R := Same) (Same.refl _) (yt_not (yt_B (yd_call (d := .bl (reachB r (loR r))) (ya_cons (yd_var (d := dqs r) rfl) (ya_cons (yd_var (d := dq (loR r)) rfl) ya_nil)) fun _ _ => ⟨r, loR r, rfl, by omega, by omega, by omega, rfl⟩))) (fun z H21 e21 => ?_) fun z H21 e21 => ?_
    · have z : reachB r (loR r) = false := by simpa using z
      rw [rch] at z
      cases hf : flatAns us.length r (loR r) with
      | some u => rw [hf] at z; cases z
      | none => exact sd_ifF (R := Same) (Same.refl _) (yt_test (yd_notN (yd_var (d := .non) rfl))) (fun H22 e22 => sd_next ⟨_, rfl, e21.trans e22⟩) (by rfl)
    · have z : reachB r (loR r) = true := by simpa using z
      rw [rch] at z
      cases hf : flatAns us.length r (loR r) with
      | none => rw [hf] at z; cases z
      | some u =>
        obtain ⟨ul2, uf2, usq2⟩ := flatAns_some hf
        exact sd_ifF (R := Same) (Same.refl _) (flat (u := u) rfl rfl rfl rfl rfl rfl ul2 uf2 usq2 (by omega)) (fun H22 e22 => sd_next ⟨_, rfl, e21.trans e22⟩) (by rfl)
  rintro g' H22 ⟨d9, rfl, e22⟩
  have e1622 := e17.trans (e18.trans (e19.trans (e20.trans e22)))
  have ok22 := ok16.same e1622
  have k22 := k16.trans (Kp.of e1622)
  refine sd_seq (sd_asgZ (zd_callH (za_of (ya_cons (yd_var rfl) (ya_cons (yd_var (d := .int (us.length : Nat)) rfl) ya_nil)) fun H23 e23 => ⟨a, us.length, rfl, n4, ok22.same e23, fun ps H24 pl pb h24 ok24 => ?_⟩)))
  have k24 : Kp H H24 := k22.trans ((Kp.of e23).trans (Hr.kp (ok22.same e23) h24))
  have AK3 : Ask bs ps.length k m j l := pl ▸ AK
  have wp := AK3.wp pb
  have hsp := AK3.gapSq pb
  refine sd_seq (sd_asg (R := Same) (d := dq (sqU (spotR (upU :: ps) r))) (Same.refl _) (yd_call (ya_cons (yd_var (d := dA bs us.length) rfl) (ya_cons (yd_var (d := dUs ps) rfl) (ya_cons (yd_var rfl) (ya_cons (yd_var rfl) ya_nil)))) fun _ _ => ⟨bs, ps, _, k, m, _, j, l, by rw [pl], AK3.tt, pb.ok, by omega, by rw [pl, hr0]⟩) fun H25 e25 => ?_)
  have up := pb.one
  have lens : (upU :: ps).length = r.length := by rw [List.length_cons, pl, rlen]
  have lo := spot_lo up lens
  have hi := spot_hi (upU :: ps) r up
  have gl := AK3.gap
  rw [pl, hr0] at gl
  have bsq : bt (sqU (spotR (upU :: ps) r)) ≤ 100000 := by
    rw [← gl]
    unfold sqU
    unfold Sq at hsp
    have c1 := bt_mul (gapU ps (steps bs k m) (steps bs j l)).1 (gapU ps (steps bs k m) (steps bs j l)).1
    have c2 := bt_mul (gapU ps (steps bs k m) (steps bs j l)).2 (gapU ps (steps bs k m) (steps bs j l)).2
    have c3 := bt_add ((gapU ps (steps bs k m) (steps bs j l)).1 * (gapU ps (steps bs k m) (steps bs j l)).1) ((gapU ps (steps bs k m) (steps bs j l)).2 * (gapU ps (steps bs k m) (steps bs j l)).2)
    omega
  have c4 := bt_mul (loR r) (loR r)
  have c5 := bt_mul (hiR r) (hiR r)
  refine sd_seq (sd_ifF (R := Same) (Same.refl _) (yt_or0 (yt_B (yd_call (d := .bl false) (ya_cons (yd_var (d := dq (sqU (spotR (upU :: ps) r))) rfl) (ya_cons (yd_ar (yd_var (d := dq (loR r)) rfl) (yd_var (d := dq (loR r)) rfl) (show bt _ + bt _ ≤ 9000 by omega)) ya_nil)) fun _ _ => ⟨_, _, rfl, (show bt _ + bt _ ≤ 900000 by omega), by rw [decide_eq_false (Rat.not_lt.mpr lo)]⟩)) (yt_B (yd_call (d := .bl false) (ya_cons (yd_ar (yd_var (d := dq (hiR r)) rfl) (yd_var (d := dq (hiR r)) rfl) (show bt _ + bt _ ≤ 9000 by omega)) (ya_cons (yd_var (d := dq (sqU (spotR (upU :: ps) r))) rfl) ya_nil)) fun _ _ => ⟨_, _, rfl, (show bt _ + bt _ ≤ 900000 by omega), by rw [decide_eq_false (Rat.not_lt.mpr hi)]⟩))) (fun H26 e26 => sd_next ?_) (by rfl))
  have e2426 := e25.trans e26
  have ok26 := ok24.same e2426
  have k26 := k24.trans (Kp.of e2426)
  have pb1 : PlBad bs.length (.tup [.int (bs.length : Int), dq 1]) := .tup rfl rfl (by
    show (isWhole (.int (bs.length : Int)) (.int (-1)) (.int ((bs.length : Int) - 1)) && isRatio (dq 1)) = false
    unfold isWhole
    simp [loOk, hiOk]
    omega)
  have pb2 : PlBad bs.length (.tup [.int (-2), dq 1]) := .tup rfl rfl rfl
  have pb3 : PlBad bs.length (.tup [.int 0, .int 1]) := .tup rfl rfl (by
    show (isWhole (.int 0) (.int (-1)) (.int ((bs.length : Int) - 1)) && isRatio (.int 1)) = false
    have : isRatio (.int 1) = false := by decide +kernel
    rw [this, Bool.and_false])
  have pb4 : PlBad bs.length (.tup [.bl true, dq 1]) := .tup rfl rfl rfl
  have alls : ∀ (x : D) (i : Nat), [D.tup [.int (bs.length : Int), dq 1], .tup [.int (-2), dq 1], .tup [.int 0, .int 1], .non, .tup [.bl true, dq 1]][i]? = some x → PlBad bs.length x := fun x i hx => by
    rcases i with _ | _ | _ | _ | _ | i
    · cases hx; exact pb1
    · cases hx; exact pb2
    · cases hx; exact pb3
    · cases hx; exact .non
    · cases hx; exact pb4
    · cases hx
  refine sd_seq (sd_asgZ (zd_ixTake (a := a) (ds := [.tup [.int (bs.length : Int), dq 1], .tup [.int (-2), dq 1], .tup [.int 0, .int 1], .non, .tup [.bl true, dq 1]]) (yl_lst (ya_cons (yd_tup (ya_cons ((yd_lenT (yd_var (d := dBars bs) rfl)).is (by rw [List.length_map])) (ya_cons (yd_q (q := 1)) ya_nil))) (ya_cons (yd_tup (ya_cons (yd_neg yd_int) (ya_cons (yd_q (q := 1)) ya_nil))) (ya_cons (yd_tup (ya_cons yd_int (ya_cons yd_int ya_nil))) (ya_cons yd_non (ya_cons (yd_tup (ya_cons yd_bl (ya_cons (yd_q (q := 1)) ya_nil))) ya_nil)))))) rfl ok26 rfl fun i x H27 hx h27 ok27 => ?_))
  have bad := alls x i hx
  clear hx alls
  have k27 := k26.trans (Hr.kp ok26 h27)
  have w := AK.w
  refine sd_seq (sd_ifF (R := Same) (Same.refl _) (yt_test (yd_neNN (ns := []) (ms := []) (yl_lcNone (yi_range1 (m := 5) (ya_cons yd_int ya_nil) (by decide)) (fun i hi => tg_name) ?_) (yl_lst ya_nil))) (fun H28 e28 => sd_next ?_) (by rfl))
  · intro i hi H28 e28
    exact yt_or0 (yt_not (yt_B (yd_call (d := .bl true) (ya_cons (yd_var (d := .int (i : Int)) rfl) (ya_cons (yd_var (d := dA bs us.length) rfl) (ya_cons (yd_var (d := x) rfl) (ya_cons (yd_var rfl) ya_nil)))) fun _ _ => ⟨(i : Int), bs, us.length, x, .tup [.int j, dq l], rfl, G, .inl bad, rfl⟩))) (yt_not (yt_B (yd_call (d := .bl true) (ya_cons (yd_var (d := .int (i : Int)) rfl) (ya_cons (yd_var (d := dA bs us.length) rfl) (ya_cons (yd_var rfl) (ya_cons (yd_var (d := x) rfl) ya_nil)))) fun _ _ => ⟨(i : Int), bs, us.length, .tup [.int k, dq m], x, rfl, G, .inr ⟨bad, k, m, .tup ⟨AK.k0, AK.k1⟩, by omega⟩, rfl⟩)))
  · exact sd_retZ (zd_impK (q' := q) (zd_callH (za_of (ya_cons (yd_var rfl) (ya_cons (yd_var rfl) (ya_cons (yd_var rfl) (ya_cons (yd_var rfl) (ya_cons (yd_var rfl) (ya_cons (yd_var (d := dq (hiR r)) rfl) ya_nil)))))) fun H29 e29 => ⟨a, bs, us.length, k, m, j, l, by rw [hr0], AK, ok27.same (e28.trans e29), fun H30 ok30 => hq H30 ok30⟩)) fun d H30 kp z => ⟨k27.trans ((Kp.of e28).trans kp), z⟩)
end K19
set_option maxHeartbeats 4000000
set_option exponentiation.threshold 20000
namespace K19
open PySem PySem.Spec PyProof.Rows L2
variable {P : Program} {w : World} {K : PySem.W.Frag} {mg : Str → Option Value} {base : Heap}
theorem sc_law : FnScope ["_law_script", "_law_hand_here", "_law_row_here", "_law_bars", "_law_place", "_law_mark_here", "_law_one", "_law_other", "_law_made", "_law_foot"] ["_law_script"] (defScope s_law) := ⟨rfl, rfl, rfl, by decide +kernel, rfl, by decide +kernel, by decide +kernel⟩
theorem bd_law : Bnd "law" "law" s_law ["_law_script"] := fun _ _ _ _ _ _ us hl => match us, hl with | [_], _ => rfl
theorem yd_isnotB {R : Hp → Hp → Prop} [Rl R] {g : Gm} {H : Hp} {te tb : TE} {a b : Bool} (ha : Yd R K te g H (.bl a)) (hb : Yd R K tb g H (.bl b)) : Yd R K (tOp (fun x y H Q => ∃ a b, x = .bl a ∧ y = .bl b ∧ Q (.bl (!decide (a = b))) H) te tb) g H (.bl (!decide (a = b))) :=
  yd_op ha hb fun vx vy H1 e rx ry Q q => by
    cases rx
    cases ry
    exact ⟨a, b, rfl, rfl, q _ H1 (Rl.self e) .bl⟩
/-- the law: True, whatever the heap behind it -/
def spT (K : PySem.W.Frag) (rel : Hp → List D → Prop) : Sp := fun vs H Q _ => ∃ ds, RpL K H vs ds ∧ rel H ds ∧ ∀ v H', Rp K H' v (.bl true) → Q v H'
theorem cal2_true {x : Str} {st : Stmt} {N ps : List Str} {k : Nat} {rel : Hp → List D → Prop} (F : ∃ fd, FunD K x x (defArgs st) (defBody st) (defScope st) [] [] (He.ga K x) fd) (gl : mg x = some (.ref (He.ga K x))) (S : FnScope N ps (defScope st)) (hb : Bnd x x st ps) (len : ∀ H ds, rel H ds → ds.length = ps.length)
    (body : ∀ (cdv : Value) (A : Around) (outer : List Env) (s : Shared) (H : Hp), Room k (A.deeper (envOfC x (defScope st) s.heap.objs.size (He.ga K x) cdv)) →
      ∃ t, PSs2 (cxOf CX0 P w K mg base N x (defScope st) (He.ga K x) cdv A outer s H noE).nox (defBody st) t ∧ ∀ H ds, rel H ds → Sd K t (gm0 N ds) H { nx := fun _ _ => False, rt := fun d _ => d = .bl true }) : Cal2 P w K mg base (k + 1) x ps (spT K rel) := by
  obtain ⟨fd, F⟩ := F
  refine ⟨⟨fd, FunD.two F S (fun vs H Q E ⟨ds, r, h, _⟩ => by rw [r.length]; exact len H ds h) fun cdv A outer z H vs Q hr ⟨ds, r, h, hQ⟩ => ?_, F.bindsN hb⟩, gl, F.kp⟩
  obtain ⟨t, ht, hb⟩ := body cdv A outer z H hr
  exact ⟨t, ht, hb H ds h _ _ (Ty.start r) ⟨fun g s H' _ z => z.elim, fun d v H' rv z => by subst z; exact hQ v H' rv, fun _ _ _ _ q => q.elim, fun _ _ _ _ q => q.elim⟩⟩
def r_law (K : PySem.W.Frag) : Hp → List D → Prop := fun H ds => ∃ a zs, ds = [.ref a] ∧ SqL K H a ((zs : List Int).map V.int) ∧ zs.length ≤ 1000
theorem ok2_law (T : TX K mg) (B : BX P w K mg base) : Cal2 P w K mg base 25 "law" ["_law_script"] (spT K (r_law K)) := by
  refine cal2_true (f_law T) (g_law T) sc_law bd_law (fun H ds ⟨_, _, e, _⟩ => by rw [e]; rfl) fun cdv A outer s H hr => ⟨_, (pss2_cons (PS.two (ps_set (i := 1) sc_law.nd rfl (by first | exact Or.inl rfl | exact Or.inr rfl) (pe_cal (ok_law_hand T) (hr.mono (by decide)) rfl pass0 (pa_cons (pv 0) pa_nil))))
      (pss2_cons (PS.two (ps_set (i := 2) sc_law.nd rfl (by first | exact Or.inl rfl | exact Or.inr rfl) (pe_cal (ok_law_drawn_row T) (hr.mono (by decide)) rfl pass0 (pa_cons (pv 1) pa_nil))))
      (pss2_cons (PS.two (ps_asg (pe_cal (ok_law_chain T) (hr.mono (by decide)) rfl pass0 (pa_cons (pv 2) pa_nil)) (pg_tup (n := 2) rfl (pgs_cons (pg_name (i := 3) sc_law.nd rfl (by first | exact Or.inl rfl | exact Or.inr rfl)) (pgs_cons (pg_name (i := 4) sc_law.nd rfl (by first | exact Or.inl rfl | exact Or.inr rfl)) pgs_nil)))))
      (pss2_cons (PS.two (ps_set (i := 5) sc_law.nd rfl (by first | exact Or.inl rfl | exact Or.inr rfl) (pe_ifExp (pt_cmpR op_eq (pe_cal (ok_law_take T) (hr.mono (by decide)) rfl pass0 (pa_cons (pv 1) (pa_cons pe_int pa_nil))) pe_int (nomark _)) (pe_cal (ok_law_wide T) (hr.mono (by decide)) rfl pass0 (pa_cons (pv 1) pa_nil)) (pe_tup (pa_cons pe_int (pa_cons pe_int pa_nil))))))
      (pss2_cons (ps2_if (pt2_not (pt2_val (pe2_cal (ok2_law_asked T B) (hr.mono (by decide)) rfl (pa_cons (pv 1) (pa_cons (pv 3) (pa_cons (pv 4) (pa_cons (pe_tup (pa_cons (pe_un un_neg pe_int) (pa_cons (pv 5) pa_nil))) pa_nil))))))) (PSs.two (pss_one (ps_ret pe_bl))) (PSs.two pss_nil))
      (pss2_cons (PS.two (ps_set (i := 3) sc_law.nd rfl (by first | exact Or.inl rfl | exact Or.inr rfl) (pe_cal (ok_law_world T) (hr.mono (by decide)) rfl pass0 (pa_cons (pv 1) pa_nil))))
      (pss2_cons (PS.two (ps_set (i := 6) sc_law.nd rfl (by first | exact Or.inl rfl | exact Or.inr rfl) (pe_cal (ok_law_any_place T) (hr.mono (by decide)) rfl pass0 (pa_cons (pv 1) (pa_cons (pv 3) pa_nil)))))
      (pss2_cons (PS.two (ps_set (i := 7) sc_law.nd rfl (by first | exact Or.inl rfl | exact Or.inr rfl) (pe_ifExp (pt_cmpR op_eq (pe_cal (ok_law_take T) (hr.mono (by decide)) rfl pass0 (pa_cons (pv 1) (pa_cons pe_int pa_nil))) pe_int (nomark _)) (pv 6) (pe_cal (ok_law_any_place T) (hr.mono (by decide)) rfl pass0 (pa_cons (pv 1) (pa_cons (pv 3) pa_nil))))))
      (pss2_cons (ps2_if (pt2_not (pt2_val (pe2_cal (ok2_law_asked T B) (hr.mono (by decide)) rfl (pa_cons (pv 1) (pa_cons (pv 3) (pa_cons (pv 6) (pa_cons (pv 7) pa_nil))))))) (PSs.two (pss_one (ps_ret pe_bl))) (PSs.two pss_nil))
      (pss2_cons (PS.two (ps_set (i := 8) sc_law.nd rfl (by first | exact Or.inl rfl | exact Or.inr rfl) (pe_cal (ok_law_closed T) (hr.mono (by decide)) rfl pass0 (pa_cons (pv 1) pa_nil))))
      (pss2_cons (PS.two (ps_if (pt_cmpR op_isN (pv 8) pe_non (nomark _)) (pss_one (ps_ret pe_bl)) pss_nil))
      (pss2_cons (PS.two (ps_asg (pe_cal (ok_law_chain T) (hr.mono (by decide)) rfl pass0 (pa_cons (pe_ix (r := rIxT K) ix_tup (pv 8) pe_int (fun _ _ => rfl)) pa_nil)) (pg_tup (n := 2) rfl (pgs_cons (pg_name (i := 3) sc_law.nd rfl (by first | exact Or.inl rfl | exact Or.inr rfl)) (pgs_cons (pg_name (i := 4) sc_law.nd rfl (by first | exact Or.inl rfl | exact Or.inr rfl)) pgs_nil)))))
      (pss2_cons (PS.two (ps_set (i := 9) sc_law.nd rfl (by first | exact Or.inl rfl | exact Or.inr rfl) (pe_tup (pa_cons (pe_un un_neg pe_int) (pa_cons (pe_tup (pa_cons pe_int (pa_cons pe_int pa_nil))) pa_nil)))))
      (pss2_cons (PS.two (ps_if (PW.pt (pw_or (pt_cmpR op_isnot_bl (pe_cal (ok_can_meet T B) (hr.mono (by decide)) rfl pass1 (pa_cons (pe_arms T (hr.mono (by decide)) rfl (pa_cons (pv 3) pa_nil)) (pa_cons (pv 4) (pa_cons (pv 9) pa_nil)))) pe_bl (nomark _)) (pw_or1 (pt_not (pt_val (pe_cal (ok_law_same T) (hr.mono (by decide)) rfl pass0 (pa_cons (pe_cal (ok_square_between T B) (hr.mono (by decide)) rfl pass0 (pa_cons (pe_arms T (hr.mono (by decide)) rfl (pa_cons (pv 3) pa_nil)) (pa_cons (pe_ix (r := rIxT K) ix_tup (pv 8) pe_int (fun _ _ => rfl)) (pa_cons (pv 9) (pa_cons (pv 4) pa_nil))))) (pa_cons (pe_tup (pa_cons pe_int (pa_cons pe_int pa_nil))) pa_nil)))))))) (pss_one (ps_ret pe_bl)) pss_nil))
      (pss2_one (ps2_ret (pe2_cal (ok2_law_asked T B) (hr.mono (by decide)) rfl (pa_cons (pv 1) (pa_cons (pv 3) (pa_cons (pv 9) (pa_cons (pv 4) pa_nil))))))))))))))))))))), ?_⟩
  rintro H ds ⟨a, zs, rfl, hz, hn⟩
  refine sd_seq (sd_asgZ (zd_callH (za_of (ya_cons (yd_var rfl) ya_nil) fun H1 e1 => ⟨a, zs, rfl, sqL_same hz e1, hn, fun h H2 ok2 => ?_⟩)))
  refine sd_seq (sd_asgZ (zd_callH (za_of (ya_cons (yd_var rfl) ya_nil) fun H3 e3 => ⟨h, rfl, ok2.same e3, fun p us r H4 hlp hvp r2 r5 br ok4 np => ?_⟩)))
  refine sd_seq (sd_tup2 (R := Same) (d1 := dBars (chainB r)) (d2 := dPl ((r.length : Int) - 2) (r.getD (r.length - 1) 0)) (Same.refl _) (yd_call (ya_cons (yd_var (d := .ref p) rfl) ya_nil) fun H5 e5 => ⟨p, us, r, rfl, e5 _ _ hlp, hvp.mono e5, r2, by omega, rfl⟩) fun H5 e5 => ?_)
  have ok5 := ok4.same e5
  have wr := wtR_le br
  refine sd_seq (sd_asgZ (zd_imp (q' := fun d H => ∃ m, d = dq m ∧ bt m ≤ 21 ∧ HandOk h H) (zd_if (zt_test (zd_eqI (zd_take (yd_var rfl) yd_int ok5 fun x H6 p1 p2 p3 ok6 => ⟨x, rfl, zd_of yd_int fun H7 e7 => ⟨0, rfl, _, rfl, ?_⟩⟩)))) ?_))
  · split
    · exact zd_h (Pd := PQ 21) (yd_var rfl) (ok6.same e7) fun d H8 ⟨m, e, b⟩ h8 ok8 => ⟨m, e, b, ok8⟩
    · exact zd_of (yd_q (q := 0)) fun H8 e8 => ⟨0, rfl, by decide +kernel, ok6.same (e7.trans e8)⟩
  rintro d H8 ⟨m, rfl, hm, ok8⟩
  refine sd_seq (sd_ifZF (zt_not (zt_B (zd_callH (za_of (ya_cons (yd_var rfl) (ya_cons (yd_var (d := dBars (chainB r)) rfl) (ya_cons (yd_var (d := dPl ((r.length : Int) - 2) (r.getD (r.length - 1) 0)) rfl) (ya_cons (yd_tup (ya_cons (yd_neg yd_int) (ya_cons (yd_var (d := dq m) rfl) ya_nil))) ya_nil)))) fun H9 e9 => ⟨h, chainB r, r.length - 1, (r.length : Int) - 2, r.getD (r.length - 1) 0, -1, m, rfl, chain_ask r2 r5 (Nat.le_trans wr (by omega)) hm, ok8.same e9, fun H10 ok10 => ⟨true, rfl, rfl, sd_next ?_⟩⟩)))))
  clear hlp hvp np br wr
  refine sd_seq (sd_asgZ (zd_callH (za_of (ya_cons (yd_var rfl) ya_nil) fun H11 e11 => ⟨h, rfl, ok10.same e11, fun bs n H12 G bm ok12 => ?_⟩)))
  have b1 := G.some_
  have b6 := G.few
  refine sd_seq (sd_asgZ (zd_callH (za_of (ya_cons (yd_var rfl) (ya_cons (yd_var (d := dBars bs) rfl) ya_nil)) fun H13 e13 => ⟨h, bs, rfl, b1, b6, ok12.same e13, fun d H14 ⟨k, m1, ed, k0, k1, hm1⟩ h14 ok14 => ?_⟩)))
  subst ed
  refine sd_seq (sd_asgZ (zd_imp (q' := fun d H => ∃ (j : Int) (l : Rat), d = .tup [.int j, dq l] ∧ -1 ≤ j ∧ j < bs.length ∧ bt l ≤ 21 ∧ HandOk h H) (zd_if (zt_test (zd_eqI (zd_take (yd_var rfl) yd_int ok14 fun x H15 p1 p2 p3 ok15 => ⟨x, rfl, zd_of yd_int fun H16 e16 => ⟨0, rfl, _, rfl, ?_⟩⟩)))) ?_))
  · split
    · exact zd_of (yd_var (d := .tup [.int k, dq m1]) rfl) fun H17 e17 => ⟨k, m1, rfl, k0, k1, hm1, ok15.same (e16.trans e17)⟩
    · exact zd_callH (za_of (ya_cons (yd_var rfl) (ya_cons (yd_var (d := dBars bs) rfl) ya_nil)) fun H17 e17 => ⟨h, bs, rfl, b1, b6, ok15.same (e16.trans e17), fun d H18 ⟨j, l, ed, j0, j1, hl⟩ h18 ok18 => ⟨j, l, ed, j0, j1, hl, ok18⟩⟩)
  rintro d H19 ⟨j, l, rfl, j0, j1, hl, ok19⟩
  refine sd_seq (sd_ifZF (zt_not (zt_B (zd_callH (za_of (ya_cons (yd_var rfl) (ya_cons (yd_var (d := dBars bs) rfl) (ya_cons (yd_var (d := .tup [.int k, dq m1]) rfl) (ya_cons (yd_var (d := .tup [.int j, dq l]) rfl) ya_nil)))) fun H20 e20 => ⟨h, bs, n, k, m1, j, l, rfl, world_ask G bm k0 k1 hm1 j0 j1 hl, ok19.same e20, fun H21 ok21 => ⟨true, rfl, rfl, sd_next ?_⟩⟩)))))
  clear bm b1 b6 k0 k1 hm1 j0 j1 hl G
  refine sd_seq (sd_asgZ (zd_callH (za_of (ya_cons (yd_var rfl) ya_nil) fun H22 e22 => ⟨h, rfl, ok21.same e22, fun H23 ok23 => ?_, fun p us vs r H23 hlp hvp pb u2 u4 rl wr spot ok23 => ?_⟩)))
  · exact sd_seq (sd_ifT (R := Same) (Same.refl _) (yt_test (yd_isN (yd_var (d := .non) rfl))) (fun H24 e24 => sd_ret (R := Same) (Same.refl _) yd_bl fun H25 e25 => rfl) (by rfl))
  refine sd_seq (sd_ifF (R := Same) (Same.refl _) (yt_test (yd_isN (yd_var (d := .tup [.ref p, dUs us]) rfl))) (fun H24 e24 => sd_next ?_) (by rfl))
  have r2 : 2 ≤ r.length := by omega
  have r5 : r.length ≤ 5 := by omega
  have un : us.length = r.length - 1 := by omega
  refine sd_seq (sd_tup2 (R := Same) (d1 := dBars (chainB r)) (d2 := dPl ((r.length : Int) - 2) (r.getD (r.length - 1) 0)) (Same.refl _) (yd_call (ya_cons (yd_ixT (d := .ref p) (yd_var (d := .tup [.ref p, dUs us]) rfl) yd_int rfl) ya_nil) fun H25 e25 => ⟨p, vs, r, rfl, (e24.trans e25) _ _ hlp, hvp.mono (e24.trans e25), r2, by omega, rfl⟩) fun H25 e25 => ?_)
  refine sd_seq (sd_asg (R := Same) (d := .tup [.int (-1), dq 0]) (Same.refl _) (yd_tup (ya_cons (yd_neg yd_int) (ya_cons (yd_q (q := 0)) ya_nil))) fun H26 e26 => ?_)
  have AK : Ask (chainB r) us.length ((r.length : Int) - 2) (r.getD (r.length - 1) 0) (-1) 0 := by
    rw [un]
    exact chain_ask (m := 0) r2 r5 wr (by decide +kernel)
  have G := AK.G
  obtain ⟨c1, c2⟩ := chain_closed rl r2 r5 spot
  have lo := lo_zero pb.one (by rw [AK.len]; rfl) c1
  have wp := AK.swap.wp pb
  refine sd_seq (sd_ifF (R := Same) (Same.refl _) (yt_or0 ?_ (yt_not (yt_B (yd_call (d := .bl true) (ya_cons (yd_call (d := dq 0) (ya_cons (yd_arms (yd_var (d := dBars (chainB r)) rfl) G) (ya_cons (yd_ixT (d := dUs us) (yd_var (d := .tup [.ref p, dUs us]) rfl) yd_int rfl) (ya_cons (yd_var rfl) (ya_cons (yd_var rfl) ya_nil)))) fun _ _ => ⟨chainB r, us, _, -1, 0, _, _, _, rfl, AK.swap.tt, pb.ok, by omega, by rw [c2, show sqU ((0, 0) : Uv) = 0 from by unfold sqU; decide +kernel]⟩) (ya_cons (yd_q (q := 0)) ya_nil)) fun _ _ => ⟨0, rfl, rfl⟩)))) (fun H27 e27 => sd_next ?_) (by rfl))
  · exact (yt_test (yd_isnotB (yd_callE (d := .bl true) (ya_cons (yd_arms (yd_var (d := dBars (chainB r)) rfl) G) (ya_cons (yd_var rfl) (ya_cons (yd_var rfl) ya_nil))) fun _ _ => ⟨chainB r, us.length, _, _, _, _, _, _, rfl, AK.tt, by show _ = D.bl (decide (loR (drow (chainB r) us.length ((r.length : Int) - 2) (r.getD (r.length - 1) 0) (-1) 0) = 0)); rw [lo]; rfl⟩) yd_bl)).is (by rfl)
  exact sd_retZ (zd_callH (za_of (ya_cons (yd_var rfl) (ya_cons (yd_var (d := dBars (chainB r)) rfl) (ya_cons (yd_var (d := .tup [.int (-1), dq 0]) rfl) (ya_cons (yd_var (d := dPl ((r.length : Int) - 2) (r.getD (r.length - 1) 0)) rfl) ya_nil)))) fun H28 e28 => ⟨h, chainB r, us.length, _, _, _, _, rfl, AK.swap, ok23.same (e24.trans (e25.trans (e26.trans (e27.trans e28)))), fun H29 ok29 => rfl⟩))
end K19
namespace K19
open PySem PySem.Spec PyProof.Rows L2
/-- what is told of such a class -/
structure ExF (P : Program) (K : PySem.W.Frag) (C fI cc : Addr) (qual : Str) (params : Arguments) (body : List Stmt) (scope : Scope) : Prop where
  q : PySem.W.excInitIn K C veM "ValueError.__new__" = true
  iC : PySem.W.findIn K (.ref C) "__init__" = some (some (.ref fI))
  tI : PySem.W.typeIn K (.ref fI) = some (.type "function")
  kC : PySem.W.keepIn K (.ref C) = true
  exC : PySem.W.subIn K (.ref C) (.type "BaseException") = some true
  tyC : PySem.W.typeIn K (.ref C) = some (.type "type")
  vE : PySem.W.subIn K (.ref C) (.type "ValueError") = some true
  mr : PySem.W.mroIn K C (.ref C) = some true
  sup : PySem.W.ks_superIn K C C "__init__" = some (some (.builtin veI))
  tp : PySem.W.nsIn K cStatics "thirdparty.any" = some none
  fn : ∃ (oc : Value) (od : Option Addr) (kV doc pm : Value) (an : Option Addr) (cda : Addr) (ct : Value) (osl : Array (Option Value)), K.lookup fI = some ⟨oc, od, .func (PySem.W.fnX "__init__" qual params body scope [("__class__", cc)] .none kV doc pm an (.ref cda) ct), osl⟩ ∧ PySem.W.codeIn K (.ref cda) qual = true ∧
    ∃ (ccl : Value) (cdd : Option Addr) (vs : Array Value) (ccs : Array (Option Value)) (file : Str) (tf : Tok), K.lookup cda = some ⟨ccl, cdd, .fields vs, ccs⟩ ∧ vs[2]? = some (.str file tf) ∧ ((P.main.file : Str) == file) = true
  cell : ∃ (cl : Value) (cld : Option Addr) (csl : Array (Option Value)), K.lookup cc = some ⟨cl, cld, .cell (some (.ref C)), csl⟩
  top : (P.main.scope.names.lookup ("super" : Str)).isSome = false
theorem boot_super : bootBuiltins "super" = some (.type "super") := by first | rfl | kernel_rfl | decide +kernel
section
open PySem.W in
theorem mw_call {prog : Program} {w : World} {A : Around} {E : Value → Shared → Prop} {s : Shared} {nm q : Str} {C N u e t0 : Addr} {bs bm : List Value} {hdct : Bool} {sn : List Str} {sub : List Value} {ab : Bool} {col : Option Bool} {dd : Option Addr} {k0 k1 k2 k3 k5 : Option Value} {rest : List Value} {Q : Value → Shared → Prop}
    (hC : s.heap.get? C = some (excClassObj nm q C N bs bm hdct sn sub ab col dd k0 k1 k2 k3 k5 "ValueError.__new__")) (he : s.heap.get? e = some (PySem.HandSPX.excO C t0)) (hu : s.heap.get? u = some (kxs_mw veI e)) (hz : rest.length ≤ sizeLine)
    (h : ∀ h' t1, (∀ b o, b ≠ e → s.heap.get? b = some o → h'.get? b = some o) → h'.get? e = some (PySem.HandSPX.excO C t1) → Q .none { s with heap := h' }) : wpAny (model prog w) A (call (.ref u) rest) Q E s := by
  obtain ⟨hh, g, d, tk, os⟩ := s
  refine wpAny_call (codeAny_of_tree ?_)
  show wpAny _ A.in1 (callAny (.ref u) ⟨rest, []⟩) _ _ _
  simp only [callAny]
  refine wpAny_bind (wpAny_load hu ?_)
  simp only [kxs_mw, show (Value.type "method-wrapper" == Value.type "method" || Value.type "method-wrapper" == Value.type "builtin_function_or_method" || Value.type "method-wrapper" == Value.type "method-wrapper") = true by decide, if_true]
  refine KFB.if_so (by decide) ?_
  refine wpAny_bind (check_bound_init F.excBase_ValueError.toExcCallFacts hC he rfl ?_)
  refine wpAny_bind (wpAny_pure (wpAny_pure ?_))
  refine ⟨plainId_quiet F.excBase_ValueError.init.plain _, codeAny_builtin F.excBase_ValueError.initEntry ?_⟩
  rw [Around.under_plainId F.excBase_ValueError.init.plain _]
  exact exc_init_tree (cls := .ref C) (t0 := t0) (dv := none) (c2 := .none) (c3 := .none) (b4 := .bool false) he hz fun h' k e' t' => h h' _ k e'
variable {X : Cx} {C fI cc : Addr} {qual : Str} {params : Arguments} {body : List Stmt} {scope : Scope} {x m : Str} {p pos p0 p1 ap p2 p3 p4 : Pos} {j : Nat}
theorem pmk_sup (Ef : ExF X.prog X.K C fI cc qual params body scope) (hbody : body = [.Expr (.Call (.Attribute (.Call (.Name "super" p0) [] [] p1) "__init__" ap) [.Constant (.str m) j p2] [] p3) p4]) (hr : Room 3 X.A) (hg : Gl X x) (gC : X.mg x = some (.ref C)) (hs : X.mg "super" = none)
    (hbind : ∀ (kV doc pm : Value) (an : Option Addr) (cdv ct v : Value), bindArgs (PySem.W.fnX "__init__" qual params body scope [("__class__", cc)] .none kV doc pm an cdv ct) ⟨[v], []⟩ = (pure [(("self" : Str), v)] : Sem (List (Str × Value))))
    (ar : ∃ a : Arg, (params.posonlyargs ++ params.args).head? = some a ∧ a.arg = "self") (hks : scope.names.lookup ("super" : Str) = some .globalImplicit) (hkc : scope.names.lookup ("__class__" : Str) = some .free) (hka : scope.names.lookup ("self" : Str) = some .local) (hk : scope.kind = .function) (hcell : ∀ x ∈ scope.names, x.2 ≠ .cell)
    (hev : ∀ (kV doc pm : Value) (an : Option Addr) (cdv ct : Value) (L : Addr), ∃ pl : Sem Bool, eval (.Call (.Attribute (.Call (.Name "super" p0) [] [] p1) "__init__" ap) [.Constant (.str m) j p2] [] p3) (callEnv (PySem.W.fnX "__init__" qual params body scope [("__class__", cc)] .none kV doc pm an cdv ct) L fI) = (do
      let ov ← attributeBase (.Call (.Name "super" p0) [] [] p1) "__init__" (callEnv (PySem.W.fnX "__init__" qual params body scope [("__class__", cc)] .none kV doc pm an cdv ct) L fI) (eval (.Call (.Name "super" p0) [] [] p1) (callEnv (PySem.W.fnX "__init__" qual params body scope [("__class__", cc)] .none kV doc pm an cdv ct) L fI))
      standAt ap.atName
      let (f, first) ← holding [ov] (getMethod ov "__init__" pl)
      callWith p3 f first (backTo p3 (starEach [.Constant (.str m) j p2] (callEnv (PySem.W.fnX "__init__" qual params body scope [("__class__", cc)] .none kV doc pm an cdv ct) L fI))) []))
    (hsw : ∀ env : Env, swapsWith (.Call (.Attribute (.Call (.Name "super" p0) [] [] p1) "__init__" ap) [.Constant (.str m) j p2] [] p3) none p4.line env = pure false)
    (hco : scope.isCoroutine = false) (hgen : scope.isGenerator = false) (hdb : (x == ("__debug__" : Str)) = false := by decide) : PMk X (.Call (.Name x p) [] [] pos) (tBad C) := by
  intro pins s σ H Q I h
  refine wpAny_Call_Name_kw (ld_glob I hg gC ?_ hdb)
  refine PySem.W.callWith_K0 I.kIn Ef.kC ?_
  obtain ⟨nm, N, qn, bs, bm, hdct, sn, sub, ab, col, dd, k0, k1, k2, k3, k5, hC, hT⟩ := PySem.W.excInit_of I.kIn Ef.q
  obtain ⟨oc, od, kV, doc, pm, an, cda, ct, osl, lk, hcd, ccl, cdd, vs, ccs, file, tf, lcd, hvs, hfile⟩ := Ef.fn
  obtain ⟨cl, cld, csl, lcc⟩ := Ef.cell
  have nl := I.nolimit
  have K0 := I.kIn
  obtain ⟨mb, hmb, hbb⟩ := I.mod.blt
  have hmb := hmb.keeps I.bk
  have hglb := I.mod.glob.keeps I.bk
  have bare := I.bare
  obtain ⟨hp, g, dr, tk, os⟩ := s
  have kk : ∀ b o, hp.get? b = some o → ((hp.push (PySem.W.kdv_tup [])).push (PySem.HandSPX.excO C hp.objs.size)).get? b = some o := fun b o e => Heap.get?_push_of_some _ (Heap.get?_push_of_some _ e)
  have hget : ((hp.push (PySem.W.kdv_tup [])).push (PySem.HandSPX.excO C hp.objs.size)).get? (hp.objs.size + 1) = some (PySem.HandSPX.excO C hp.objs.size) := by heap_get
  have K1 : X.K.In ((hp.push (PySem.W.kdv_tup [])).push (PySem.HandSPX.excO C hp.objs.size)) := K0.keeps kk
  refine wpAny_call (PySem.HandSPX.call_own F.excBase_ValueError hT hC (PySem.W.looks_findIn K0 Ef.iC) (fun self => PySem.W.bind_fn K0 self Ef.tI) (by show 0 ≤ sizeLine; exact Nat.zero_le _) ?_)
  have hr' := hr.make C [] []
  obtain ⟨a, har, hae⟩ := ar
  subst hbody
  refine ks_codeAny_call_defAt (fd := PySem.W.fnX "__init__" qual params _ scope [("__class__", cc)] .none kV doc pm an (.ref cda) ct) (binds := [("self", .ref (hp.objs.size + 1))]) hr'.depth (K1 _ _ lk) rfl (nl.keeps kk) (PySem.W.codeRec_of K1 hcd) rfl (BindsTo.of_eq (hbind ..)) hcell (fun y hy => ?_) (fun h₀ hns hk0 => ?_) hco hgen hk
  · rw [List.mem_singleton.mp hy]
    exact hka
  have k2 : ∀ b o, hp.get? b = some o → h₀.get? b = some o := fun b o e => hk0 b o (kk b o e)
  have K2 : X.K.In h₀ := K0.keeps k2
  have he0 := hk0 _ _ hget
  have D0 : ∃ cdD, PySem.W.clsIn X.K C = some cdD := by
    have := Ef.sup
    unfold PySem.W.ks_superIn at this
    cases hc : PySem.W.clsIn X.K C with
    | none => rw [hc] at this; cases this
    | some cd => exact ⟨cd, rfl⟩
  obtain ⟨cdD, hcD⟩ := D0
  have hsupI := Ef.sup
  unfold PySem.W.ks_superIn at hsupI
  rw [hcD] at hsupI
  have xC : hp.objs.size + 1 ≠ C := by
    have h1 : C < hp.objs.size := Heap.lt_size hC
    exact fun z => absurd h1 (by rw [← z]; exact Nat.not_lt.mpr (Nat.le_succ _))
  obtain ⟨oD, hD1, hD2⟩ : ∃ oD, h₀.get? C = some oD ∧ oD.data = .cls cdD := by
    have hcD' := hcD
    unfold PySem.W.clsIn at hcD'
    split at hcD'
    · rename_i c d cd' sl ho
      cases hcD'
      exact ⟨_, K2 _ _ ho, rfl⟩
    · cases hcD'
  obtain ⟨pl, hev'⟩ := hev kV doc pm an (.ref cda) ct ((hp.push (PySem.W.kdv_tup [])).push (PySem.HandSPX.excO C hp.objs.size)).objs.size
  refine ks_wpAt_execs_cons (ks_wpAt_Expr_any (ks_wpAt_MethodCall (pl := pl) ?_ hev') (by show (scope.kind == .module && _) = false; rw [hk]; rfl) (hsw _))
  have K2i := K2
  refine ks_wpAt_super_base hks hkc (by decide) rfl (K2 _ _ lk) rfl har rfl (K2 _ _ lcd) rfl hvs hfile Ef.top ?_
  refine PySem.W.ks_loadName_global hk hks (Calls.loadGlobal_builtin (hglb.keeps k2) hs (hmb.keeps k2) ((hbb _ (by decide)).trans boot_super) ⟨rfl, ?_⟩)
  refine wpAny_loadName_free hk hkc rfl ⟨_, K2 _ _ lcc, rfl⟩ ?_
  refine wpAny_loadName_local (v := .ref (hp.objs.size + 1)) hk (by rw [hae]; exact hka) hns (by rw [hae]; rfl) ?_
  refine ks_wpAny_isType_cls hD1 hD2 ⟨rfl, ?_⟩
  refine ks_wpAny_call_super hD1 hD2 he0 rfl (fun c q => by cases q) (PySem.W.looks_mroIn K2 Ef.mr) fun h3 hso k3 => ?_
  have K3 : X.K.In h3 := K2.keeps k3
  have he3 := k3 _ _ he0
  have I3 : PySem.W.InstAt h3 (hp.objs.size + 1) (PySem.HandSPX.excO C hp.objs.size) C none := ⟨he3, rfl, rfl, trivial⟩
  have hI3 : PySem.W.Looks (model X.prog X.w) h3 (isInstance (.ref (hp.objs.size + 1)) (.type "ValueError")) true := I3.type.andThen (PySem.W.looks_subIn K3 Ef.vE)
  refine PySem.W.kxs_getMethod PySem.W.kxs_ValueError hso (PySem.W.looks_opaque K3 Ef.tp) (l₀ := cdD.mro) (fun A Q E s k q => wpAny_bind ((PySem.W.looks_clsIn K3 hcD) A _ E s k (wpAny_pure q))) rfl K3 hsupI hI3 xC (by decide) ?_
  refine PySem.W.kxs_callWith (i := veI) (x := hp.objs.size + 1) rfl (Calls.evalArgs_plain (Calls.spliced_cons (Calls.Constant_str (k := j) (pos := p2) (Calls.spliced_nil ?_))))
  have k4 : ∀ b o, h3.get? b = some o → (h3.push (PySem.W.kxs_mw veI (hp.objs.size + 1))).get? b = some o := fun b o e => Heap.get?_push_of_some _ e
  refine ⟨Heap.get?_push_size _ rfl, ?_⟩
  refine mw_call (k4 _ _ (k3 _ _ (k2 _ _ hC))) (k4 _ _ he3) (Heap.get?_push_size _ rfl) (by show 1 ≤ sizeLine; rw [sizeLine_eq]; omega) fun h' t1 kp he' => ?_
  have kf : ∀ b o, hp.get? b = some o → h'.get? b = some o := fun b o e => kp b o (Nat.ne_of_lt (Nat.lt_succ_of_lt (Heap.lt_size e))) (k4 _ _ (k3 _ _ (k2 b o e)))
  refine wpAt_of_wpAny (wpAny_execs_nil ?_)
  refine ⟨rfl, hp.objs.size + 1, _, _, ⟨hp, g, dr, tk, os⟩, H, .ref C, none, rfl, I, kf, Heap.get?_none_of_le (Nat.le_succ _), he', ⟨rfl, rfl⟩, rfl, rfl, I.hok.fresh (Nat.le_succ _), rfl, bare, raises_own Ef.exC Ef.tyC, h H (Same.refl _)⟩
end
theorem exF_of {K : PySem.W.Frag} {x qual : Str} {st : Stmt} (h : exB K x qual = true) (e : fnE K x = valFn qual st) : ∃ fI cc, ExF PW0 K (He.ga K x) fI cc qual (defArgs st) (defBody st) (defScope st) := by
  unfold exB at h
  simp only [Bool.and_eq_true, decide_eq_true_eq] at h
  obtain ⟨h1, h2, h3, h4, h5, h6, h7, h8, h9, h10, h11, h12, h13, h14⟩ := h
  have hl : ∃ cc, (∃ (cl : Value) (cld : Option Addr) (csl : Array (Option Value)), K.lookup cc = some ⟨cl, cld, .cell (some (.ref (He.ga K x))), csl⟩) ∧ ∃ (oc : Value) (od : Option Addr) (kV doc pm : Value) (an : Option Addr) (cda : Addr) (ct : Value) (osl : Array (Option Value)), K.lookup (He.ma K (He.ga K x) "__init__") = some ⟨oc, od, .func (PySem.W.fnX "__init__" qual (defArgs st) (defBody st) (defScope st) [("__class__", cc)] .none kV doc pm an (.ref cda) ct), osl⟩ ∧ PySem.W.codeIn K (.ref cda) qual = true ∧
      ∃ (ccl : Value) (cdd : Option Addr) (vs : Array Value) (ccs : Array (Option Value)) (file : Str) (tf : Tok), K.lookup cda = some ⟨ccl, cdd, .fields vs, ccs⟩ ∧ vs[2]? = some (.str file tf) ∧ ((PW0.main.file : Str) == file) = true := by
    unfold fnE He.fnW He.fAd at e
    unfold ccOf at h14
    unfold cdOf at h11 h13
    unfold fnB at h12
    revert e h11 h12 h13 h14
    cases q : K.lookup (He.ma K (He.ga K x) "__init__") with
    | none => intro e _ h12; cases h12
    | some o =>
      obtain ⟨oc, od, dt, osl⟩ := o
      cases dt with
      | func fd =>
        obtain ⟨n1, n2, n3, n4, n5, n6, n7, n8, n9, n10, n11, n12, n13, n14, n15⟩ := fd
        intro e h11 h12 h13 h14
        simp only [q, Option.map_some, valFn, Option.some.injEq, Prod.mk.injEq] at e
        obtain ⟨e1, e2, e3, e4, e5, e6, e7, e8⟩ := e
        subst e1 e2 e3 e4 e5 e6 e8
        cases n13 with
        | ref cda =>
          cases n7 with
          | nil => cases h12
          | cons y r =>
            cases r with
            | cons y2 r => cases h12
            | nil =>
              obtain ⟨yn, cc⟩ := y
              cases n8 <;> try (cases h12; done)
              have e7' : yn = ("__class__" : Str) := by
                have : [yn] = [("__class__" : Str)] := e7
                exact List.head_eq_of_cons_eq this
              subst e7'
              refine ⟨cc, ?_, oc, od, n9, n10, n11, n12, cda, n14, osl, rfl, h11, ?_⟩
              · replace h14 : cellB K cc (He.ga K x) = true := h14
                unfold cellB at h14
                split at h14
                · rename_i a b v d qq
                  have := of_decide_eq_true h14
                  subst this
                  exact ⟨_, _, _, qq⟩
                · cases h14
              · replace h13 : fileB K cda = true := h13
                unfold fileB at h13
                split at h13
                · rename_i a b vs d qq
                  split at h13
                  · rename_i file tf qf
                    exact ⟨_, _, vs, _, file, tf, qq, qf, h13⟩
                  · cases h13
                · cases h13
        | _ => cases h12
      | _ => intro e _ h12; cases h12
  obtain ⟨cc, hc, hf⟩ := hl
  exact ⟨_, cc, h1, h2, h3, h4, h5, h6, h7, h8, h9, h10, hf, hc, top_super⟩
theorem bx {w : World} {K : PySem.W.Frag} {mg : Str → Option Value} {base : Heap} (T : TX K mg) (e : seeE K = valE) : BX PW0 w K mg base := by
  have hx : eX K = true := congrArg (fun z : AlE => z.2.1) e
  have f1 : fnE K "BadPlace" = valFn "BadPlace.__init__" s_BadPlace_init := congrArg (fun z : AlE => z.2.2.1) e
  have f2 : fnE K "BadLength" = valFn "BadLength.__init__" s_BadLength_init := congrArg (fun z : AlE => z.2.2.2) e
  unfold eX at hx
  simp only [Bool.and_eq_true, decide_eq_true_eq] at hx
  obtain ⟨x1, x2, x3, x4, x5⟩ := hx
  obtain ⟨fI, cc, E1⟩ := exF_of x1 f1
  obtain ⟨fI2, cc2, E2⟩ := exF_of x2 f2
  refine ⟨fun X hP hw hK hm hb hc hr hg p pos => ?_, fun X hP hw hK hm hb hc hr hg p pos => ?_, x3, x4, x5⟩
  · subst hw hK hm hb
    exact pmk_sup (by rw [hP]; exact E1) rfl hr hg (g_BadPlace T) (n_super T) (fun _ _ _ _ _ _ _ => rfl) ⟨_, rfl, rfl⟩ (by decide +kernel) (by decide +kernel) (by decide +kernel) rfl (by decide +kernel) (fun _ _ _ _ _ _ _ => ⟨_, rfl⟩) (fun _ => rfl) rfl rfl
  · subst hw hK hm hb
    exact pmk_sup (by rw [hP]; exact E2) rfl hr hg (g_BadLength T) (n_super T) (fun _ _ _ _ _ _ _ => rfl) ⟨_, rfl, rfl⟩ (by decide +kernel) (by decide +kernel) (by decide +kernel) rfl (by decide +kernel) (fun _ _ _ _ _ _ _ => ⟨_, rfl⟩) (fun _ => rfl) rfl rfl
end K19
set_option maxHeartbeats 4000000
/-! The end of a law row whose run leaves generators asleep over generators. -/
namespace K19
open PySem PySem.Spec PyProof.Rows L2
theorem slp_forget {h : Heap} : ∀ {x y : GenState}, x.forget = y.forget → SlpOk h y → SlpOk h x
  | .suspended k l c p fs cl, .suspended k' l' c' p' fs' cl', e, q => by
    simp only [GenState.forget, GenState.suspended.injEq] at e
    obtain ⟨_, _, rfl, _, hf, rfl⟩ := e
    rcases q with q | ⟨q1, q2⟩
    · exact .inl q
    · refine .inr ⟨?_, q2⟩
      have z : (forgetAll fs).any Frame.guarded = (forgetAll fs').any Frame.guarded := by rw [hf]
      rw [any_guarded_forgetAll, any_guarded_forgetAll] at z
      rw [z]
      exact q1
  | .fresh _, _, _, _ => trivial
  | .running, _, _, _ => trivial
  | .finished, _, _, _ => trivial
  | .suspended .., .fresh _, e, _ => by cases e
  | .suspended .., .running, e, _ => by cases e
  | .suspended .., .finished, e, _ => by cases e
theorem sched_add {den : Code → Sem PySem.Fin} {prog : Program} {w : World} : ∀ (n m : Nat) (c c' : Config), schedN den prog w n c = .running c' → schedN den prog w (n + m) c = schedN den prog w m c'
  | 0, m, c, c', h => by
    have h : SRun.running c = .running c' := h
    cases h
    rw [Nat.zero_add]
  | n + 1, m, c, c', h => by
    rw [Nat.add_right_comm]
    show (match sstep den prog w c with | .go c' => schedN den prog w (n + m) c' | .halt o s => SRun.halted o s) = _
    have h : (match sstep den prog w c with | .go c' => schedN den prog w n c' | .halt o s => SRun.halted o s) = SRun.running c' := h
    cases hs : sstep den prog w c with
    | go c2 =>
      rw [hs] at h
      exact sched_add n m c2 c' h
    | halt o s =>
      rw [hs] at h
      cases h
/-- the caller's thread ends well -/
theorem ends_E {prog : Program} {w : World} {t : Sem PySem.Fin} {s : Shared} {R : Result → Shared → Prop} (hz : s.asleep) (h : wpE (model prog w) callerA t (fun fin s' => ∃ f, fin = .done f ∧ (R (.ok f) s' ∧ ∀ x ∈ s'.gens, SlpOk s'.heap x)) nE s) :
    ∃ n f s' s'', schedN (denote table) prog w n (.single s ⟨t, .builtin "claim.caller" {}, default, []⟩) = .halted (.done f) s' ∧ s'.heap = s''.heap ∧ s'.os = s''.os ∧ s'.heap.life = s.heap.life ∧ R (.ok f) s'' := by
  have hf : (Ctx.of (.builtin "claim.caller" {}) [] : PySem.Ctx).Fits [] := Ctx.fits_of _ _
  have ev := h (Ctx.of (.builtin "claim.caller" {}) []) [] default .pure .raise id id (fun s' t' => ∃ f c p, t' = ⟨.pure (.done f), c, p, []⟩ ∧ R (.ok f) s' ∧ ∀ x ∈ s'.gens, SlpOk s'.heap x) hf (by exact caller_in)
    (fun fin p' s' ⟨f, e, q⟩ => by subst e; exact .now ⟨f, _, p', rfl, q⟩) fun _ _ _ q => q.elim
  rw [wrap_self] at ev
  obtain ⟨n, s₂, t₂, s', t', hs, e1, e2, hz2, hl, f, c, p, rfl, hR, hg⟩ := ev.sched rfl rfl hz
  obtain ⟨cur, code, pos, st⟩ := t₂
  simp only [Thread.forget, Thread.mk.injEq] at e2
  obtain ⟨rfl, rfl, rfl, hst⟩ := e2
  have st0 : st = [] := by
    have : forgetAll st = [] := hst
    unfold forgetAll at this
    exact List.map_eq_nil_iff.mp this
  subst st0
  obtain ⟨eh, _, _, eo, eg⟩ := Shared.forget_eq e1
  have hg2 : ∀ x ∈ s₂.gens, SlpOk s₂.heap x := fun x hx => by
    rw [eh]
    obtain ⟨i, hi, rfl⟩ := Array.mem_iff_getElem.mp hx
    have e3 : (s₂.gens.map GenState.forget)[i]? = (s'.gens.map GenState.forget)[i]? := by rw [eg]
    rw [Array.getElem?_map, Array.getElem?_map, Array.getElem?_eq_getElem hi] at e3
    cases hy : s'.gens[i]? with
    | none => rw [hy] at e3; cases e3
    | some y =>
      rw [hy] at e3
      exact slp_forget (Option.some.inj e3) (hg y (Array.mem_of_getElem? hy))
  obtain ⟨s₃, hs3, h3, o3, _⟩ := end_sched (den := denote table) (prog := prog) (w := w) (f := f) hz2 hg2
  exact ⟨n + 1, f, s₃, s', (sched_add n 1 _ _ hs).trans hs3, h3.trans eh, o3.trans eo, by rw [h3]; exact hl, hR⟩
end K19
namespace PySem.W
open PySem.Spec PyProof.Rows K19
theorem ClaimW.callFrom_of_E {c : ClaimW} {tree : List Value → Sem PySem.Fin} {w : World} {s : Shared} {free : Addr → Prop} {gens : Prop} {kept : Heap → Prop} (hz : s.asleep) (hgens : s.gens = #[])
    (hspec : ∀ args, c.pre args = true → WData.layableAll args = true → ∀ ord : List DictEntry → List DictEntry, (∀ l, (ord l).Perm l) →
      ∃ vs s₁, layAllW c.records (classAt s.heap) w.params ord args s = some (vs, s₁) ∧
        wpE (model c.prog w) callerA (tree vs) (fun fin s' => ∃ f, fin = .done f ∧ ((c.Ends s args vs s₁ (.ok f) s' ∧ s'.os = s.os ∧ kept s'.heap) ∧ ∀ x ∈ s'.gens, SlpOk s'.heap x)) nE s₁) :
    c.CallFrom (fun vs => ⟨tree vs, .builtin "claim.caller" {}, default, []⟩) w free gens kept s := by
  intro args hpre hlay ord hord
  obtain ⟨vs, s₁, hlaid, hcode⟩ := hspec args hpre hlay ord hord
  have hal := layAllW_rest _ _ _ hlaid
  obtain ⟨n, f, s', s'', hsched, eh, eo, hl, hcase, hos, hkp⟩ := ends_E (prog := c.prog) (w := w) (t := tree vs) (s := s₁) (R := fun r s' => c.Ends s args vs s₁ r s' ∧ s'.os = s.os ∧ kept s'.heap) (Shared.asleep_of_life hal.2.2.2 hz) hcode
  have hcase := hcase.congr eh
  rw [← eh] at hkp
  rw [← eo] at hos
  refine ⟨vs, s₁, hlaid, n, _, s', hsched, ?_, (fun _ i x hx => by rw [hgens] at hx; simp at hx), hkp, by rw [hl.trans hal.2.2.2], Shared.rest_eq hos⟩
  rcases hcase with ⟨v, e, d1, d2, d3, d4, d5⟩ | ⟨e, ob, cls, q, _⟩
  · cases e
    exact .inl ⟨v, rfl, d1, d2, d3, fun b o y _ => d4 b o y, d5⟩
  · cases q
end PySem.W
set_option maxHeartbeats 4000000
/-! A law row over a run that leaves sleepers: its claim. -/
namespace PySem.W
open PySem.Spec PyProof.Rows K19
abbrev treeZ (name : Str) (vs : List Value) : Sem PySem.Fin := do match ← nsGet mainNs name with
  | some f => do ret (← PySem.call f vs)
  | none => unsupported "claim.caller:no-such-global"
/-- how the law's call goes -/
abbrev CallE (q : Program) (loose : List Str) (XP : (Str → Option Value) → Heap → Prop) (YP : World → Heap → Prop) (r : RowW) (d : DefRec) : Prop :=
  ∀ (w : World) (s₀ s₁ : Shared) (mg mb : Str → Option Value), Ground q loose r.records XP w s₀ mg mb s₁.heap → YP w s₁.heap → mg d.name ≠ none → ∀ (a : Addr), mg d.name = some (.ref a) → s₁.gens = #[] →
    ∀ (args : List WData) (vals : List Value) (as : List Addr), r.claim.pre args = true → WData.layableAll args = true → ReadsAllW r.records (classAt s₀.heap) s₁.heap vals args as → WellAll w.params s₁.heap vals args →
      wpE (model r.prog w) callerA (PySem.call (.ref a) vals) (fun v s' => GoodWG r.claim (classAt s₀.heap) (ExcName.means s₀.heap) args s₁ (.ok (.ret v)) { s' with gens := #[] } ∧ ∀ x ∈ s'.gens, SlpOk s'.heap x) nE s₁
theorem claim_E {r : RowW} {q : Program} {loose defs kps : List Str} {writes : Bool} {Xt : Shared → Bool} {XP : (Str → Option Value) → Heap → Prop} {α : Type} {Yf : Shared → α} {Ya : World → α} {YP : World → Heap → Prop} {N : Nat} {d : DefRec} {kwd : List (Str × Expr)}
    (left : LeftO r.prog q loose Xt Yf Ya N) (hY : ∀ w s, Yf s = Ya w → YP w s.heap) (hYk : ∀ w h h', YP w h → (∀ b o, h.get? b = some o → h'.get? b = some o) → YP w h') (hX : ∀ s, Xt s = true → XP (s.heap.nsMap mainGlobals) s.heap) (hXk : ∀ mg h h', XP mg h → (∀ b o, h.get? b = some o → h'.get? b = some o) → XP mg h')
    (hRf : ∀ s, Xt s = true → RecFacts r.records s.heap) (hwr : (!writes || r.records.isEmpty) = true) (ok : (chainsOk q && opensWell r.prog && (frees r && r.within.isEmpty)) = true) (hb : r.prog.bare) (hw : r.promised)
    (hdef : defOf q r.name = some (d, kwd))
    (pin : ∀ w s, s.heap.isNs mainGlobals = true → Ground q loose [] XP w s (s.heap.nsMap mainGlobals) (s.heap.nsMap builtinsNs) s.heap → ∀ n ∈ defs, isTheDefsW r.prog s.heap n)
    (call : CallE q loose XP YP r d) : r.claim.HoldsOpenBy (fun vs => ⟨treeZ r.name vs, .builtin "claim.caller" {}, default, []⟩) defs kps writes := by
  have ok3 := Bool.and_eq_true_iff.mp ok
  have ok1 := Bool.and_eq_true_iff.mp ok3.1
  have ok2 := Bool.and_eq_true_iff.mp ok3.2
  obtain ⟨q1, q2, q3, q4, q5⟩ := frees_parts ok2.1
  refine ⟨⟨hb, ok1.2, by show r.makers.map _ = []; rw [q5]; rfl⟩, hw.witness, fun w => ⟨(left.behind hX ok1.1 w).1, fun s' hs' => ?_⟩⟩
  have bh := (left.behind (XP := fun mg h => XP mg h ∧ RecFacts r.records h) (fun s hs => ⟨hX s hs, hRf s hs⟩) ok1.1 w).2 s' hs'
  obtain ⟨sA, hf, hg0, s, hT, hz, hgens, hg, GA, y⟩ := bh
  have GB : Ground q loose [] XP w s (s.heap.nsMap mainGlobals) (s.heap.nsMap builtinsNs) s.heap := ⟨GA.T, GA.B, GA.D, GA.TE, GA.TD, GA.W, GA.X.1, GA.cls, GA.has, GA.apart, GA.once, GA.K⟩
  refine ⟨sA, hf, hg0, s, hT, pin w s hg GB, GA.X.2.1, GA.X.2.2.1, ?_⟩
  have g0 : s.gens = #[] := Array.eq_empty_of_size_eq_zero (beq_iff_eq.mp hgens)
  have GC : Ground q loose r.records XP w s _ _ s.heap := GA.X.2.ground GB
  refine ClaimW.callFrom_of_E (c := r.claim) hz g0 fun args hpre hlay ord hord => ?_
  obtain ⟨⟨vs, s₁⟩, hlaid⟩ := Option.isSome_iff_exists.mp (layAllW_isSome (P := w.params) (ord := ord) GC.has args r.args s (pre_splitW hpre).1)
  have kp := layAllW_keeps _ _ _ hlaid
  have rs := layAllW_rest _ _ _ hlaid
  obtain ⟨as, hrd, hin, hold⟩ := reads_layAllW hord _ _ _ hlaid hlay s₁.heap (fun _ _ e => e)
  have L : Laid r.records w s s₁ args vs as := ⟨⟨ord, hord, hlaid⟩, hrd, hin, hold, kp, rs.1.trans g0, rs.2.2.1⟩
  have GD := GC.keeps hXk kp
  obtain ⟨a, o, pm, cd, doc, dV, kV, h1, h2, h3, h4, h5⟩ := GD.fn hdef
  have hn := defOf_name hdef
  have hi := ident_freeW q2 q3 q4
  have hwi : r.claim.within = [] := List.isEmpty_iff.mp ok2.2
  have hmg : (s.heap.nsMap mainGlobals) d.name = some (.ref a) := hn ▸ h1
  have cc := call w s s₁ _ _ GD (hYk _ _ _ (hY w s y) kp) (by rw [hmg]; exact fun z => by cases z) a hmg L.gens args vs as hpre hlay L.reads L.well
  refine ⟨vs, s₁, hlaid, ?_⟩
  refine wpE_bind (wpE_of (wpAny_nsGet GD.T.g ?_))
  rw [h1]
  refine wpE_bind (wpE_mono cc (fun v s' ⟨g, sl⟩ => ?_) fun _ _ q => q)
  have z := g.laid (c := r.claim) q1 hwi hi L
  exact wpE_pure ⟨.ret v, rfl, ⟨ClaimW.Ends.congr (s'' := { s' with gens := #[] }) rfl z.1, z.2.1, fun q => ⟨namesKept_of hT hg kps kp g.2.1.old, noTable hwr q⟩⟩, sl⟩
/-- the head with imports, such a call -/
theorem head_E {r : OpenRow} {q : Program} {H : Hook} {ob : SharedT → H.α} {M : Nat} {loose : List PySem.Str} {d : DefRec} {kwd : List (PySem.Str × PySem.Expr)} (ho : ∀ s : SharedT, ob s = H.obs s.abs) (run : ∀ w, HandSHeadRun.RunEqI r q H ob M loose w)
    (hdef : defOf q r.name = some (d, kwd)) (hp : r.prog.theDef r.name = some (d.params, d.body, d.scope)) (hk : kwWritten? d.params.kwonlyargs d.params.kw_defaults = some kwd)
    (hwr : (!r.writes || r.records.isEmpty) = true) (k1 : r.wellSaid = true) (ok : (chainsOk q && opensWell r.prog && (frees r.toRowW && r.within.isEmpty)) = true) (hb : r.prog.bare) (hw : r.toRowW.promised)
    (call : CallE q loose (XL q []) H.says r.toRowW d) : r.Holds := by
  have eo : ob = fun s => H.obs s.abs := funext ho
  have left : LeftO r.prog q loose (fun s => xlAt q [] s && recOk r.toRowW.records s) H.obs H.val M true := HandSHeadRun.left_imp fun w => by
    have z := run w
    rw [eo] at z
    simp only [HandSHeadRun.wholeQ_eq, HandSHeadRun.seenQ_eq]
    exact z
  refine ⟨k1, hw, claim_E (r := r.toRowW) (XP := XL q []) (YP := H.says) left H.of H.keeps (fun s z => xl_of s (Bool.and_eq_true_iff.mp z).1) XL.keeps (fun s z => recFacts_of (Bool.and_eq_true_iff.mp z).2) hwr ok hb hw hdef (fun w s hg G n hn => ?_) call⟩
  obtain rfl : n = r.name := by split at hn <;> simp_all
  exact pinned_of_view hg G hdef hp hk
end PySem.W
namespace K19
open PySem PySem.Spec PyProof.Rows L2
open PySem.W in
/-- a law over a script of whole numbers -/
theorem callE_of {l : PySem.W.OpenLaw} {n : Nat} {q : Program} {loose : List Str} {XP : (Str → Option Value) → Heap → Prop} {YP : World → Heap → Prop} {d : DefRec} (hn : l.most = some n)
    (call : ∀ (w : World) (s₀ s₁ : Shared) (mg mb : Str → Option Value) (fa a : Addr) (vs : List Value) (ns : List Int), Ground q loose [] XP w s₀ mg mb s₁.heap → YP w s₁.heap → mg d.name = some (.ref fa) →
      s₁.heap.get? a = some { cls := .type "list", data := .seq vs.toArray } → IntsAre vs ns → ns.length ≤ n → s₁.gens = #[] →
      codeE (model l.prog w) callerA (.call (.ref fa) ⟨[.ref a], []⟩) (fun r s' => r = .ok (.ret (.bool true)) ∧ OldK s₁.heap s'.heap ∧ s'.os = s₁.os ∧ ∀ x ∈ s'.gens, SlpOk s'.heap x) s₁) :
    PySem.W.CallE q loose XP YP l.row.toRowW d := by
  intro w s₀ s₁ mg mb G Y _ fa hmg hg args vals as hpre hlay hrd hwl
  obtain ⟨a, vs, ns, rfl, rfl, hobj, hints, hlen⟩ := Att.script_of hn hpre hwl
  refine wpE_call (codeE_mono (call w s₀ s₁ mg mb fa a vs ns G Y hmg hobj hints hlen hg) fun r s' ⟨e, h2, h3, h4⟩ => ?_)
  subst e
  exact ⟨⟨.inl ⟨.bool true, .bool true, [], rfl, fun _ => rfl, .bool true, Att.post_true l _, fun _ => ⟨List.Pairwise.nil, fun _ hm => (nomatch hm)⟩⟩, h2, h3, fun x hx => absurd hx (by simp)⟩, h4⟩
theorem un_none {z : Shared} : un (fun _ => none) z = z := by
  unfold un
  have e : z.gens.mapIdx (fun i x => (none : Option GenState).getD x) = z.gens := by
    apply Array.ext_getElem?
    intro i
    rw [Array.getElem?_mapIdx]
    cases z.gens[i]? <;> rfl
  rw [e]
/-- the law's call, from its promise -/
theorem law_callE {P : Program} {w : World} {K : PySem.W.Frag} {mg mb : Str → Option Value} {k : Nat} {fa a : Addr} {x : Str} {sp : Sp} {s₁ : Shared} {vs : List Value} {ns : List Int}
    (KX : K.In s₁.heap) (hns : s₁.heap.Ns mainGlobals mg) (hb : s₁.heap.Ns builtinsNs mb) (hbb : ∀ x : Str, x ≠ "__name__" → mb x = bootBuiltins x) (hlim : s₁.heap.NoLimit) (hg : s₁.gens = #[])
    (ha : s₁.heap.get? a = some { cls := .type "list", data := .seq vs.toArray }) (hi : IntsAre vs ns) (hl : ns.length ≤ sizeLine) (hr : Room k callerA)
    (F : ∀ base : Heap, K.In base → base.Ns mainGlobals mg → ∃ fd, Fn2 P w K mg base k fa fd [x] sp ∧ Binds K fd [x] [])
    (hsp : ∀ H : Hp, SqL K H a (ns.map V.int) → sp [.ref a] H (fun v _ => v = .bl true) noE) :
    codeE (model P w) callerA (.call (.ref fa) ⟨[.ref a], []⟩) (fun r s' => r = .ok (.ret (.bool true)) ∧ OldK s₁.heap s'.heap ∧ s'.os = s₁.os ∧ ∀ x ∈ s'.gens, SlpOk s'.heap x) s₁ := by
  have rv := vals_ints hi
  have lenV := hi.length
  have core : ∀ H : Hp, Only H → SqL K H a (ns.map V.int) → HOk P w H s₁.heap → (∀ b, H b ≠ none → b = a) → (H a ≠ none → K.lookup a = none) →
      codeE (model P w) callerA (.call (.ref fa) ⟨[.ref a], []⟩) (fun r s' => r = .ok (.ret (.bool true)) ∧ OldK s₁.heap s'.heap ∧ s'.os = s₁.os ∧ ∀ x ∈ s'.gens, SlpOk s'.heap x) s₁ := by
    intro H hO hS hok hA hK
    have at_ : ∀ {b : Addr}, H b ≠ none → b = a := fun {b} z => hA b z
    have noA : ∀ {b : Addr} {o : Obj}, s₁.heap.get? b = some o → (∀ u n, o.data ≠ .seq u n) → H b = none := fun {b o} e dz => by
      cases q : H b with
      | none => rfl
      | some u =>
        obtain rfl := at_ (b := b) (by rw [q]; exact fun z => by cases z)
        rw [ha] at e
        cases e
        exact absurd rfl (dz _ _)
    have nsK : ∀ {b : Addr} {m : Str → Option Value}, s₁.heap.Ns b m → (hidT s₁.heap H).Ns b m := fun {b m} ⟨o, es, ep, e, dd, r⟩ => ⟨o, es, ep, hidT_get e (noA e fun u n z => by rw [dd] at z; cases z), dd, r⟩
    have hKb : K.In (hidT s₁.heap H) := fun b o e => hidT_get (KX b o e) (by
      cases q : H b with
      | none => rfl
      | some u =>
        obtain rfl := at_ (b := b) (by rw [q]; exact fun z => by cases z)
        rw [hK (by rw [q]; exact fun z => by cases z)] at e
        cases e)
    have hM : Mod K mg (hidT s₁.heap H) := ⟨hKb, nsK hns, ⟨mb, nsK hb, hbb⟩, hlim.elim fun mc h => ⟨mc, nsK h.1, h.2⟩⟩
    have e0 : Env0 P w K mg (hidT s₁.heap H) callerA [] s₁ H := ⟨rfl, hM, fun b o e => of_hidT e, Nat.le_of_eq (hidT_size _ _), trivial, fun b z => absurd (show b ∈ ([] : List Addr) from z) (by simp), hok, .of_eq hg⟩
    have hd : Hid (fun _ => none) [] s₁ := ⟨⟨fun i G z => (by cases z), fun i y _ z => by rw [hg] at z; simp at z⟩, fun i G z => (by cases z), fun q z => by simp at z⟩
    obtain ⟨fd, F2, hbd⟩ := F _ hKb (nsK hns)
    have main := F2.run callerA [] s₁ H ⟨[.ref a], []⟩ [.ref a] [.ref a] (fun v _ => v = .bl true) (fun _ => none) [] hr e0 (hbd s₁ [.ref a] KX rfl) (.cons rfl .nil) (hsp H hS) hd fun q z => by simp at z
    rw [un_none] at main
    refine codeE_mono main fun r s' h => ?_
    cases r with
    | error e => exact h.elim
    | ok fl =>
      cases fl with
      | next => exact h.elim
      | brk => exact h.elim
      | cont => exact h.elim
      | ret u =>
        obtain ⟨f', dp', z', v, H', es, hd', pd, os, bare, un, hok', r', q'⟩ := h
        subst q' es
        obtain rfl : u = Value.bool true := r'
        refine ⟨rfl, OldK.of_keep fun b o e => ?_, os, fun y hy => ?_⟩
        · cases q : H b with
          | none => exact un.keep b o e q (fun z => absurd (show b ∈ ([] : List Addr) from z) (by simp)) (by simp)
          | some u =>
            rcases hO b with z | ⟨ob, xs, z⟩
            · rw [q] at z; cases z
            · have z2 := un.frzs b ob _ z
              have e1 := (hok b _ z).1
              rw [e] at e1
              cases e1
              exact (hok' b _ z2).1
        · obtain ⟨i, hi, rfl⟩ := Array.mem_iff_getElem.mp hy
          have e3 := un_get (f := f') (s := z') i
          rw [Array.getElem?_eq_getElem hi] at e3
          cases hz : z'.gens[i]? with
          | none => rw [hz] at e3; cases e3
          | some y =>
            rw [hz] at e3
            have e4 := Option.some.inj e3
            rw [e4]
            cases hf : f' i with
            | some G =>
              show SlpOk z'.heap ((some G).getD y)
              have ok := hd'.ok i G hf
              show SlpOk z'.heap G
              cases G with
              | suspended kk l c p fs cl =>
                rcases ok with ok | ⟨o1, b, as, kw, o, n, o2, o3, o4⟩
                · exact .inl ok
                · exact .inr ⟨o1, b, as, kw, o, n, o2, (pd (b, o) o3).1, o4⟩
              | _ => trivial
            | none =>
              have b := bare y (Array.mem_of_getElem? hz)
              show SlpOk z'.heap y
              cases y with
              | suspended kk l c p fs cl =>
                refine .inl ?_
                have b : (!cl) = true := b
                cases cl
                · rfl
                · cases b
              | _ => trivial
  cases hk : K.lookup a with
  | some o =>
    have e := KX a o hk
    rw [ha] at e
    cases e
    exact core (fun _ => none) (fun _ => .inl rfl) (.inr ⟨_, vs.toArray, _, hk, rfl, rfl, rfl, by rw [List.size_toArray, lenV]; exact hl, by simpa using rv⟩) (fun b u z => by cases z) (fun b z => absurd rfl z) fun z => absurd rfl z
  | none =>
    let H1 : Hp := fun b => if b = a then some (.frz { cls := .type "list", data := .seq vs.toArray } (.lst (ns.map V.int))) else none
    have h1 : H1 a = some (.frz { cls := .type "list", data := .seq vs.toArray } (.lst (ns.map V.int))) := if_pos rfl
    have h2 : ∀ b, b ≠ a → H1 b = none := fun b z => if_neg z
    refine core H1 (fun b => ?_) (.inl (.inr ⟨_, h1⟩)) (fun b u z => ?_) (fun b z => Decidable.byContradiction fun y => z (h2 b y)) fun _ => hk
    · by_cases hb : b = a
      · exact .inr ⟨_, _, by rw [hb]; exact h1⟩
      · exact .inl (h2 b hb)
    · by_cases hb : b = a
      · subst hb
        rw [h1] at z
        cases z
        exact ⟨ha, by rw [List.length_map]; exact hl, vs, _, rv, ha⟩
      · rw [h2 b hb] at z
        cases z
end K19
set_option maxHeartbeats 0
/-! The law holds. -/
namespace K19
open PySem PySem.Spec PyProof.Rows L2
theorem join3 {α β γ δ : Type} {o : Option α} {f : α → β} {g : α → γ} {h : α → δ} {a : β} {b : γ} {c : δ} (h1 : o.map f = some a) (h2 : o.map g = some b) (h3 : o.map h = some c) : o.map (fun x => (f x, g x, h x)) = some (a, b, c) := by
  cases o with
  | none => cases h1
  | some x =>
    have e1 : f x = a := Option.some.inj h1
    have e2 : g x = b := Option.some.inj h2
    have e3 : h x = c := Option.some.inj h3
    show some (f x, g x, h x) = _
    rw [e1, e2, e3]
theorem runI (w : World) : HandSHeadRun.RunEqI RR (PySem.W.view RR.prog [0, 101]) hkE obE 40000 lo w := join3 (run1 w) (run2 w) (run3 w)
theorem call_law {q : Program} {XP : (Str → Option Value) → Heap → Prop} {d : DefRec} (hd : d.name = ("law" : Str)) : PySem.W.CallE q lo XP hkE.says (PySem.W.OpenLaw.row PySem.Challenge.rw_stillarms_k19_whole_distances_for_all_po).toRowW d := by
  refine callE_of (l := PySem.Challenge.rw_stillarms_k19_whole_distances_for_all_po) (n := 63) rfl fun w s₀ s₁ mg mb fa a vs ns G Y hmg hobj hints hlen hg => ?_
  obtain ⟨K, KX, e⟩ := Y
  have T : TX K mg := ⟨⟨_, KX, G.T.g⟩, congrArg (fun z : AlE => z.1) e⟩
  have hf : fa = He.ga K "law" := by
    rw [hd, g_law T] at hmg
    cases hmg
    rfl
  subst hf
  refine law_callE (k := 25) (x := "_law_script") (sp := spT K (r_law K)) KX G.T.g G.T.b G.T.builtins G.T.nolimit hg hobj hints (Nat.le_trans hlen (by decide)) ⟨rfl, by decide, by decide⟩ (fun base hb hn => ?_) fun H hS => ?_
  · exact (ok2_law T (bx T e)).fn
  · exact ⟨[.ref a], .cons .ref .nil, ⟨a, ns, rfl, hS, Nat.le_trans hlen (by decide)⟩, fun v H' r => by cases r; rfl⟩
end K19
open PySem PySem.W PySem.Calls PyProof.Rows
theorem PySem.Challenge.cw_stillarms_k19_whole_distances_for_all_po_holds : PySem.Challenge.rw_stillarms_k19_whole_distances_for_all_po.Holds := by
  w_on; o_law
  refine PySem.W.head_E (r := OpenLaw.row PySem.Challenge.rw_stillarms_k19_whole_distances_for_all_po) (q := view (OpenLaw.row PySem.Challenge.rw_stillarms_k19_whole_distances_for_all_po).prog [0, 101]) (H := K19.hkE) (ob := K19.obE) (M := 40000) (loose := K19.lo)
    (d := HandSHeadRun.topDef (OpenLaw.row PySem.Challenge.rw_stillarms_k19_whole_distances_for_all_po).prog 101) (kwd := []) K19.obE_eq K19.runI (by kernel_rfl) (by kernel_rfl) (by kernel_rfl) (by rfl) (by first | assumption | decide +kernel) (by decide +kernel) ⟨rfl, rfl, rfl, rfl, rfl, by decide +kernel⟩ ?hw ?hc
  case hw => w_witness2
  case hc => exact K19.call_law (by kernel_rfl)
