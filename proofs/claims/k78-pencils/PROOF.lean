import PyProof.Rows.All
import Wide.All
import OpenK.AllK
import Wide.FinOn
import KE.KStateDown
import HandS.Head0
import HandS.Head1
import HandS.Head2
import HandS.Head3
import HandS.HeadEnd
import HandS.HeadHook1
import HandS.HeadHook2
import HandS.HeadHook3
import HandS.HeadHook4
import HandS.ForMost
import HandS.TupAny
import HandS.Zip
import HandS.Wide
import HandS.Gcd
import HandS.Style
import HandS.Deep
import HandS.Flow
import HandS.IsInst
import HandS.Defaults
import HandS.TupLen
import HandS.Small
import HandS.TryOnly
import KE.GoesMore
import KE.GoesEnum
import KE.GoesZip
import HandS.CallLocal
import HandS.TupSets
import HandS.Conv
import HandS.Star
import KE.KRevSl
import PySem.Challenge.RW_flatviews_k78_whole_pencils_and_last_com
set_option Elab.async false
set_option linter.all false
set_option maxRecDepth 100000
set_option maxHeartbeats 0
namespace PyD
open PySem PySem.Spec PyProof.Rows L2
def law_at (i : Nat) : Stmt := PySem.Challenge.pw_flatviews_k78_whole_pencils_and_last_com.main.body.getD i (.Pass ⟨0, 0, 0, 0⟩)
abbrev s_is_whole : Stmt := law_at 9
abbrev s_is_tuple_up_to : Stmt := law_at 10
abbrev s_is_tuple_of : Stmt := law_at 11
abbrev s_are_whole : Stmt := law_at 13
abbrev s_divisor_of : Stmt := law_at 14
abbrev s_first_live : Stmt := law_at 15
abbrev s_plain_of : Stmt := law_at 16
abbrev s_is_plain : Stmt := law_at 17
abbrev s_dot : Stmt := law_at 18
abbrev s_cross : Stmt := law_at 19
abbrev s_block : Stmt := law_at 20
abbrev s_scaled : Stmt := law_at 21
abbrev s_added : Stmt := law_at 22
abbrev s_table_times : Stmt := law_at 23
abbrev s_turned_table : Stmt := law_at 24
abbrev s_adjugate : Stmt := law_at 25
abbrev s_table_of : Stmt := law_at 26
abbrev s_is_triple : Stmt := law_at 28
abbrev s_wrong_in_figure : Stmt := law_at 29
abbrev s_is_view_of : Stmt := law_at 30
abbrev s_check_point : Stmt := law_at 31
abbrev s_check_figure : Stmt := law_at 32
abbrev s_check_view : Stmt := law_at 33
abbrev s_table_by : Stmt := law_at 36
abbrev s_curve_of_table : Stmt := law_at 37
abbrev s_is_full_by : Stmt := law_at 38
abbrev s_products_of : Stmt := law_at 39
abbrev s_value_by : Stmt := law_at 40
abbrev s_is_on_by : Stmt := law_at 42
abbrev s_polar_by : Stmt := law_at 43
abbrev s_turned_by : Stmt := law_at 44
abbrev s_is_curve_of : Stmt := law_at 46
abbrev s_check_curve : Stmt := law_at 47
abbrev s_check_full : Stmt := law_at 48
abbrev s_value_by_2 : Stmt := law_at 50
abbrev s_are_on_by : Stmt := law_at 52
abbrev s_other_on : Stmt := law_at 53
abbrev s_second_by : Stmt := law_at 54
abbrev s_second_of : Stmt := law_at 55
abbrev s_mixed_curve : Stmt := law_at 57
abbrev s_pencil_by : Stmt := law_at 58
abbrev s_minors_of : Stmt := law_at 59
abbrev s_are_dependent : Stmt := law_at 60
abbrev s_beyond : Stmt := law_at 61
abbrev s_other_line : Stmt := law_at 62
abbrev s_last_by : Stmt := law_at 63
abbrev s_check_two_curves : Stmt := law_at 65
abbrev s_pencil_curve : Stmt := law_at 66
abbrev s_are_in_pencil : Stmt := law_at 67
abbrev s_last_common : Stmt := law_at 68
abbrev s_is_on_curve : Stmt := law_at 70
abbrev s_polar : Stmt := law_at 71
abbrev s_turned_curve : Stmt := law_at 72
abbrev s__law_pool : Stmt := law_at 74
abbrev s__law_below : Stmt := law_at 75
abbrev s__law_one : Stmt := law_at 76
abbrev s__law_common : Stmt := law_at 77
abbrev s__law_plain : Stmt := law_at 78
abbrev s__law_cross : Stmt := law_at 79
abbrev s__law_dot : Stmt := law_at 80
abbrev s__law_block : Stmt := law_at 81
abbrev s__law_times : Stmt := law_at 82
abbrev s__law_point : Stmt := law_at 83
abbrev s__law_view : Stmt := law_at 84
abbrev s__law_turn : Stmt := law_at 85
abbrev s__law_adjugate : Stmt := law_at 86
abbrev s__law_table : Stmt := law_at 87
abbrev s__law_value : Stmt := law_at 88
abbrev s__law_is_full : Stmt := law_at 89
abbrev s__law_turned_curve : Stmt := law_at 90
abbrev s__law_round : Stmt := law_at 91
abbrev s__law_curve : Stmt := law_at 92
abbrev s__law_same : Stmt := law_at 93
abbrev s__law_lines : Stmt := law_at 94
abbrev s__law_is_mixed : Stmt := law_at 95
abbrev s__law_pair : Stmt := law_at 96
abbrev s__law_is_point_right : Stmt := law_at 97
abbrev s__law_right : Stmt := law_at 98
abbrev s_law : Stmt := law_at 99
def d_0 : He.DefD := ⟨("is_whole", none), "is_whole", "is_whole", defArgs s_is_whole, defBody s_is_whole, defScope s_is_whole, [], []⟩
def d_1 : He.DefD := ⟨("is_tuple_up_to", none), "is_tuple_up_to", "is_tuple_up_to", defArgs s_is_tuple_up_to, defBody s_is_tuple_up_to, defScope s_is_tuple_up_to, [], []⟩
def d_2 : He.DefD := ⟨("is_tuple_of", none), "is_tuple_of", "is_tuple_of", defArgs s_is_tuple_of, defBody s_is_tuple_of, defScope s_is_tuple_of, [], []⟩
def d_3 : He.DefD := ⟨("are_whole", none), "are_whole", "are_whole", defArgs s_are_whole, defBody s_are_whole, defScope s_are_whole, [], []⟩
def d_4 : He.DefD := ⟨("divisor_of", none), "divisor_of", "divisor_of", defArgs s_divisor_of, defBody s_divisor_of, defScope s_divisor_of, [], []⟩
def d_5 : He.DefD := ⟨("first_live", none), "first_live", "first_live", defArgs s_first_live, defBody s_first_live, defScope s_first_live, [], []⟩
def d_6 : He.DefD := ⟨("plain_of", none), "plain_of", "plain_of", defArgs s_plain_of, defBody s_plain_of, defScope s_plain_of, [], []⟩
def d_7 : He.DefD := ⟨("is_plain", none), "is_plain", "is_plain", defArgs s_is_plain, defBody s_is_plain, defScope s_is_plain, [], []⟩
def d_8 : He.DefD := ⟨("dot", none), "dot", "dot", defArgs s_dot, defBody s_dot, defScope s_dot, [], []⟩
def d_9 : He.DefD := ⟨("cross", none), "cross", "cross", defArgs s_cross, defBody s_cross, defScope s_cross, [], []⟩
def d_10 : He.DefD := ⟨("block", none), "block", "block", defArgs s_block, defBody s_block, defScope s_block, [], []⟩
def d_11 : He.DefD := ⟨("scaled", none), "scaled", "scaled", defArgs s_scaled, defBody s_scaled, defScope s_scaled, [], []⟩
def d_12 : He.DefD := ⟨("added", none), "added", "added", defArgs s_added, defBody s_added, defScope s_added, [], []⟩
def d_13 : He.DefD := ⟨("table_times", none), "table_times", "table_times", defArgs s_table_times, defBody s_table_times, defScope s_table_times, [], []⟩
def d_14 : He.DefD := ⟨("turned_table", none), "turned_table", "turned_table", defArgs s_turned_table, defBody s_turned_table, defScope s_turned_table, [], []⟩
def d_15 : He.DefD := ⟨("adjugate", none), "adjugate", "adjugate", defArgs s_adjugate, defBody s_adjugate, defScope s_adjugate, [], []⟩
def d_16 : He.DefD := ⟨("table_of", none), "table_of", "table_of", defArgs s_table_of, defBody s_table_of, defScope s_table_of, [], []⟩
def d_17 : He.DefD := ⟨("is_triple", none), "is_triple", "is_triple", defArgs s_is_triple, defBody s_is_triple, defScope s_is_triple, [], []⟩
def d_18 : He.DefD := ⟨("is_view_of", none), "is_view_of", "is_view_of", defArgs s_is_view_of, defBody s_is_view_of, defScope s_is_view_of, [], []⟩
def d_19 : He.DefD := ⟨("check_point", none), "check_point", "check_point", defArgs s_check_point, defBody s_check_point, defScope s_check_point, [], []⟩
def d_20 : He.DefD := ⟨("check_view", none), "check_view", "check_view", defArgs s_check_view, defBody s_check_view, defScope s_check_view, [], []⟩
def d_21 : He.DefD := ⟨("table_by", none), "table_by", "table_by", defArgs s_table_by, defBody s_table_by, defScope s_table_by, [], []⟩
def d_22 : He.DefD := ⟨("curve_of_table", none), "curve_of_table", "curve_of_table", defArgs s_curve_of_table, defBody s_curve_of_table, defScope s_curve_of_table, [], []⟩
def d_23 : He.DefD := ⟨("is_full_by", none), "is_full_by", "is_full_by", defArgs s_is_full_by, defBody s_is_full_by, defScope s_is_full_by, [], []⟩
def d_24 : He.DefD := ⟨("products_of", none), "products_of", "products_of", defArgs s_products_of, defBody s_products_of, defScope s_products_of, [], []⟩
def d_25 : He.DefD := ⟨("value_by_curvework", none), "value_by", "value_by", defArgs s_value_by, defBody s_value_by, defScope s_value_by, [], []⟩
def d_26 : He.DefD := ⟨("is_on_by", none), "is_on_by", "is_on_by", defArgs s_is_on_by, defBody s_is_on_by, defScope s_is_on_by, [], []⟩
def d_27 : He.DefD := ⟨("polar_by", none), "polar_by", "polar_by", defArgs s_polar_by, defBody s_polar_by, defScope s_polar_by, [], []⟩
def d_28 : He.DefD := ⟨("turned_by", none), "turned_by", "turned_by", defArgs s_turned_by, defBody s_turned_by, defScope s_turned_by, [], []⟩
def d_29 : He.DefD := ⟨("is_curve_of", none), "is_curve_of", "is_curve_of", defArgs s_is_curve_of, defBody s_is_curve_of, defScope s_is_curve_of, [], []⟩
def d_30 : He.DefD := ⟨("check_curve", none), "check_curve", "check_curve", defArgs s_check_curve, defBody s_check_curve, defScope s_check_curve, [], []⟩
def d_31 : He.DefD := ⟨("value_by_curvepointwork", none), "value_by", "value_by", defArgs s_value_by_2, defBody s_value_by_2, defScope s_value_by_2, [], []⟩
def d_32 : He.DefD := ⟨("other_on", none), "other_on", "other_on", defArgs s_other_on, defBody s_other_on, defScope s_other_on, [], []⟩
def d_33 : He.DefD := ⟨("second_of", none), "second_of", "second_of", defArgs s_second_of, defBody s_second_of, defScope s_second_of, [], []⟩
def d_34 : He.DefD := ⟨("second_by", none), "second_by", "second_by", defArgs s_second_by, defBody s_second_by, defScope s_second_by, [], []⟩
def d_35 : He.DefD := ⟨("are_on_by", none), "are_on_by", "are_on_by", defArgs s_are_on_by, defBody s_are_on_by, defScope s_are_on_by, [], []⟩
def d_36 : He.DefD := ⟨("is_on_curve", none), "is_on_curve", "is_on_curve", defArgs s_is_on_curve, defBody s_is_on_curve, defScope s_is_on_curve, [], []⟩
def d_37 : He.DefD := ⟨("turned_curve", none), "turned_curve", "turned_curve", defArgs s_turned_curve, defBody s_turned_curve, defScope s_turned_curve, [], []⟩
def d_38 : He.DefD := ⟨("_law_pool", none), "_law_pool", "_law_pool", defArgs s__law_pool, defBody s__law_pool, defScope s__law_pool, [], []⟩
def d_39 : He.DefD := ⟨("_law_below", none), "_law_below", "_law_below", defArgs s__law_below, defBody s__law_below, defScope s__law_below, [], []⟩
def d_40 : He.DefD := ⟨("_law_one", none), "_law_one", "_law_one", defArgs s__law_one, defBody s__law_one, defScope s__law_one, [], []⟩
def d_41 : He.DefD := ⟨("_law_common", none), "_law_common", "_law_common", defArgs s__law_common, defBody s__law_common, defScope s__law_common, [], []⟩
def d_42 : He.DefD := ⟨("_law_plain", none), "_law_plain", "_law_plain", defArgs s__law_plain, defBody s__law_plain, defScope s__law_plain, [], []⟩
def d_43 : He.DefD := ⟨("_law_cross", none), "_law_cross", "_law_cross", defArgs s__law_cross, defBody s__law_cross, defScope s__law_cross, [], []⟩
def d_44 : He.DefD := ⟨("_law_dot", none), "_law_dot", "_law_dot", defArgs s__law_dot, defBody s__law_dot, defScope s__law_dot, [], []⟩
def d_45 : He.DefD := ⟨("_law_block", none), "_law_block", "_law_block", defArgs s__law_block, defBody s__law_block, defScope s__law_block, [], []⟩
def d_46 : He.DefD := ⟨("_law_times", none), "_law_times", "_law_times", defArgs s__law_times, defBody s__law_times, defScope s__law_times, [], []⟩
def d_47 : He.DefD := ⟨("_law_point", none), "_law_point", "_law_point", defArgs s__law_point, defBody s__law_point, defScope s__law_point, [], []⟩
def d_48 : He.DefD := ⟨("_law_view", none), "_law_view", "_law_view", defArgs s__law_view, defBody s__law_view, defScope s__law_view, [], []⟩
def d_49 : He.DefD := ⟨("_law_turn", none), "_law_turn", "_law_turn", defArgs s__law_turn, defBody s__law_turn, defScope s__law_turn, [], []⟩
def d_50 : He.DefD := ⟨("_law_adjugate", none), "_law_adjugate", "_law_adjugate", defArgs s__law_adjugate, defBody s__law_adjugate, defScope s__law_adjugate, [], []⟩
def d_51 : He.DefD := ⟨("_law_table", none), "_law_table", "_law_table", defArgs s__law_table, defBody s__law_table, defScope s__law_table, [], []⟩
def d_52 : He.DefD := ⟨("_law_turned_curve", none), "_law_turned_curve", "_law_turned_curve", defArgs s__law_turned_curve, defBody s__law_turned_curve, defScope s__law_turned_curve, [], []⟩
def d_53 : He.DefD := ⟨("_law_round", none), "_law_round", "_law_round", defArgs s__law_round, defBody s__law_round, defScope s__law_round, [], []⟩
def d_54 : He.DefD := ⟨("_law_same", none), "_law_same", "_law_same", defArgs s__law_same, defBody s__law_same, defScope s__law_same, [], []⟩
def d_55 : He.DefD := ⟨("wrong_in_figure", none), "wrong_in_figure", "wrong_in_figure", defArgs s_wrong_in_figure, defBody s_wrong_in_figure, defScope s_wrong_in_figure, [], []⟩
def d_56 : He.DefD := ⟨("check_figure", none), "check_figure", "check_figure", defArgs s_check_figure, defBody s_check_figure, defScope s_check_figure, [], []⟩
def d_57 : He.DefD := ⟨("check_full", none), "check_full", "check_full", defArgs s_check_full, defBody s_check_full, defScope s_check_full, [], []⟩
def d_58 : He.DefD := ⟨("polar", none), "polar", "polar", defArgs s_polar, defBody s_polar, defScope s_polar, [], []⟩
def d_59 : He.DefD := ⟨("mixed_curve", none), "mixed_curve", "mixed_curve", defArgs s_mixed_curve, defBody s_mixed_curve, defScope s_mixed_curve, [], []⟩
def d_60 : He.DefD := ⟨("pencil_by", none), "pencil_by", "pencil_by", defArgs s_pencil_by, defBody s_pencil_by, defScope s_pencil_by, [], []⟩
def d_61 : He.DefD := ⟨("beyond", none), "beyond", "beyond", defArgs s_beyond, defBody s_beyond, defScope s_beyond, [], []⟩
def d_62 : He.DefD := ⟨("other_line", none), "other_line", "other_line", defArgs s_other_line, defBody s_other_line, defScope s_other_line, [], []⟩
def d_63 : He.DefD := ⟨("last_by", none), "last_by", "last_by", defArgs s_last_by, defBody s_last_by, defScope s_last_by, [], []⟩
def d_64 : He.DefD := ⟨("check_two_curves", none), "check_two_curves", "check_two_curves", defArgs s_check_two_curves, defBody s_check_two_curves, defScope s_check_two_curves, [], []⟩
def d_65 : He.DefD := ⟨("pencil_curve", none), "pencil_curve", "pencil_curve", defArgs s_pencil_curve, defBody s_pencil_curve, defScope s_pencil_curve, [], []⟩
def d_66 : He.DefD := ⟨("last_common", none), "last_common", "last_common", defArgs s_last_common, defBody s_last_common, defScope s_last_common, [], []⟩
def d_67 : He.DefD := ⟨("minors_of", none), "minors_of", "minors_of", defArgs s_minors_of, defBody s_minors_of, defScope s_minors_of, [], []⟩
def d_68 : He.DefD := ⟨("are_dependent", none), "are_dependent", "are_dependent", defArgs s_are_dependent, defBody s_are_dependent, defScope s_are_dependent, [], []⟩
def d_69 : He.DefD := ⟨("are_in_pencil", none), "are_in_pencil", "are_in_pencil", defArgs s_are_in_pencil, defBody s_are_in_pencil, defScope s_are_in_pencil, [], []⟩
def d_70 : He.DefD := ⟨("_law_value", none), "_law_value", "_law_value", defArgs s__law_value, defBody s__law_value, defScope s__law_value, [], []⟩
def d_71 : He.DefD := ⟨("_law_is_full", none), "_law_is_full", "_law_is_full", defArgs s__law_is_full, defBody s__law_is_full, defScope s__law_is_full, [], []⟩
def d_72 : He.DefD := ⟨("_law_lines", none), "_law_lines", "_law_lines", defArgs s__law_lines, defBody s__law_lines, defScope s__law_lines, [], []⟩
def d_73 : He.DefD := ⟨("_law_curve", none), "_law_curve", "_law_curve", defArgs s__law_curve, defBody s__law_curve, defScope s__law_curve, [], []⟩
def d_74 : He.DefD := ⟨("_law_is_mixed", none), "_law_is_mixed", "_law_is_mixed", defArgs s__law_is_mixed, defBody s__law_is_mixed, defScope s__law_is_mixed, [], []⟩
def d_75 : He.DefD := ⟨("_law_pair", none), "_law_pair", "_law_pair", defArgs s__law_pair, defBody s__law_pair, defScope s__law_pair, [], []⟩
def d_76 : He.DefD := ⟨("_law_is_point_right", none), "_law_is_point_right", "_law_is_point_right", defArgs s__law_is_point_right, defBody s__law_is_point_right, defScope s__law_is_point_right, [], []⟩
def d_77 : He.DefD := ⟨("_law_right", none), "_law_right", "_law_right", defArgs s__law_right, defBody s__law_right, defScope s__law_right, [], []⟩
def d_78 : He.DefD := ⟨("law", none), "law", "law", defArgs s_law, defBody s_law, defScope s_law, [], []⟩
def hfn_0 : List He.DefD := [d_0, d_1, d_2, d_3, d_4, d_5, d_6, d_7, d_8, d_9, d_10, d_11, d_12, d_13, d_14, d_15, d_16, d_17, d_18, d_19, d_20, d_21, d_22, d_23, d_24, d_25, d_26, d_27, d_28, d_29]
def hfn_1 : List He.DefD := [d_30, d_31, d_32, d_33, d_34, d_35, d_36, d_37, d_38, d_39, d_40, d_41, d_42, d_43, d_44, d_45, d_46, d_47, d_48, d_49, d_50, d_51, d_52, d_53, d_54, d_55, d_56, d_57, d_58, d_59]
def hfn_2 : List He.DefD := [d_60, d_61, d_62, d_63, d_64, d_65, d_66, d_67, d_68, d_69, d_70, d_71, d_72, d_73, d_74, d_75, d_76, d_77, d_78]
def hfn : List He.DefD := hfn_0 ++ hfn_1 ++ hfn_2
def hfa_0 : List He.Fa := [.glo "is_whole", .glo "is_tuple_up_to", .glo "is_tuple_of", .glo "are_whole", .glo "divisor_of", .glo "first_live", .glo "plain_of", .glo "is_plain", .glo "dot", .glo "cross", .glo "block", .glo "scaled", .glo "added", .glo "table_times", .glo "turned_table", .glo "adjugate", .glo "table_of", .glo "is_triple", .glo "is_view_of", .glo "check_point", .glo "check_view", .glo "table_by", .glo "curve_of_table", .glo "is_full_by", .glo "products_of", .glo "value_by_curvework", .glo "is_on_by", .glo "polar_by", .glo "turned_by", .glo "is_curve_of"]
def hfa_1 : List He.Fa := [.glo "check_curve", .glo "value_by_curvepointwork", .glo "other_on", .glo "second_of", .glo "second_by", .glo "are_on_by", .glo "is_on_curve", .glo "turned_curve", .glo "_law_pool", .glo "_law_below", .glo "_law_one", .glo "_law_common", .glo "_law_plain", .glo "_law_cross", .glo "_law_dot", .glo "_law_block", .glo "_law_times", .glo "_law_point", .glo "_law_view", .glo "_law_turn", .glo "_law_adjugate", .glo "_law_table", .glo "_law_turned_curve", .glo "_law_round", .glo "_law_same", .glo "wrong_in_figure", .glo "check_figure", .glo "check_full", .glo "polar", .glo "mixed_curve"]
def hfa_2 : List He.Fa := [.glo "pencil_by", .glo "beyond", .glo "other_line", .glo "last_by", .glo "check_two_curves", .glo "pencil_curve", .glo "last_common", .glo "minors_of", .glo "are_dependent", .glo "are_in_pencil", .glo "_law_value", .glo "_law_is_full", .glo "_law_lines", .glo "_law_curve", .glo "_law_is_mixed", .glo "_law_pair", .glo "_law_is_point_right", .glo "_law_right", .glo "law", .free "len", .free "int", .free "tuple", .free "all", .free "any", .free "list", .free "abs", .free "sum", .free "min", .free "max", .free "divmod"]
def hfa_3 : List He.Fa := [.free "range", .free "enumerate", .free "zip", .free "isinstance", .free "bool", .free "str", .free "sorted", .free "set", .free "dict", .int "SIZE" 6]
def hfa : List He.Fa := hfa_0 ++ hfa_1 ++ hfa_2 ++ hfa_3
def hloose_0 : List Str := ["FlatError", "InvalidPoint", "InvalidView", "InvalidCurve", "InvalidFigure", "Unfit", "SIZE", "value_by_curvework", "value_by_curvepointwork", "is_whole", "is_tuple_up_to", "is_tuple_of", "are_whole", "divisor_of", "first_live", "plain_of", "is_plain", "dot", "cross", "block", "scaled", "added", "table_times", "turned_table", "adjugate", "table_of", "is_triple", "wrong_in_figure", "is_view_of", "check_point"]
def hloose_1 : List Str := ["check_figure", "check_view", "table_by", "curve_of_table", "is_full_by", "products_of", "value_by", "is_on_by", "polar_by", "turned_by", "is_curve_of", "check_curve", "check_full", "are_on_by", "other_on", "second_by", "second_of", "mixed_curve", "pencil_by", "minors_of", "are_dependent", "beyond", "other_line", "last_by", "check_two_curves", "pencil_curve", "are_in_pencil", "last_common", "is_on_curve", "polar"]
def hloose_2 : List Str := ["turned_curve", "_law_pool", "_law_below", "_law_one", "_law_common", "_law_plain", "_law_cross", "_law_dot", "_law_block", "_law_times", "_law_point", "_law_view", "_law_turn", "_law_adjugate", "_law_table", "_law_value", "_law_is_full", "_law_turned_curve", "_law_round", "_law_curve", "_law_same", "_law_lines", "_law_is_mixed", "_law_pair", "_law_is_point_right", "_law_right"]
def hloose : List Str := hloose_0 ++ hloose_1 ++ hloose_2
def gcdB (K : PySem.W.Frag) : Bool := decide (PySem.W.nsIn K mainGlobals "gcd" = some (some (.builtin "math.gcd")))

def hexM (K : PySem.W.Frag) : Bool := gcdB K
abbrev RM : PySem.W.OpenRow := PySem.W.OpenLaw.row PySem.Challenge.rw_flatviews_k78_whole_pencils_and_last_com
abbrev hkM : PySem.W.Hook := He.hookX 2 hfa hfn [] [] hexM
def obM (s : PySem.W.SharedT) : He.AlX := He.obsX 2 hfa hfn [] [] hexM (HandSHeadRun.getT s)
theorem obM_eq (s : PySem.W.SharedT) : obM s = hkM.obs s.abs := He.obsX_eq (HandSHeadRun.getT_eq s)
theorem runM (w : World) : HandSHeadRun.RunEqI RM (PySem.W.view RM.prog [0, 99]) hkM obM 100000 hloose w := by
  unfold HandSHeadRun.RunEqI
  kernel_rfl
end PyD

set_option Elab.async false
set_option linter.all false
set_option maxRecDepth 100000
set_option maxHeartbeats 2000000
/-! PyDA: values as plain data (tuples and frozen lists by their content, owned lists by their address), the state's link to the abstract heap, readings over plain data. -/
namespace PyD
open PySem PySem.Spec PyProof.Rows L2

/-- a value as plain data -/
inductive D where
  | non | bl (b : Bool) | int (i : Int) | str (x : Str)
  | tup (ds : List D) | ctu (ds : List D) | lst (ds : List D) | scr (ds : List D)
  | ref (a : Addr) | fn (x : Str)
/-- what an owned object holds: a list, a dict with tuples of ints for keys, one with texts for keys -/
inductive MO where
  | ml (ds : List D)
  | mt (kvs : List (List Int × D))
  | mk (kvs : List (Str × D))
abbrev Sto := Addr → Option MO
abbrev Own := Addr → Prop
def ups (S : Sto) (a : Addr) (m : MO) : Sto := fun b => if b = a then some m else S b
theorem ups_same {S : Sto} {a : Addr} {m : MO} : ups S a m a = some m := by unfold ups; rw [if_pos rfl]
theorem ups_ne {S : Sto} {a b : Addr} {m : MO} (h : b ≠ a) : ups S a m b = S b := by unfold ups; rw [if_neg h]
theorem ups_ups {S : Sto} {a : Addr} {m n : MO} : ups (ups S a m) a n = ups S a n := by
  funext b; unfold ups; split <;> rfl

/-- the abstract heap, who owns, what the owned objects hold -/
structure W3 where
  H : Hp
  O : Own
  S : Sto

/-- a list that no one changes: frozen, or the module's own -/
def SqS (K : PySem.W.Frag) (H : Hp) (a : Addr) (xs : List V) : Prop := (∃ ob, H a = some (.frz ob (.lst xs))) ∨
  ∃ (o : Obj) (its : Array Value) (n : Nat), K.lookup a = some o ∧ o.cls = .type "list" ∧ o.dict = none ∧ o.data = .seq its n ∧ its.size ≤ sizeLine ∧ Vals xs its.toList
theorem SqS.l {K : PySem.W.Frag} {H : Hp} {a : Addr} {xs : List V} (h : SqS K H a xs) : SqL K H a xs := h.imp (fun h => .inr h) fun z => z
section
variable (K : PySem.W.Frag) (mg : Str → Option Value)
inductive Rep (H : Hp) (O : Own) : V → D → Prop
  | non : Rep H O .non .non
  | bl (b : Bool) : Rep H O (.bl b) (.bl b)
  | int (i : Int) : Rep H O (.int i) (.int i)
  | str (x : Str) : Rep H O (.str x) (.str x)
  | tup {a : Addr} {vs : List V} {ds : List D} (h : H a = some (.tup vs)) (hl : vs.length = ds.length) (hr : ∀ (i : Nat) v d, vs[i]? = some v → ds[i]? = some d → Rep H O v d) : Rep H O (.ref a) (.tup ds)
  | ctu {a : Addr} {vs : List V} {ds : List D} (h : SqT K H a vs) (hl : vs.length = ds.length) (hr : ∀ (i : Nat) v d, vs[i]? = some v → ds[i]? = some d → Rep H O v d) : Rep H O (.ref a) (.ctu ds)
  | scr {a : Addr} {vs : List V} {ds : List D} (h : SqS K H a vs) (hl : vs.length = ds.length) (hr : ∀ (i : Nat) v d, vs[i]? = some v → ds[i]? = some d → Rep H O v d) : Rep H O (.ref a) (.scr ds)
  | lst {a : Addr} {vs : List V} {ds : List D} (h : H a = some (.lst vs)) (ho : ¬ O a) (hl : vs.length = ds.length) (hr : ∀ (i : Nat) v d, vs[i]? = some v → ds[i]? = some d → Rep H O v d) : Rep H O (.ref a) (.lst ds)
  | ref (a : Addr) : Rep H O (.ref a) (.ref a)
  | fn {x : Str} {f : Addr} (h : mg x = some (.ref f)) : Rep H O (.ref f) (.fn x)
/-- lists of values -/
structure Reps (H : Hp) (O : Own) (vs : List V) (ds : List D) : Prop where
  len : vs.length = ds.length
  get : ∀ (i : Nat) v d, vs[i]? = some v → ds[i]? = some d → Rep K mg H O v d
/-- how an owned object stands in the heap -/
inductive MoRep (H : Hp) (O : Own) : MO → HO → Prop
  | ml {vs : List V} {ds : List D} (r : Reps K mg H O vs ds) : MoRep H O (.ml ds) (.lst vs)
  | mt {us : List (List Key × V)} {kvs : List (List Int × D)} (hk : us.map (·.1) = kvs.map fun p => p.1.map Sum.inl) (r : Reps K mg H O (us.map (·.2)) (kvs.map (·.2))) : MoRep H O (.mt kvs) (.dT us)
  | mk {us : List (Key × V)} {kvs : List (Str × D)} (hk : us.map (·.1) = kvs.map fun p => Sum.inr p.1) (r : Reps K mg H O (us.map (·.2)) (kvs.map (·.2))) : MoRep H O (.mk kvs) (.dK us)
/-- the owned objects are as they are said to be -/
def RS (w : W3) : Prop := ∀ a m, w.S a = some m → w.O a ∧ ∃ o, w.H a = some o ∧ MoRep K mg w.H w.O m o
/-- the names' values -/
structure RL (w : W3) (σ : L2.St) (σd : List (Option D)) : Prop where
  len : σ.length = σd.length
  get : ∀ (i : Nat) d, σd[i]? = some (some d) → ∃ v, σ[i]? = some (some v) ∧ Rep K mg w.H w.O v d
/-- what is tracked and not said to be owned stays -/
def Keep (w w' : W3) : Prop := ∀ a o, w.H a = some o → w.S a = none → w'.H a = some o ∧ w'.S a = none ∧ (w'.O a ↔ w.O a)
end
section
variable {K : PySem.W.Frag} {mg : Str → Option Value} {H H' : Hp} {O O' : Own} {w w' w'' : W3} {σ : L2.St} {σd : List (Option D)}
theorem Keep.refl (w : W3) : Keep w w := fun _ _ h hs => ⟨h, hs, Iff.rfl⟩
theorem Keep.trans (a : Keep w w') (b : Keep w' w'') : Keep w w'' := fun x o h hs =>
  let ⟨h1, s1, o1⟩ := a x o h hs
  let ⟨h2, s2, o2⟩ := b x o h1 s1
  ⟨h2, s2, o2.trans o1⟩
theorem Reps.nil : Reps K mg H O [] [] := ⟨rfl, fun i v d h => by simp at h⟩
theorem Reps.cons {v : V} {d : D} {vs : List V} {ds : List D} (r : Rep K mg H O v d) (t : Reps K mg H O vs ds) : Reps K mg H O (v :: vs) (d :: ds) := by
  refine ⟨by simp [t.len], fun i x y h1 h2 => ?_⟩
  cases i with
  | zero => cases h1; cases h2; exact r
  | succ i => exact t.get i x y h1 h2
theorem Reps.head {v : V} {d : D} {vs : List V} {ds : List D} (t : Reps K mg H O (v :: vs) (d :: ds)) : Rep K mg H O v d := t.get 0 v d rfl rfl
theorem Reps.tail {v : V} {d : D} {vs : List V} {ds : List D} (t : Reps K mg H O (v :: vs) (d :: ds)) : Reps K mg H O vs ds :=
  ⟨by simpa using t.len, fun i x y h1 h2 => t.get (i + 1) x y h1 h2⟩
theorem Reps.nil_iff {vs : List V} (t : Reps K mg H O vs []) : vs = [] := List.length_eq_zero_iff.mp t.len
theorem Reps.cons_iff {vs : List V} {d : D} {ds : List D} (t : Reps K mg H O vs (d :: ds)) : ∃ v r, vs = v :: r ∧ Rep K mg H O v d ∧ Reps K mg H O r ds := by
  cases vs with
  | nil => have := t.len; simp at this
  | cons v r => exact ⟨v, r, rfl, t.head, t.tail⟩
theorem Reps.append {vs ws : List V} {ds es : List D} (a : Reps K mg H O vs ds) (b : Reps K mg H O ws es) : Reps K mg H O (vs ++ ws) (ds ++ es) := by
  refine ⟨by simp [a.len, b.len], fun i x y h1 h2 => ?_⟩
  have hl := a.len
  by_cases hi : i < vs.length
  · rw [List.getElem?_append_left hi] at h1
    rw [List.getElem?_append_left (by omega)] at h2
    exact a.get i x y h1 h2
  · rw [List.getElem?_append_right (by omega)] at h1
    rw [List.getElem?_append_right (by omega), ← hl] at h2
    exact b.get _ x y h1 h2
theorem Reps.at {vs : List V} {ds : List D} (a : Reps K mg H O vs ds) {i : Nat} {d : D} (h : ds[i]? = some d) : ∃ v, vs[i]? = some v ∧ Rep K mg H O v d := by
  obtain ⟨hi, e⟩ := List.getElem?_eq_some_iff.mp h
  have hv : i < vs.length := by have := a.len; omega
  exact ⟨vs[i], List.getElem?_eq_getElem hv, a.get i _ d (List.getElem?_eq_getElem hv) h⟩
theorem Reps.set {vs : List V} {ds : List D} (a : Reps K mg H O vs ds) {v : V} {d : D} (r : Rep K mg H O v d) (j : Nat) : Reps K mg H O (vs.set j v) (ds.set j d) := by
  refine ⟨by simp [a.len], fun i x y h1 h2 => ?_⟩
  have hl := a.len
  by_cases hij : j = i
  · subst hij
    by_cases hj : j < vs.length
    · rw [List.getElem?_set_self hj] at h1
      rw [List.getElem?_set_self (by omega)] at h2
      cases h1; cases h2; exact r
    · rw [List.getElem?_eq_none (by simp; omega)] at h1; cases h1
  · rw [List.getElem?_set_ne hij] at h1 h2
    exact a.get i x y h1 h2
theorem Reps.sub {vs : List V} {ds : List D} (a : Reps K mg H O vs ds) (f : {α : Type} → List α → List α) (hl : ∀ {α β : Type} (xs : List α) (ys : List β), xs.length = ys.length → (f xs).length = (f ys).length)
    (hg : ∀ {α β : Type} (xs : List α) (ys : List β) (i : Nat) x y, xs.length = ys.length → (f xs)[i]? = some x → (f ys)[i]? = some y → ∃ j : Nat, xs[j]? = some x ∧ ys[j]? = some y) : Reps K mg H O (f vs) (f ds) :=
  ⟨hl _ _ a.len, fun i x y h1 h2 => let ⟨j, e1, e2⟩ := hg vs ds i x y a.len h1 h2; a.get j x y e1 e2⟩
theorem Reps.drop {vs : List V} {ds : List D} (a : Reps K mg H O vs ds) (n : Nat) : Reps K mg H O (vs.drop n) (ds.drop n) :=
  ⟨by simp [a.len], fun i x y h1 h2 => by rw [List.getElem?_drop] at h1 h2; exact a.get _ x y h1 h2⟩
theorem Reps.take {vs : List V} {ds : List D} (a : Reps K mg H O vs ds) (n : Nat) : Reps K mg H O (vs.take n) (ds.take n) := by
  refine ⟨by simp [a.len], fun i x y h1 h2 => ?_⟩
  by_cases hi : i < n
  · rw [List.getElem?_take_of_lt hi] at h1 h2
    exact a.get _ x y h1 h2
  · rw [List.getElem?_eq_none (by simp; omega)] at h1; cases h1
theorem Rep.mono (hT : ∀ a u vs, H a = some u → u = .tup vs ∨ (∃ ob, u = .frz ob (.tup vs)) → H' a = some u) (hF : ∀ a ob vs, H a = some (.frz ob (.lst vs)) → H' a = some (.frz ob (.lst vs))) (hL : ∀ a vs, H a = some (.lst vs) → ¬ O a → H' a = some (.lst vs) ∧ ¬ O' a) {v : V} {d : D} (r : Rep K mg H O v d) : Rep K mg H' O' v d := by
  induction r with
  | non => exact .non
  | bl b => exact .bl b
  | int i => exact .int i
  | str x => exact .str x
  | tup h hl hr ih => exact .tup (hT _ _ _ h (.inl rfl)) hl ih
  | ctu h hl hr ih => exact .ctu (h.imp (fun z => z.imp (fun y => hT _ _ _ y (.inl rfl)) fun ⟨o, y⟩ => ⟨o, hT _ _ _ y (.inr ⟨o, rfl⟩)⟩) fun z => z) hl ih
  | scr h hl hr ih => exact .scr (h.imp (fun ⟨ob, h⟩ => ⟨ob, hF _ _ _ h⟩) fun z => z) hl ih
  | lst h ho hl hr ih => exact .lst (hL _ _ h ho).1 (hL _ _ h ho).2 hl ih
  | ref a => exact .ref a
  | fn h => exact .fn h
theorem Reps.mono (hT : ∀ a u vs, H a = some u → u = .tup vs ∨ (∃ ob, u = .frz ob (.tup vs)) → H' a = some u) (hF : ∀ a ob vs, H a = some (.frz ob (.lst vs)) → H' a = some (.frz ob (.lst vs))) (hL : ∀ a vs, H a = some (.lst vs) → ¬ O a → H' a = some (.lst vs) ∧ ¬ O' a) {vs : List V} {ds : List D} (r : Reps K mg H O vs ds) : Reps K mg H' O' vs ds :=
  ⟨r.len, fun i v d h1 h2 => (r.get i v d h1 h2).mono hT hF hL⟩
theorem MoRep.mono (hT : ∀ a u vs, H a = some u → u = .tup vs ∨ (∃ ob, u = .frz ob (.tup vs)) → H' a = some u) (hF : ∀ a ob vs, H a = some (.frz ob (.lst vs)) → H' a = some (.frz ob (.lst vs))) (hL : ∀ a vs, H a = some (.lst vs) → ¬ O a → H' a = some (.lst vs) ∧ ¬ O' a) {m : MO} {o : HO} (r : MoRep K mg H O m o) : MoRep K mg H' O' m o := by
  cases r with
  | ml r => exact .ml (r.mono hT hF hL)
  | mt hk r => exact .mt hk (r.mono hT hF hL)
  | mk hk r => exact .mk hk (r.mono hT hF hL)
/-- a kind of thing that no owned object is -/
def Quiet : HO → Prop
  | .lst _ => False
  | .dT _ => False
  | .dK _ => False
  | _ => True
theorem MoRep.loud {m : MO} {o : HO} (r : MoRep K mg H O m o) : ¬ Quiet o := by
  cases r <;> exact fun z => z
/-- what is of no such kind is not owned -/
theorem RS.free (rs : RS K mg w) {a : Addr} {o : HO} (h : w.H a = some o) (ho : Quiet o) : w.S a = none := by
  cases e : w.S a with
  | none => rfl
  | some m =>
    obtain ⟨_, o2, e2, r⟩ := rs a m e
    rw [h] at e2
    cases e2
    exact absurd ho r.loud
theorem RS.freeO (rs : RS K mg w) {a : Addr} (h : ¬ w.O a) : w.S a = none := by
  cases e : w.S a with
  | none => rfl
  | some m => exact absurd (rs a m e).1 h
theorem Keep.tupR (k : Keep w w') (rs : RS K mg w) : ∀ a u vs, w.H a = some u → u = .tup vs ∨ (∃ ob, u = .frz ob (.tup vs)) → w'.H a = some u := fun a u vs h e => by
  rcases e with rfl | ⟨o, rfl⟩
  · exact (k a _ h (rs.free h trivial)).1
  · exact (k a _ h (rs.free h trivial)).1
theorem Keep.frzR (k : Keep w w') (rs : RS K mg w) : ∀ a ob vs, w.H a = some (.frz ob (.lst vs)) → w'.H a = some (.frz ob (.lst vs)) := fun a ob vs h =>
  (k a _ h (rs.free h trivial)).1
theorem Keep.lstR (k : Keep w w') (rs : RS K mg w) : ∀ a vs, w.H a = some (.lst vs) → ¬ w.O a → w'.H a = some (.lst vs) ∧ ¬ w'.O a := fun a vs h ho => by
  have hs := rs.freeO ho
  obtain ⟨e, _, q⟩ := k a _ h hs
  exact ⟨e, fun z => ho (q.mp z)⟩
theorem Rep.keep {v : V} {d : D} (r : Rep K mg w.H w.O v d) (rs : RS K mg w) (k : Keep w w') : Rep K mg w'.H w'.O v d := r.mono (k.tupR rs) (k.frzR rs) (k.lstR rs)
theorem Reps.keep {vs : List V} {ds : List D} (r : Reps K mg w.H w.O vs ds) (rs : RS K mg w) (k : Keep w w') : Reps K mg w'.H w'.O vs ds := r.mono (k.tupR rs) (k.frzR rs) (k.lstR rs)
theorem MoRep.keep {m : MO} {o : HO} (r : MoRep K mg w.H w.O m o) (rs : RS K mg w) (k : Keep w w') : MoRep K mg w'.H w'.O m o := r.mono (k.tupR rs) (k.frzR rs) (k.lstR rs)
theorem RL.keep (r : RL K mg w σ σd) (rs : RS K mg w) (k : Keep w w') : RL K mg w' σ σd := ⟨r.len, fun i d h => let ⟨v, e, q⟩ := r.get i d h; ⟨v, e, q.keep rs k⟩⟩
theorem RL.set (r : RL K mg w σ σd) {v : V} {d : D} (q : Rep K mg w.H w.O v d) (i : Nat) : RL K mg w (σ.set i (some v)) (σd.set i (some d)) := by
  have hl := r.len
  refine ⟨by simp [hl], fun j e h => ?_⟩
  by_cases hij : i = j
  · subst hij
    by_cases hi : i < σd.length
    · rw [List.getElem?_set_self hi] at h
      cases h
      exact ⟨v, List.getElem?_set_self (by omega), q⟩
    · rw [List.getElem?_eq_none (by simp; omega)] at h; cases h
  · rw [List.getElem?_set_ne hij] at h
    obtain ⟨v', e1, e2⟩ := r.get j e h
    exact ⟨v', by rw [List.getElem?_set_ne hij]; exact e1, e2⟩
/-- something new is laid at p, O' agrees elsewhere -/
theorem Keep.new {p : Addr} {o : HO} (hp : w.H p = none) (hO : ∀ a, a ≠ p → (O' a ↔ w.O a)) : Keep w ⟨upd w.H p o, O', w.S⟩ := fun a u h hs => by
  have hne : a ≠ p := ne_of_none h hp
  exact ⟨by show upd w.H p o a = _; rw [upd_ne hne]; exact h, hs, hO a hne⟩
theorem RS.new {p : Addr} {o : HO} (rs : RS K mg w) (hp : w.H p = none) (hO : ∀ a, a ≠ p → (O' a ↔ w.O a)) : RS K mg ⟨upd w.H p o, O', w.S⟩ := fun a m h => by
  have k := Keep.new (o := o) hp hO
  obtain ⟨q1, u, e, r⟩ := rs a m h
  have hne : a ≠ p := ne_of_none e hp
  exact ⟨(hO a hne).mpr q1, u, by show upd w.H p o a = _; rw [upd_ne hne]; exact e, r.keep rs k⟩
/-- a new tuple -/
theorem new_tup {p : Addr} {vs : List V} {ds : List D} (rs : RS K mg w) (hp : w.H p = none) (r : Reps K mg w.H w.O vs ds) :
    ∃ w', w'.H = upd w.H p (.tup vs) ∧ w'.S = w.S ∧ Keep w w' ∧ RS K mg w' ∧ Rep K mg w'.H w'.O (.ref p) (.tup ds) := by
  have k := Keep.new (w := w) (p := p) (o := .tup vs) (O' := w.O) hp fun _ _ => Iff.rfl
  refine ⟨⟨upd w.H p (.tup vs), w.O, w.S⟩, rfl, rfl, k, rs.new hp fun _ _ => Iff.rfl, ?_⟩
  have r' := r.keep rs k
  exact .tup upd_same r.len r'.get
/-- a new frozen list -/
theorem new_lst {p : Addr} {vs : List V} {ds : List D} (rs : RS K mg w) (hp : w.H p = none) (r : Reps K mg w.H w.O vs ds) :
    ∃ w', w'.H = upd w.H p (.lst vs) ∧ w'.S = w.S ∧ Keep w w' ∧ RS K mg w' ∧ Rep K mg w'.H w'.O (.ref p) (.lst ds) := by
  have hO : ∀ a, a ≠ p → ((w.O a ∧ a ≠ p) ↔ w.O a) := fun a h => ⟨fun z => z.1, fun z => ⟨z, h⟩⟩
  have k := Keep.new (w := w) (p := p) (o := .lst vs) (O' := fun a => w.O a ∧ a ≠ p) hp hO
  refine ⟨⟨upd w.H p (.lst vs), fun a => w.O a ∧ a ≠ p, w.S⟩, rfl, rfl, k, rs.new hp hO, ?_⟩
  have r' := r.keep rs k
  exact .lst upd_same (fun z => z.2 rfl) r.len r'.get
/-- a new owned object -/
theorem new_own {p : Addr} {m : MO} {o : HO} (rs : RS K mg w) (hp : w.H p = none) (r : MoRep K mg w.H w.O m o) :
    w.S p = none ∧ ∃ w', w'.H = upd w.H p o ∧ w'.S = ups w.S p m ∧ Keep w w' ∧ RS K mg w' := by
  have hsp : w.S p = none := by
    cases e : w.S p with
    | none => rfl
    | some m =>
      obtain ⟨_, u, e2, _⟩ := rs p m e
      rw [hp] at e2; cases e2
  have hO : ∀ a, a ≠ p → ((w.O a ∨ a = p) ↔ w.O a) := fun a h => ⟨fun z => z.elim (fun y => y) fun y => absurd y h, .inl⟩
  have k0 := Keep.new (w := w) (p := p) (o := o) (O' := fun a => w.O a ∨ a = p) hp hO
  have rs0 := rs.new (o := o) hp hO
  have r' := r.keep rs k0
  refine ⟨hsp, ⟨upd w.H p o, fun a => w.O a ∨ a = p, ups w.S p m⟩, rfl, rfl, fun a u h hs => ?_, fun a n h => ?_⟩
  · have hne : a ≠ p := ne_of_none h hp
    obtain ⟨a1, a2, a3⟩ := k0 a u h hs
    exact ⟨a1, by show ups w.S p m a = none; rw [ups_ne hne]; exact hs, a3⟩
  · by_cases hne : a = p
    · subst hne
      have e : ups w.S a m a = some n := h
      rw [ups_same] at e
      cases e
      exact ⟨.inr rfl, o, upd_same, r'⟩
    · have e : ups w.S p m a = some n := h
      rw [ups_ne hne] at e
      exact rs0 a n e
/-- an owned object gets another content -/
theorem own_put {a : Addr} {m n : MO} {o : HO} (rs : RS K mg w) (hs : w.S a = some m) (r : MoRep K mg w.H w.O n o) :
    ∃ w', w'.H = upd w.H a o ∧ w'.S = ups w.S a n ∧ Keep w w' ∧ RS K mg w' := by
  obtain ⟨ha, u2, e2, _⟩ := rs a m hs
  have k : Keep w ⟨upd w.H a o, w.O, ups w.S a n⟩ := fun b u h hn => by
    have hne : b ≠ a := fun z => by rw [z, hs] at hn; cases hn
    exact ⟨by show upd w.H a o b = _; rw [upd_ne hne]; exact h, by show ups w.S a n b = none; rw [ups_ne hne]; exact hn, Iff.rfl⟩
  refine ⟨_, rfl, rfl, k, fun b m' h => ?_⟩
  by_cases hne : b = a
  · subst hne
    have e : ups w.S b n b = some m' := h
    rw [ups_same] at e
    cases e
    exact ⟨ha, o, upd_same, r.keep rs k⟩
  · have e : ups w.S a n b = some m' := h
    rw [ups_ne hne] at e
    obtain ⟨q1, u, e3, r3⟩ := rs b m' e
    exact ⟨q1, u, by show upd w.H a o b = _; rw [upd_ne hne]; exact e3, r3.keep rs k⟩
/-- an owned list as it stands -/
theorem RS.ml (rs : RS K mg w) {a : Addr} {ds : List D} (h : w.S a = some (.ml ds)) : w.O a ∧ ∃ vs, w.H a = some (.lst vs) ∧ Reps K mg w.H w.O vs ds := by
  obtain ⟨h1, o, e, r⟩ := rs a _ h
  cases r with
  | ml r => exact ⟨h1, _, e, r⟩
theorem RS.mt (rs : RS K mg w) {a : Addr} {kvs : List (List Int × D)} (h : w.S a = some (.mt kvs)) : w.O a ∧ ∃ us, w.H a = some (.dT us) ∧ us.map (·.1) = (kvs.map fun p => p.1.map Sum.inl) ∧ Reps K mg w.H w.O (us.map (·.2)) (kvs.map (·.2)) := by
  obtain ⟨h1, o, e, r⟩ := rs a _ h
  cases r with
  | mt hk r => exact ⟨h1, _, e, hk, r⟩
theorem RS.mk (rs : RS K mg w) {a : Addr} {kvs : List (Str × D)} (h : w.S a = some (.mk kvs)) : w.O a ∧ ∃ us, w.H a = some (.dK us) ∧ us.map (·.1) = (kvs.map fun p => Sum.inr p.1) ∧ Reps K mg w.H w.O (us.map (·.2)) (kvs.map (·.2)) := by
  obtain ⟨h1, o, e, r⟩ := rs a _ h
  cases r with
  | mk hk r => exact ⟨h1, _, e, hk, r⟩
/-- less is said -/
theorem RS.less (rs : RS K mg w) {S' : Sto} (h : ∀ a m, S' a = some m → w.S a = some m) : RS K mg ⟨w.H, w.O, S'⟩ ∧ Keep w ⟨w.H, w.O, S'⟩ := by
  refine ⟨fun a m e => rs a m (h a m e), fun a o e hs => ⟨e, ?_, Iff.rfl⟩⟩
  show S' a = none
  cases q : S' a with
  | none => rfl
  | some m => rw [h a m q] at hs; cases hs
/-- an owned list is frozen -/
theorem RS.freeze (rs : RS K mg w) {S' : Sto} {a : Addr} {ds : List D} (hs : w.S a = some (.ml ds)) (hn : S' a = none) (h : ∀ b m, S' b = some m → w.S b = some m) :
    ∃ w', w'.H = w.H ∧ w'.S = S' ∧ Keep w w' ∧ RS K mg w' ∧ Rep K mg w'.H w'.O (.ref a) (.lst ds) := by
  have hT : ∀ b u vs, w.H b = some u → u = .tup vs ∨ (∃ ob, u = .frz ob (.tup vs)) → w.H b = some u := fun _ _ _ z _ => z
  have hF : ∀ b ob vs, w.H b = some (.frz ob (.lst vs)) → w.H b = some (.frz ob (.lst vs)) := fun _ _ _ z => z
  have hL : ∀ b vs, w.H b = some (.lst vs) → ¬ w.O b → w.H b = some (.lst vs) ∧ ¬ (w.O b ∧ b ≠ a) := fun _ _ z ho => ⟨z, fun q => ho q.1⟩
  obtain ⟨ha, vs, e, r⟩ := rs.ml hs
  refine ⟨⟨w.H, fun b => w.O b ∧ b ≠ a, S'⟩, rfl, rfl, fun b o e2 hs2 => ⟨e2, ?_, ?_⟩, fun b m q => ?_, ?_⟩
  · show S' b = none
    cases q : S' b with
    | none => rfl
    | some m => rw [h b m q] at hs2; cases hs2
  · have hne : b ≠ a := fun z => by rw [z, hs] at hs2; cases hs2
    exact ⟨fun z => z.1, fun z => ⟨z, hne⟩⟩
  · have hne : b ≠ a := fun z => by
      have q' : S' b = some m := q
      rw [z, hn] at q'; cases q'
    obtain ⟨q1, u, e3, r3⟩ := rs b m (h b m q)
    exact ⟨⟨q1, hne⟩, u, e3, r3.mono hT hF hL⟩
  · have r' := r.mono (H' := w.H) (O' := fun b => w.O b ∧ b ≠ a) hT hF hL
    exact .lst e (fun z => z.2 rfl) r.len r'.get
end
end PyD

set_option Elab.async false
set_option linter.all false
set_option maxRecDepth 100000
set_option maxHeartbeats 2000000
/-! PyDB: the judgements over plain data (expressions, tests, argument lists), operators, comparisons, subscripts, built-in calls. -/
namespace PyD
open PySem PySem.Spec PyProof.Rows L2

abbrev SD := List (Option D)
abbrev QD := D → Sto → Prop
abbrev TD := SD → Sto → QD → Prop
abbrev BD := SD → Sto → (Bool → Sto → Prop) → Prop
abbrev AD := SD → Sto → (List D → Sto → Prop) → Prop

def ThenE (X : Cx) (w : W3) (Qd : QD) (Q : VK) : Prop := ∀ v d w', Keep w w' → RS X.K X.mg w' → Rep X.K X.mg w'.H w'.O v d → Qd d w'.S → Q v w'.H
def ThenB (X : Cx) (w : W3) (Qd : Bool → Sto → Prop) (Q : Bool → Hp → Prop) : Prop := ∀ b w', Keep w w' → RS X.K X.mg w' → Qd b w'.S → Q b w'.H
def ThenA (X : Cx) (w : W3) (Qd : List D → Sto → Prop) (Q : List V → Hp → Prop) : Prop := ∀ vs ds w', Keep w w' → RS X.K X.mg w' → Reps X.K X.mg w'.H w'.O vs ds → Qd ds w'.S → Q vs w'.H
theorem ThenE.keep {X : Cx} {w w' : W3} {Qd : QD} {Q : VK} (h : ThenE X w Qd Q) (k : Keep w w') : ThenE X w' Qd Q := fun v d w2 k2 rs r q => h v d w2 (k.trans k2) rs r q
theorem ThenB.keep {X : Cx} {w w' : W3} {Qd : Bool → Sto → Prop} {Q : Bool → Hp → Prop} (h : ThenB X w Qd Q) (k : Keep w w') : ThenB X w' Qd Q := fun v w2 k2 rs q => h v w2 (k.trans k2) rs q
theorem ThenA.keep {X : Cx} {w w' : W3} {Qd : List D → Sto → Prop} {Q : List V → Hp → Prop} (h : ThenA X w Qd Q) (k : Keep w w') : ThenA X w' Qd Q := fun v d w2 k2 rs r q => h v d w2 (k.trans k2) rs r q

structure DE (X : Cx) (e : Expr) (t : TD) : Prop where
  ex : ∃ t', PE X e t' ∧ ∀ σ σd w Qd Q, RS X.K X.mg w → RL X.K X.mg w σ σd → t σd w.S Qd → ThenE X w Qd Q → t' σ w.H Q
structure DT (X : Cx) (e : Expr) (t : BD) : Prop where
  ex : ∃ t', PT X e t' ∧ ∀ σ σd w Qd Q, RS X.K X.mg w → RL X.K X.mg w σ σd → t σd w.S Qd → ThenB X w Qd Q → t' σ w.H Q
structure DW (X : Cx) (e : Expr) (t : BD) : Prop where
  ex : ∃ t', PW X e t' ∧ ∀ σ σd w Qd Q, RS X.K X.mg w → RL X.K X.mg w σ σd → t σd w.S Qd → ThenB X w Qd Q → t' σ w.H Q
structure DA (X : Cx) (es : List Expr) (t : AD) : Prop where
  ex : ∃ t', PA X es t' ∧ ∀ σ σd w Qd Q, RS X.K X.mg w → RL X.K X.mg w σ σd → t σd w.S Qd → ThenA X w Qd Q → t' σ w.H Q

/-! ### plain data's looks -/
def lk : SD → Nat → Option D
  | [], _ => none
  | x :: _, 0 => x
  | _ :: r, n + 1 => lk r n
theorem lk_get : ∀ {σ : SD} {i : Nat} {d : D}, lk σ i = some d → σ[i]? = some (some d)
  | [], _, _, h => by cases h
  | x :: r, 0, d, h => by
    have h' : x = some d := h
    rw [h'] <;> rfl
  | x :: r, n + 1, d, h => by
    have h' : lk r n = some d := h
    simpa using lk_get h'
/-- the items of an owned or frozen list -/
def lstOf (S : Sto) : D → Option (List D)
  | .lst ds => some ds
  | .ref a => match S a with
    | some (.ml ds) => some ds
    | _ => none
  | _ => none
/-- the items of a tuple, a list -/
def seqOf (S : Sto) : D → Option (List D)
  | .tup ds => some ds
  | .ctu ds => some ds
  | .scr ds => some ds
  | .lst ds => some ds
  | .ref a => match S a with
    | some (.ml ds) => some ds
    | _ => none
  | _ => none
def lisOf (S : Sto) : D → Option (List D)
  | .scr ds => some ds
  | .lst ds => some ds
  | .ref a => match S a with
    | some (.ml ds) => some ds
    | _ => none
  | _ => none
section
variable {K : PySem.W.Frag} {mg : Str → Option Value} {w : W3}
theorem lstOf_ok (rs : RS K mg w) {v : V} {d : D} (r : Rep K mg w.H w.O v d) {ds : List D} (h : lstOf w.S d = some ds) : ∃ a vs, v = .ref a ∧ w.H a = some (.lst vs) ∧ Reps K mg w.H w.O vs ds := by
  cases r with
  | lst h1 h2 hl hr => cases h; exact ⟨_, _, rfl, h1, hl, hr⟩
  | ref a =>
    have h' : (match w.S a with | some (.ml ds) => some ds | _ => none) = some ds := h
    cases e : w.S a with
    | none => rw [e] at h'; cases h'
    | some m =>
      rw [e] at h'
      cases m with
      | ml es =>
        cases h'
        obtain ⟨_, vs, e2, r2⟩ := rs.ml e
        exact ⟨a, vs, rfl, e2, r2⟩
      | _ => cases h'
  | _ => cases h
theorem lisOf_ok (rs : RS K mg w) {v : V} {d : D} (r : Rep K mg w.H w.O v d) {ds : List D} (h : lisOf w.S d = some ds) : ∃ a vs, v = .ref a ∧ SqL K w.H a vs ∧ Reps K mg w.H w.O vs ds := by
  cases r with
  | lst h1 h2 hl hr => cases h; exact ⟨_, _, rfl, .inl (.inl h1), hl, hr⟩
  | scr h1 hl hr => cases h; exact ⟨_, _, rfl, h1.l, hl, hr⟩
  | ref a =>
    have h' : (match w.S a with | some (.ml ds) => some ds | _ => none) = some ds := h
    cases e : w.S a with
    | none => rw [e] at h'; cases h'
    | some m =>
      rw [e] at h'
      cases m with
      | ml es =>
        cases h'
        obtain ⟨_, vs, e2, r2⟩ := rs.ml e
        exact ⟨a, vs, rfl, .inl (.inl e2), r2⟩
      | _ => cases h'
  | _ => cases h
theorem seqOf_ok (rs : RS K mg w) {v : V} {d : D} (r : Rep K mg w.H w.O v d) {ds : List D} (h : seqOf w.S d = some ds) : ∃ a vs, v = .ref a ∧ Reps K mg w.H w.O vs ds ∧ ((SqL K w.H a vs ∧ lisOf w.S d = some ds) ∨ (SqT K w.H a vs ∧ (d = .tup ds ∨ d = .ctu ds))) := by
  cases r with
  | tup h1 hl hr => cases h; exact ⟨_, _, rfl, ⟨hl, hr⟩, .inr ⟨.inl (.inl h1), .inl rfl⟩⟩
  | ctu h1 hl hr => cases h; exact ⟨_, _, rfl, ⟨hl, hr⟩, .inr ⟨h1, .inr rfl⟩⟩
  | lst h1 h2 hl hr => cases h; exact ⟨_, _, rfl, ⟨hl, hr⟩, .inl ⟨.inl (.inl h1), rfl⟩⟩
  | scr h1 hl hr => cases h; exact ⟨_, _, rfl, ⟨hl, hr⟩, .inl ⟨h1.l, rfl⟩⟩
  | ref a =>
    have h' : lisOf w.S (.ref a) = some ds := h
    obtain ⟨b, vs, e, e2, r2⟩ := lisOf_ok rs (Rep.ref a) h'
    exact ⟨b, vs, e, r2, .inl ⟨e2, h'⟩⟩
  | _ => cases h
end
/-- what an owned list holds, told apart: S a is looked up by refW_of -/
@[irreducible] def refW (S : Sto) (a : Addr) (P : List D → Prop) : Prop := ∃ ds, S a = some (.ml ds) ∧ P ds
theorem refW_of {S : Sto} {a : Addr} {ds : List D} {P : List D → Prop} (h : S a = some (.ml ds)) (p : P ds) : refW S a P := by unfold refW; exact ⟨ds, h, p⟩
theorem refW_iff {S : Sto} {a : Addr} {P : List D → Prop} (h : refW S a P) : ∃ ds, S a = some (.ml ds) ∧ P ds := by unfold refW at h; exact h
def seqW (S : Sto) (d : D) (P : List D → Prop) : Prop := match d with
  | .tup ds => P ds
  | .ctu ds => P ds
  | .scr ds => P ds
  | .lst ds => P ds
  | .ref a => refW S a P
  | _ => False
theorem seqW_iff {S : Sto} {d : D} {P : List D → Prop} (h : seqW S d P) : ∃ ds, seqOf S d = some ds ∧ P ds := by
  cases d with
  | tup ds => exact ⟨ds, rfl, h⟩
  | ctu ds => exact ⟨ds, rfl, h⟩
  | scr ds => exact ⟨ds, rfl, h⟩
  | lst ds => exact ⟨ds, rfl, h⟩
  | ref a =>
    obtain ⟨ds, e, p⟩ := refW_iff h
    refine ⟨ds, ?_, p⟩
    show (match S a with | some (.ml ds) => some ds | _ => none) = _
    rw [e]
  | _ => exact False.elim h
/-- truth -/
def truD (S : Sto) : D → Option Bool
  | .non => some false
  | .bl b => some b
  | .int i => some (i != 0)
  | .str x => if x.length ≤ sizeLine then some ((x.length : Int) != 0) else none
  | .fn _ => none
  | .tup ds => some (!ds.isEmpty)
  | .ctu ds => some (!ds.isEmpty)
  | .scr ds => some (!ds.isEmpty)
  | .lst ds => some (!ds.isEmpty)
  | .ref a => match S a with
    | some (.ml ds) => some (!ds.isEmpty)
    | _ => none
theorem empty_eq {α β : Type} {xs : List α} {ys : List β} (h : xs.length = ys.length) : (!ys.isEmpty) = !xs.isEmpty := by
  cases xs <;> cases ys <;> simp_all
theorem truD_ok {K : PySem.W.Frag} {mg : Str → Option Value} {w : W3} (rs : RS K mg w) {v : V} {d : D} (r : Rep K mg w.H w.O v d) {k : Bool} (h : truD w.S d = some k) : TruV K v w.H k := by
  cases r with
  | non => cases h; rfl
  | bl b => cases h; rfl
  | int i => cases h; rfl
  | str x =>
    have h' : (if x.length ≤ sizeLine then some ((x.length : Int) != 0) else none) = some k := h
    split at h'
    · cases h'; exact ⟨by assumption, rfl⟩
    · cases h'
  | tup h1 hl hr => cases h; exact .inr (.inl ⟨_, .inl (.inl h1), empty_eq hl⟩)
  | ctu h1 hl hr => cases h; exact .inr (.inl ⟨_, h1, empty_eq hl⟩)
  | lst h1 h2 hl hr => cases h; exact .inl ⟨_, .inl (.inl h1), empty_eq hl⟩
  | scr h1 hl hr => cases h; exact .inl ⟨_, h1.l, empty_eq hl⟩
  | ref a =>
    have h' : (match w.S a with | some (.ml ds) => some (!ds.isEmpty) | _ => none) = some k := h
    cases e : w.S a with
    | none => rw [e] at h'; cases h'
    | some m =>
      rw [e] at h'
      cases m with
      | ml es =>
        cases h'
        obtain ⟨_, vs, e2, r2⟩ := rs.ml e
        exact .inl ⟨vs, .inl (.inl e2), empty_eq r2.len⟩
      | _ => cases h'
  | fn h1 => cases h
/- as the kit's own data, for == -/
mutual
def toP0 : D → Option PyData
  | .non => some .none
  | .bl b => some (.bool b)
  | .int i => some (.int i)
  | .str x => some (.str x)
  | .tup ds => match toPs ds with
    | some ps => some (.tuple ps)
    | none => none
  | .ctu ds => match toPs ds with
    | some ps => some (.tuple ps)
    | none => none
  | .lst ds => match toPs ds with
    | some ps => some (.list ps)
    | none => none
  | .scr _ => none
  | .ref _ => none
  | .fn _ => none
def toPs : List D → Option (List PyData)
  | [] => some []
  | d :: ds => match toP0 d, toPs ds with
    | some p, some ps => some (p :: ps)
    | _, _ => none
end
def toP (S : Sto) : D → Option PyData
  | .ref a => match S a with
    | some (.ml ds) => match toPs ds with
      | some ps => some (.list ps)
      | none => none
    | _ => none
  | d => toP0 d
mutual
theorem toP0_ok {K : PySem.W.Frag} {mg : Str → Option Value} {w : W3} : ∀ (d : D) (v : V) (p : PyData), Rep K mg w.H w.O v d → toP0 d = some p → Dp K w.H v p
  | .non, _, _, r, h => by cases r; cases h; exact .non
  | .bl b, _, _, r, h => by cases r; cases h; exact .bl b
  | .int i, _, _, r, h => by cases r; cases h; exact .int i
  | .str x, _, _, r, h => by cases r; cases h; exact .str x
  | .tup ds, _, p, r, h => by
    cases r with
    | tup h1 hl hr =>
      have h' : (match toPs ds with | some ps => some (PyData.tuple ps) | none => none) = some p := by rw [toP0] at h; exact h
      cases e : toPs ds with
      | none => rw [e] at h'; cases h'
      | some ps => rw [e] at h'; cases h'; exact .tup (.inl (.inl h1)) (toPs_ok ds _ ps ⟨hl, hr⟩ e)
  | .ctu ds, _, p, r, h => by
    cases r with
    | ctu h1 hl hr =>
      have h' : (match toPs ds with | some ps => some (PyData.tuple ps) | none => none) = some p := by rw [toP0] at h; exact h
      cases e : toPs ds with
      | none => rw [e] at h'; cases h'
      | some ps => rw [e] at h'; cases h'; exact .tup h1 (toPs_ok ds _ ps ⟨hl, hr⟩ e)
  | .lst ds, _, p, r, h => by
    cases r with
    | lst h1 ho hl hr =>
      have h' : (match toPs ds with | some ps => some (PyData.list ps) | none => none) = some p := by rw [toP0] at h; exact h
      cases e : toPs ds with
      | none => rw [e] at h'; cases h'
      | some ps => rw [e] at h'; cases h'; exact .lst (.inl (.inl h1)) (toPs_ok ds _ ps ⟨hl, hr⟩ e)
  | .scr _, _, _, _, h => by rw [toP0] at h; cases h
  | .ref _, _, _, _, h => by rw [toP0] at h; cases h
  | .fn _, _, _, _, h => by rw [toP0] at h; cases h
theorem toPs_ok {K : PySem.W.Frag} {mg : Str → Option Value} {w : W3} : ∀ (ds : List D) (vs : List V) (ps : List PyData), Reps K mg w.H w.O vs ds → toPs ds = some ps → DpAll K w.H vs ps
  | [], vs, ps, r, h => by
    rw [toPs] at h
    cases h
    rw [r.nil_iff]
    exact .nil
  | d :: ds, vs, ps, r, h => by
    obtain ⟨v, u, rfl, r1, r2⟩ := r.cons_iff
    rw [toPs] at h
    cases e1 : toP0 d with
    | none => rw [e1] at h; cases h
    | some p =>
      cases e2 : toPs ds with
      | none => rw [e1, e2] at h; cases h
      | some qs => rw [e1, e2] at h; cases h; exact .cons (toP0_ok d v p r1 e1) (toPs_ok ds u qs r2 e2)
end
theorem toP_ok {K : PySem.W.Frag} {mg : Str → Option Value} {w : W3} (rs : RS K mg w) {v : V} {d : D} {p : PyData} (r : Rep K mg w.H w.O v d) (h : toP w.S d = some p) : Dp K w.H v p := by
  cases d with
  | ref a =>
    cases r
    cases e : w.S a with
    | none => simp only [toP, e] at h; cases h
    | some m =>
      cases m with
      | ml es =>
        simp only [toP, e] at h
        cases e2 : toPs es with
        | none => rw [e2] at h; cases h
        | some ps =>
          rw [e2] at h
          cases h
          obtain ⟨_, vs, e3, r3⟩ := rs.ml e
          exact .lst (.inl (.inl e3)) (toPs_ok es vs ps r3 e2)
      | _ => simp only [toP, e] at h; cases h
  | _ => exact toP0_ok _ v p r h

/-! ### names, constants -/
section
variable {X : Cx} {a b c : Expr} {ta tb tc : TD} {pos : Pos}
def tvar (i : Nat) : TD := fun σ S Q => match lk σ i with
  | some d => Q d S
  | none => False
def tcon (d : D) : TD := fun _ S Q => Q d S
theorem de_var {i : Nat} {x : Str} (hN : X.N[i]? = some x) (hv : Vis X.env.scope x) (hd : (x == ("__debug__" : Str)) = false) (hcd : (x == ("__classdict__" : Str)) = false) : DE X (.Name x pos) (tvar i) := by
  refine ⟨_, pe_var hN hv hd hcd, fun σ σd w Qd Q rs rl h k => ?_⟩
  unfold tvar at h
  cases e : lk σd i with
  | none => rw [e] at h; exact h.elim
  | some d =>
    rw [e] at h
    obtain ⟨v, e1, r⟩ := rl.get i d (lk_get e)
    exact ⟨v, e1, k v d w (.refl w) rs r h⟩
theorem de_of {e : Expr} {v : V} {d : D} (h : PE X e (L2.tC v)) (r : ∀ H O, Rep X.K X.mg H O v d) : DE X e (tcon d) :=
  ⟨_, h, fun σ σd w Qd Q rs rl h k => k v d w (.refl w) rs (r _ _) h⟩
theorem de_int {i j} : DE X (.Constant (.int i) j pos) (tcon (.int i)) := de_of pe_int fun _ _ => .int i
theorem de_bl {i j} : DE X (.Constant (.bool i) j pos) (tcon (.bl i)) := de_of pe_bl fun _ _ => .bl i
theorem de_non {j} : DE X (.Constant .none j pos) (tcon .non) := de_of pe_non fun _ _ => .non
theorem de_str {x j} : DE X (.Constant (.str x) j pos) (tcon (.str x)) := de_of pe_str fun _ _ => .str x
/-- a module's constant: how it stands there -/
structure Glo (K : PySem.W.Frag) (mg : Str → Option Value) (x : Str) (d : D) : Prop where
  ex : ∃ u v, mg x = some u ∧ RelV v u ∧ ∀ H O, Rep K mg H O v d
theorem de_glo {x : Str} {d : D} (g : Glo X.K X.mg x d) (hg : Gl X x) (hd : (x == ("__debug__" : Str)) = false) : DE X (.Name x pos) (tcon d) := by
  obtain ⟨u, v, h1, h2, h3⟩ := g.ex
  exact de_of (pe_glob hg h1 h2 hd) h3

/-! ### operators -/
def OpD (X : Cx) (f : Value → Value → Sem Value) (rd : D → D → Sto → QD → Prop) : Prop := ∃ r, OpR X f r ∧
  ∀ x y dx dy w Qd Q, RS X.K X.mg w → Rep X.K X.mg w.H w.O x dx → Rep X.K X.mg w.H w.O y dy → rd dx dy w.S Qd → ThenE X w Qd Q → r x y w.H Q
theorem OpD.or {f : Value → Value → Sem Value} {r1 r2 : D → D → Sto → QD → Prop} (h1 : OpD X f r1) (h2 : OpD X f r2) : OpD X f (fun x y S Q => r1 x y S Q ∨ r2 x y S Q) := by
  obtain ⟨r, o, l⟩ := h1
  obtain ⟨r', o', l'⟩ := h2
  refine ⟨_, o.or o', fun x y dx dy w Qd Q rs rx ry h k => ?_⟩
  rcases h with h | h
  · exact .inl (l x y dx dy w Qd Q rs rx ry h k)
  · exact .inr (l' x y dx dy w Qd Q rs rx ry h k)
theorem OpD.imp {f : Value → Value → Sem Value} {r1 r2 : D → D → Sto → QD → Prop} (h1 : OpD X f r1) (h : ∀ x y S Q, r2 x y S Q → r1 x y S Q) : OpD X f r2 := by
  obtain ⟨r, o, l⟩ := h1
  exact ⟨r, o, fun x y dx dy w Qd Q rs rx ry h2 k => l x y dx dy w Qd Q rs rx ry (h _ _ _ _ h2) k⟩
def tbin (rd : D → D → Sto → QD → Prop) (ta tb : TD) : TD := fun σ S Q => ta σ S fun x S1 => tb σ S1 fun y S2 => rd x y S2 Q
theorem bin_ok {r : R2} {rd : D → D → Sto → QD → Prop} {ta' tb' : TE} (la : ∀ σ σd w Qd Q, RS X.K X.mg w → RL X.K X.mg w σ σd → ta σd w.S Qd → ThenE X w Qd Q → ta' σ w.H Q)
    (lb : ∀ σ σd w Qd Q, RS X.K X.mg w → RL X.K X.mg w σ σd → tb σd w.S Qd → ThenE X w Qd Q → tb' σ w.H Q)
    (lr : ∀ x y dx dy w Qd Q, RS X.K X.mg w → Rep X.K X.mg w.H w.O x dx → Rep X.K X.mg w.H w.O y dy → rd dx dy w.S Qd → ThenE X w Qd Q → r x y w.H Q)
    (σ σd w Qd Q) (rs : RS X.K X.mg w) (rl : RL X.K X.mg w σ σd) (h : tbin rd ta tb σd w.S Qd) (k : ThenE X w Qd Q) : tOp r ta' tb' σ w.H Q := by
  refine la σ σd w _ _ rs rl h fun x dx w1 k1 rs1 rx h1 => ?_
  refine lb σ σd w1 _ _ rs1 (rl.keep rs k1) h1 fun y dy w2 k2 rs2 ry h2 => ?_
  exact lr x y dx dy w2 _ _ rs2 (rx.keep rs1 k2) ry h2 (k.keep (k1.trans k2))
theorem de_bin {op : Operator} {rd : D → D → Sto → QD → Prop} (ho : OpD X (binaryOp op) rd) (ha : DE X a ta) (hb : DE X b tb) : DE X (.BinOp a op b pos) (tbin rd ta tb) := by
  obtain ⟨ta', pa, la⟩ := ha
  obtain ⟨tb', pb, lb⟩ := hb
  obtain ⟨r, o, lr⟩ := ho
  exact ⟨_, pe_op o pa pb, bin_ok la lb lr⟩
theorem de_cmp {op : CmpOp} {rd : D → D → Sto → QD → Prop} (ho : OpD X (compareOp op) rd) (ha : DE X a ta) (hb : DE X b tb) (hm : behindInMarks op b = false) : DE X (.Compare a [op] [b] pos) (tbin rd ta tb) := by
  obtain ⟨ta', pa, la⟩ := ha
  obtain ⟨tb', pb, lb⟩ := hb
  obtain ⟨r, o, lr⟩ := ho
  exact ⟨_, pe_cmpR o pa pb hm, bin_ok la lb lr⟩
/-- a reading whose value is a truth, as a test -/
def tbl (t : TD) : BD := fun σ S Q => t σ S fun d S1 => match d with
  | .bl b => Q b S1
  | _ => False
theorem bl_ok {t' : TE} {t : TD} (l : ∀ σ σd w Qd Q, RS X.K X.mg w → RL X.K X.mg w σ σd → t σd w.S Qd → ThenE X w Qd Q → t' σ w.H Q)
    (σ σd w Qd Q) (rs : RS X.K X.mg w) (rl : RL X.K X.mg w σ σd) (h : tbl t σd w.S Qd) (k : ThenB X w Qd Q) : tTest t' σ w.H Q := by
  refine l σ σd w _ _ rs rl h fun v d w1 k1 rs1 r q => ?_
  cases r with
  | bl b => exact ⟨b, rfl, k b w1 k1 rs1 q⟩
  | _ => exact False.elim q
theorem dt_cmp {op : CmpOp} {rd : D → D → Sto → QD → Prop} (ho : OpD X (compareOp op) rd) (ha : DE X a ta) (hb : DE X b tb) (hm : behindInMarks op b = false) : DT X (.Compare a [op] [b] pos) (tbl (tbin rd ta tb)) := by
  obtain ⟨ta', pa, la⟩ := ha
  obtain ⟨tb', pb, lb⟩ := hb
  obtain ⟨r, o, lr⟩ := ho
  exact ⟨_, pt_cmpR o pa pb hm, bl_ok (bin_ok la lb lr)⟩
/-- a op1 b op2 c -/
def tchain (r r' : D → D → Sto → QD → Prop) (ta tb tc : TD) : TD := fun σ S Q => ta σ S fun x S1 => tb σ S1 fun y S2 => r x y S2 fun z S3 => match z with
  | .bl k => if k = true then tc σ S3 fun u S4 => r' y u S4 Q else Q (.bl false) S3
  | _ => False
theorem chain_ok {r r' : R2} {rd rd' : D → D → Sto → QD → Prop} {ta' tb' tc' : TE} (la : ∀ σ σd w Qd Q, RS X.K X.mg w → RL X.K X.mg w σ σd → ta σd w.S Qd → ThenE X w Qd Q → ta' σ w.H Q)
    (lb : ∀ σ σd w Qd Q, RS X.K X.mg w → RL X.K X.mg w σ σd → tb σd w.S Qd → ThenE X w Qd Q → tb' σ w.H Q) (lc : ∀ σ σd w Qd Q, RS X.K X.mg w → RL X.K X.mg w σ σd → tc σd w.S Qd → ThenE X w Qd Q → tc' σ w.H Q)
    (lr : ∀ x y dx dy w Qd Q, RS X.K X.mg w → Rep X.K X.mg w.H w.O x dx → Rep X.K X.mg w.H w.O y dy → rd dx dy w.S Qd → ThenE X w Qd Q → r x y w.H Q)
    (lr' : ∀ x y dx dy w Qd Q, RS X.K X.mg w → Rep X.K X.mg w.H w.O x dx → Rep X.K X.mg w.H w.O y dy → rd' dx dy w.S Qd → ThenE X w Qd Q → r' x y w.H Q)
    (σ σd w Qd Q) (rs : RS X.K X.mg w) (rl : RL X.K X.mg w σ σd) (h : tchain rd rd' ta tb tc σd w.S Qd) (k : ThenE X w Qd Q) : tChain r r' ta' tb' tc' σ w.H Q := by
  refine la σ σd w _ _ rs rl h fun x dx w1 k1 rs1 rx h1 => ?_
  refine lb σ σd w1 _ _ rs1 (rl.keep rs k1) h1 fun y dy w2 k2 rs2 ry h2 => ?_
  refine lr x y dx dy w2 _ _ rs2 (rx.keep rs1 k2) ry h2 fun z dz w3 k3 rs3 rz h3 => ?_
  cases rz with
  | bl b =>
    refine ⟨b, rfl, ?_⟩
    cases b with
    | true =>
      rw [if_pos rfl]
      have h4 := h3
      simp only [if_true] at h4
      refine lc σ σd w3 _ _ rs3 (rl.keep rs (k1.trans (k2.trans k3))) h4 fun u du w4 k4 rs4 ru h5 => ?_
      exact lr' y u dy du w4 _ _ rs4 ((ry.keep rs2 k3).keep rs3 k4) ru h5 (k.keep (k1.trans (k2.trans (k3.trans k4))))
    | false =>
      rw [if_neg Bool.false_ne_true]
      have h4 := h3
      simp only [Bool.false_eq_true, if_false] at h4
      exact k _ _ w3 (k1.trans (k2.trans k3)) rs3 (.bl false) h4
  | _ => exact False.elim h3
theorem de_chain {op op' : CmpOp} {rd rd' : D → D → Sto → QD → Prop} (ho : OpD X (compareOp op) rd) (ho' : OpD X (compareOp op') rd') (ha : DE X a ta) (hb : DE X b tb) (hc : DE X c tc) (hm : lastMarks [op, op'] [b, c] = false) :
    DE X (.Compare a [op, op'] [b, c] pos) (tchain rd rd' ta tb tc) := by
  obtain ⟨ta', pa, la⟩ := ha
  obtain ⟨tb', pb, lb⟩ := hb
  obtain ⟨tc', pc, lc⟩ := hc
  obtain ⟨r, o, lr⟩ := ho
  obtain ⟨r', o', lr'⟩ := ho'
  exact ⟨_, pe_chain o o' pa pb pc hm, chain_ok la lb lc lr lr'⟩
theorem dt_chain {op op' : CmpOp} {rd rd' : D → D → Sto → QD → Prop} (ho : OpD X (compareOp op) rd) (ho' : OpD X (compareOp op') rd') (ha : DE X a ta) (hb : DE X b tb) (hc : DE X c tc) (hm : lastMarks [op, op'] [b, c] = false) :
    DT X (.Compare a [op, op'] [b, c] pos) (tbl (tchain rd rd' ta tb tc)) := by
  obtain ⟨ta', pa, la⟩ := ha
  obtain ⟨tb', pb, lb⟩ := hb
  obtain ⟨tc', pc, lc⟩ := hc
  obtain ⟨r, o, lr⟩ := ho
  obtain ⟨r', o', lr'⟩ := ho'
  exact ⟨_, pt_chain o o' pa pb pc hm, bl_ok (chain_ok la lb lc lr lr')⟩
/-! ### and, or, not, if-else -/
def ttru (t : TD) : BD := fun σ S Q => t σ S fun d S1 => match truD S1 d with
  | some b => Q b S1
  | none => False
theorem tru_at {w : W3} {v : V} {d : D} {P : Bool → Prop} (rs : RS X.K X.mg w) (r : Rep X.K X.mg w.H w.O v d) (h : match truD w.S d with | some b => P b | none => False) : ∃ k, TruV X.K v w.H k ∧ P k := by
  cases e : truD w.S d with
  | none => rw [e] at h; exact h.elim
  | some b => rw [e] at h; exact ⟨b, truD_ok rs r e, h⟩
theorem dt_truth (ha : DE X a ta) (he : ∀ whole, isTrue a X.env whole = (do let v ← whole; standAt a.pos; holding [v] (truthy v))) : DT X a (ttru ta) := by
  obtain ⟨ta', pa, la⟩ := ha
  refine ⟨_, pt_truth pa he, fun σ σd w Qd Q rs rl h k => ?_⟩
  refine la σ σd w _ _ rs rl h fun v d w1 k1 rs1 r q => ?_
  obtain ⟨b, tv, q⟩ := tru_at rs1 r q
  exact ⟨b, tv, k b w1 k1 rs1 q⟩
def tandB (t u : BD) : BD := fun σ S Q => t σ S fun c S1 => if c = true then u σ S1 Q else Q false S1
def torB (t u : BD) : BD := fun σ S Q => t σ S fun c S1 => if c = true then Q true S1 else u σ S1 Q
def tnotB (t : BD) : BD := fun σ S Q => t σ S fun c S1 => Q (!c) S1
variable {tA tB : BD} {rest : List Expr}
theorem DW.dt (h : DW X a tA) : DT X a tA := let ⟨t, p, l⟩ := h.ex; ⟨t, p.pt, l⟩
theorem dw_and1 (ha : DT X a tA) : DW X (.BoolOp .And [a] pos) tA := let ⟨t, p, l⟩ := ha.ex; ⟨t, pw_and1 p, l⟩
theorem dw_or1 (ha : DT X a tA) : DW X (.BoolOp .Or [a] pos) tA := let ⟨t, p, l⟩ := ha.ex; ⟨t, pw_or1 p, l⟩
theorem dw_and (ha : DT X a tA) (hb : DW X (.BoolOp .And (b :: rest) pos) tB) : DW X (.BoolOp .And (a :: b :: rest) pos) (tandB tA tB) := by
  obtain ⟨t, p, l⟩ := ha
  obtain ⟨t', p', l'⟩ := hb
  refine ⟨_, pw_and p p', fun σ σd w Qd Q rs rl h k => ?_⟩
  refine l σ σd w _ _ rs rl h fun c w1 k1 rs1 q => ?_
  cases c with
  | true => rw [if_pos rfl]; rw [if_pos rfl] at q; exact l' σ σd w1 _ _ rs1 (rl.keep rs k1) q (k.keep k1)
  | false => rw [if_neg Bool.false_ne_true]; rw [if_neg Bool.false_ne_true] at q; exact k false w1 k1 rs1 q
theorem dw_or (ha : DT X a tA) (hb : DW X (.BoolOp .Or (b :: rest) pos) tB) : DW X (.BoolOp .Or (a :: b :: rest) pos) (torB tA tB) := by
  obtain ⟨t, p, l⟩ := ha
  obtain ⟨t', p', l'⟩ := hb
  refine ⟨_, pw_or p p', fun σ σd w Qd Q rs rl h k => ?_⟩
  refine l σ σd w _ _ rs rl h fun c w1 k1 rs1 q => ?_
  cases c with
  | true => rw [if_pos rfl]; rw [if_pos rfl] at q; exact k true w1 k1 rs1 q
  | false => rw [if_neg Bool.false_ne_true]; rw [if_neg Bool.false_ne_true] at q; exact l' σ σd w1 _ _ rs1 (rl.keep rs k1) q (k.keep k1)
theorem dt_not (ha : DT X a tA) : DT X (.UnaryOp .Not a pos) (tnotB tA) := by
  obtain ⟨t, p, l⟩ := ha
  refine ⟨_, pt_not p, fun σ σd w Qd Q rs rl h k => ?_⟩
  exact l σ σd w _ _ rs rl h fun c w1 k1 rs1 q => k (!c) w1 k1 rs1 q
def tandV (ta tb : TD) : TD := fun σ S Q => ta σ S fun x S1 => match truD S1 x with
  | some k => if k = true then tb σ S1 Q else Q x S1
  | none => False
def torV (ta tb : TD) : TD := fun σ S Q => ta σ S fun x S1 => match truD S1 x with
  | some k => if k = true then Q x S1 else tb σ S1 Q
  | none => False
def tnotV (ta : TD) : TD := fun σ S Q => ta σ S fun x S1 => match truD S1 x with
  | some k => Q (.bl (!k)) S1
  | none => False
theorem de_one {op} (ha : DE X a ta) : DE X (.BoolOp op [a] pos) ta := let ⟨t, p, l⟩ := ha.ex; ⟨t, pe_one p, l⟩
theorem de_and (ha : DE X a ta) (hb : DE X (.BoolOp .And (b :: rest) pos) tb) : DE X (.BoolOp .And (a :: b :: rest) pos) (tandV ta tb) := by
  obtain ⟨t, p, l⟩ := ha
  obtain ⟨t', p', l'⟩ := hb
  refine ⟨_, pe_andT p p', fun σ σd w Qd Q rs rl h k => ?_⟩
  refine l σ σd w _ _ rs rl h fun v d w1 k1 rs1 r q => ?_
  obtain ⟨c, tv, q⟩ := tru_at rs1 r q
  refine ⟨c, tv, ?_⟩
  cases c with
  | true => rw [if_pos rfl]; rw [if_pos rfl] at q; exact l' σ σd w1 _ _ rs1 (rl.keep rs k1) q (k.keep k1)
  | false => rw [if_neg Bool.false_ne_true]; rw [if_neg Bool.false_ne_true] at q; exact k v d w1 k1 rs1 r q
theorem de_or (ha : DE X a ta) (hb : DE X (.BoolOp .Or (b :: rest) pos) tb) : DE X (.BoolOp .Or (a :: b :: rest) pos) (torV ta tb) := by
  obtain ⟨t, p, l⟩ := ha
  obtain ⟨t', p', l'⟩ := hb
  refine ⟨_, pe_orT p p', fun σ σd w Qd Q rs rl h k => ?_⟩
  refine l σ σd w _ _ rs rl h fun v d w1 k1 rs1 r q => ?_
  obtain ⟨c, tv, q⟩ := tru_at rs1 r q
  refine ⟨c, tv, ?_⟩
  cases c with
  | true => rw [if_pos rfl]; rw [if_pos rfl] at q; exact k v d w1 k1 rs1 r q
  | false => rw [if_neg Bool.false_ne_true]; rw [if_neg Bool.false_ne_true] at q; exact l' σ σd w1 _ _ rs1 (rl.keep rs k1) q (k.keep k1)
theorem de_not (ha : DE X a ta) : DE X (.UnaryOp .Not a pos) (tnotV ta) := by
  obtain ⟨t, p, l⟩ := ha
  refine ⟨_, pe_notT p, fun σ σd w Qd Q rs rl h k => ?_⟩
  refine l σ σd w _ _ rs rl h fun v d w1 k1 rs1 r q => ?_
  obtain ⟨c, tv, q⟩ := tru_at rs1 r q
  exact ⟨c, tv, k _ _ w1 k1 rs1 (.bl _) q⟩
def tifx (t : BD) (ta tb : TD) : TD := fun σ S Q => t σ S fun c S1 => if c = true then ta σ S1 Q else tb σ S1 Q
theorem de_ifx (hc : DT X c tA) (ha : DE X a ta) (hb : DE X b tb) : DE X (.IfExp c a b pos) (tifx tA ta tb) := by
  obtain ⟨t, p, l⟩ := hc
  obtain ⟨t', p', l'⟩ := ha
  obtain ⟨t'', p'', l''⟩ := hb
  refine ⟨_, pe_ifExp p p' p'', fun σ σd w Qd Q rs rl h k => ?_⟩
  refine l σ σd w _ _ rs rl h fun c w1 k1 rs1 q => ?_
  cases c with
  | true => rw [if_pos rfl]; rw [if_pos rfl] at q; exact l' σ σd w1 _ _ rs1 (rl.keep rs k1) q (k.keep k1)
  | false => rw [if_neg Bool.false_ne_true]; rw [if_neg Bool.false_ne_true] at q; exact l'' σ σd w1 _ _ rs1 (rl.keep rs k1) q (k.keep k1)
/-! ### argument lists, tuples, lists -/
def tnil : AD := fun _ S Q => Q [] S
def tcons (ta : TD) (tr : AD) : AD := fun σ S Q => ta σ S fun x S1 => tr σ S1 fun xs S2 => Q (x :: xs) S2
variable {es : List Expr} {tr : AD}
theorem da_nil : DA X [] tnil := ⟨_, pa_nil, fun σ σd w Qd Q rs rl h k => k [] [] w (.refl w) rs .nil h⟩
theorem da_cons (ha : DE X a ta) (hr : DA X es tr) (hs : starEach (a :: es) X.env = (false, eval a X.env) :: starEach es X.env) : DA X (a :: es) (tcons ta tr) := by
  obtain ⟨t, p, l⟩ := ha
  obtain ⟨t', p', l'⟩ := hr
  refine ⟨_, pa_cons p p' hs, fun σ σd w Qd Q rs rl h k => ?_⟩
  refine l σ σd w _ _ rs rl h fun v d w1 k1 rs1 r q => ?_
  refine l' σ σd w1 _ _ rs1 (rl.keep rs k1) q fun vs ds w2 k2 rs2 r2 q2 => ?_
  exact k (v :: vs) (d :: ds) w2 (k1.trans k2) rs2 (.cons (r.keep rs1 k2) r2) q2
/-- a condition on a size -/
def Sz (n : Nat) : Prop := n ≤ sizeLine
def ttup (t : AD) : TD := fun σ S Q => t σ S fun ds S1 => Sz ds.length ∧ Q (.tup ds) S1
def tlst (t : AD) : TD := fun σ S Q => t σ S fun ds S1 => Sz ds.length ∧ Q (.lst ds) S1
def town (t : AD) : TD := fun σ S Q => t σ S fun ds S1 => Sz ds.length ∧ ∀ a, S1 a = none → Q (.ref a) (ups S1 a (.ml ds))
theorem then_tup {w : W3} {Qd : QD} {Q : VK} (rs : RS X.K X.mg w) {vs : List V} {ds : List D} (r : Reps X.K X.mg w.H w.O vs ds) (k : ThenE X w Qd Q) (q : Qd (.tup ds) w.S) : ∀ p, w.H p = none → Q (.ref p) (upd w.H p (.tup vs)) := fun p hp => by
  obtain ⟨w', e1, e2, k1, rs1, r1⟩ := new_tup rs hp r
  rw [← e1]
  exact k _ _ w' k1 rs1 r1 (by rw [e2]; exact q)
theorem then_lst {w : W3} {Qd : QD} {Q : VK} (rs : RS X.K X.mg w) {vs : List V} {ds : List D} (r : Reps X.K X.mg w.H w.O vs ds) (k : ThenE X w Qd Q) (q : Qd (.lst ds) w.S) : ∀ p, w.H p = none → Q (.ref p) (upd w.H p (.lst vs)) := fun p hp => by
  obtain ⟨w', e1, e2, k1, rs1, r1⟩ := new_lst rs hp r
  rw [← e1]
  exact k _ _ w' k1 rs1 r1 (by rw [e2]; exact q)
theorem then_own {w : W3} {Qd : QD} {Q : VK} (rs : RS X.K X.mg w) {vs : List V} {ds : List D} (r : Reps X.K X.mg w.H w.O vs ds) (k : ThenE X w Qd Q) (q : ∀ a, w.S a = none → Qd (.ref a) (ups w.S a (.ml ds))) : ∀ p, w.H p = none → Q (.ref p) (upd w.H p (.lst vs)) := fun p hp => by
  obtain ⟨hs, w', e1, e2, k1, rs1⟩ := new_own rs hp (.ml r)
  rw [← e1]
  exact k _ _ w' k1 rs1 (.ref p) (by rw [e2]; exact q p hs)
theorem de_tup {x1} (h : DA X es tr) : DE X (.Tuple es x1 pos) (ttup tr) := by
  obtain ⟨t, p, l⟩ := h
  refine ⟨_, pe_tup p, fun σ σd w Qd Q rs rl h k => ?_⟩
  refine l σ σd w _ _ rs rl h fun vs ds w1 k1 rs1 r q => ?_
  exact ⟨by rw [r.len]; exact q.1, then_tup rs1 r (k.keep k1) q.2⟩
theorem de_lst (h : DA X es tr) : DE X (.List es pos) (tlst tr) := by
  obtain ⟨t, p, l⟩ := h
  refine ⟨_, pe_lst p, fun σ σd w Qd Q rs rl h k => ?_⟩
  refine l σ σd w _ _ rs rl h fun vs ds w1 k1 rs1 r q => ?_
  exact ⟨by rw [r.len]; exact q.1, then_lst rs1 r (k.keep k1) q.2⟩
theorem de_own (h : DA X es tr) : DE X (.List es pos) (town tr) := by
  obtain ⟨t, p, l⟩ := h
  refine ⟨_, pe_lst p, fun σ σd w Qd Q rs rl h k => ?_⟩
  refine l σ σd w _ _ rs rl h fun vs ds w1 k1 rs1 r q => ?_
  exact ⟨by rw [r.len]; exact q.1, then_own rs1 r (k.keep k1) q.2⟩
end
end PyD

set_option Elab.async false
set_option linter.all false
set_option maxRecDepth 100000
set_option maxHeartbeats 2000000
/-! PyDC: the operators, comparisons, subscripts, slices, built-in calls, methods, one by one. -/
namespace PyD
open PySem PySem.Spec PyProof.Rows L2

section
variable {X : Cx}
/-! ### operators -/
/-- // by a divisor below 2 ^ 9000 -/
def CFd (j : Int) : Prop := j ≠ 0 ∧ j.natAbs.log2 < 9000
theorem op_fdivX : OpR X (binaryOp .FloorDiv) (rI (fun _ j => CFd j) fun i j => .int (i.fdiv j)) := opI fun _ _ _ _ _ _ _ hc q => floordiv_int hc.1 q (.inl (PyProof.noPylong_of_log2 hc.2))
theorem opd_I {f : Value → Value → Sem Value} {C : Int → Int → Prop} {g : Int → Int → Int} (h : OpR X f (rI C fun i j => .int (g i j))) : OpD X f (fun x y S Q => ∃ i j, x = .int i ∧ y = .int j ∧ C i j ∧ Q (.int (g i j)) S) := by
  refine ⟨_, h, fun x y dx dy w Qd Q rs rx ry q k => ?_⟩
  obtain ⟨i, j, rfl, rfl, hc, q⟩ := q
  cases rx
  cases ry
  exact ⟨i, j, rfl, rfl, hc, k _ _ w (.refl w) rs (.int _) q⟩
theorem opd_I0 {f : Value → Value → Sem Value} {g : Int → Int → Int} (h : OpR X f (rI0 fun i j => .int (g i j))) : OpD X f (fun x y S Q => ∃ i j, x = .int i ∧ y = .int j ∧ Q (.int (g i j)) S) := by
  refine ⟨_, h, fun x y dx dy w Qd Q rs rx ry q k => ?_⟩
  obtain ⟨i, j, rfl, rfl, q⟩ := q
  cases rx
  cases ry
  exact ⟨i, j, rfl, rfl, k _ _ w (.refl w) rs (.int _) q⟩
theorem opd_B0 {f : Value → Value → Sem Value} {g : Int → Int → Bool} (h : OpR X f (rI0 fun i j => .bl (g i j))) : OpD X f (fun x y S Q => ∃ i j, x = .int i ∧ y = .int j ∧ Q (.bl (g i j)) S) := by
  refine ⟨_, h, fun x y dx dy w Qd Q rs rx ry q k => ?_⟩
  obtain ⟨i, j, rfl, rfl, q⟩ := q
  cases rx
  cases ry
  exact ⟨i, j, rfl, rfl, k _ _ w (.refl w) rs (.bl _) q⟩
theorem opd_strcat : OpD X (binaryOp .Add) (fun x y S Q => ∃ i j : Str, x = .str i ∧ y = .str j ∧ Sz (i.length + j.length) ∧ Q (.str (i ++ j)) S) := by
  refine ⟨_, op_add_str, fun x y dx dy w Qd Q rs rx ry q k => ?_⟩
  obtain ⟨i, j, rfl, rfl, hz, q⟩ := q
  cases rx
  cases ry
  exact ⟨i, j, rfl, rfl, hz, k _ _ w (.refl w) rs (.str _) q⟩
theorem Reps.nil_of {K : PySem.W.Frag} {mg : Str → Option Value} {H : Hp} {O : Own} {vs : List V} {ds : List D} (r : Reps K mg H O vs ds) (h : vs = []) : ds = [] := by
  have := r.len
  rw [h] at this
  exact List.length_eq_zero_iff.mp this.symm
/-- a tuple, new or a constant -/
def anyT : D → Option (List D)
  | .tup a => some a
  | .ctu a => some a
  | _ => none
theorem anyT_ok {K : PySem.W.Frag} {mg : Str → Option Value} {H : Hp} {O : Own} {v : V} {d : D} {ds : List D} (r : Rep K mg H O v d) (h : anyT d = some ds) : ∃ p us, v = .ref p ∧ SqT K H p us ∧ us.length = ds.length ∧ ∀ (i : Nat) v d, us[i]? = some v → ds[i]? = some d → Rep K mg H O v d := by
  cases r with
  | tup h1 hl hr => cases h; exact ⟨_, _, rfl, .inl (.inl h1), hl, hr⟩
  | ctu h1 hl hr => cases h; exact ⟨_, _, rfl, h1, hl, hr⟩
  | _ => cases h
theorem opd_ctucat : OpD X (binaryOp .Add) (fun x y S Q => ∃ a b, anyT x = some a ∧ anyT y = some b ∧ Sz (a.length + b.length) ∧ Q (.ctu (a ++ b)) S) := by
  refine ⟨_, op_catA, fun x y dx dy w Qd Q rs rx ry q k => ?_⟩
  obtain ⟨a, b, ha, hb, hz, q⟩ := q
  obtain ⟨p, us, rfl, h1, hl1, hr1⟩ := anyT_ok rx ha
  obtain ⟨p', ws, rfl, h2, hl2, hr2⟩ := anyT_ok ry hb
  have r1 : Reps X.K X.mg w.H w.O us a := ⟨hl1, hr1⟩
  have r2 : Reps X.K X.mg w.H w.O ws b := ⟨hl2, hr2⟩
  refine ⟨p, p', us, ws, rfl, rfl, h1, h2, by rw [hl1, hl2]; exact hz, fun e => ?_, fun _ e => ?_, fun _ _ => ?_⟩
  · have ea := r1.nil_of e
    subst ea
    exact k _ _ w (.refl w) rs (.ctu h2 hl2 hr2) q
  · have eb := r2.nil_of e
    subst eb
    rw [List.append_nil] at q
    exact k _ _ w (.refl w) rs (.ctu h1 hl1 hr1) q
  · intro q' hq'
    obtain ⟨w', e1, e2, k1, rs1, rr⟩ := new_tup rs hq' (r1.append r2)
    rw [← e1]
    refine k _ _ w' k1 rs1 ?_ (by rw [e2]; exact q)
    cases rr with
    | tup h3 hl3 hr3 => exact .ctu (.inl (.inl h3)) hl3 hr3
theorem opd_tupcat : OpD X (binaryOp .Add) (fun x y S Q => ∃ a b, x = .tup a ∧ y = .tup b ∧ Sz (a.length + b.length) ∧ Q (.tup (a ++ b)) S) := by
  refine ⟨_, op_catA, fun x y dx dy w Qd Q rs rx ry q k => ?_⟩
  obtain ⟨a, b, rfl, rfl, hz, q⟩ := q
  cases rx with
  | tup g1 hl1 hr1 =>
  rename_i p us
  cases ry with
  | tup g2 hl2 hr2 =>
  rename_i p' ws
  have h1 : SqT X.K w.H p us := .inl (.inl g1)
  have h2 : SqT X.K w.H p' ws := .inl (.inl g2)
  have r1 : Reps X.K X.mg w.H w.O us a := ⟨hl1, hr1⟩
  have r2 : Reps X.K X.mg w.H w.O ws b := ⟨hl2, hr2⟩
  refine ⟨p, p', us, ws, rfl, rfl, h1, h2, by rw [hl1, hl2]; exact hz, fun e => ?_, fun _ e => ?_, fun _ _ => ?_⟩
  · have ea := r1.nil_of e
    subst ea
    exact k _ _ w (.refl w) rs (.tup g2 hl2 hr2) q
  · have eb := r2.nil_of e
    subst eb
    rw [List.append_nil] at q
    exact k _ _ w (.refl w) rs (.tup g1 hl1 hr1) q
  · exact then_tup rs (r1.append r2) k q
theorem opd_lstcat : OpD X (binaryOp .Add) (fun x y S Q => ∃ a b, lstOf S x = some a ∧ lstOf S y = some b ∧ Sz (a.length + b.length) ∧ Q (.lst (a ++ b)) S) := by
  refine ⟨_, op_cat, fun x y dx dy w Qd Q rs rx ry q k => ?_⟩
  obtain ⟨a, b, ha, hb, hz, q⟩ := q
  obtain ⟨p, us, rfl, h1, r1⟩ := lstOf_ok rs rx ha
  obtain ⟨p', ws, rfl, h2, r2⟩ := lstOf_ok rs ry hb
  exact ⟨p, p', us, ws, rfl, rfl, h1, h2, by rw [r1.len, r2.len]; exact hz, then_lst rs (r1.append r2) k q⟩
def dAdd (x y : D) (S : Sto) (Q : QD) : Prop := match x with
  | .int i => match y with
    | .int j => Q (.int (i + j)) S
    | _ => False
  | .str i => match y with
    | .str j => Sz (i.length + j.length) ∧ Q (.str (i ++ j)) S
    | _ => False
  | .tup a => match y with
    | .tup b => Sz (a.length + b.length) ∧ Q (.tup (a ++ b)) S
    | .ctu b => Sz (a.length + b.length) ∧ Q (.ctu (a ++ b)) S
    | _ => False
  | .ctu a => match y with
    | .tup b => Sz (a.length + b.length) ∧ Q (.ctu (a ++ b)) S
    | .ctu b => Sz (a.length + b.length) ∧ Q (.ctu (a ++ b)) S
    | _ => False
  | x => match lstOf S x, lstOf S y with
    | some a, some b => Sz (a.length + b.length) ∧ Q (.lst (a ++ b)) S
    | _, _ => False
theorem opd_add : OpD X (binaryOp .Add) dAdd := by
  refine (opd_I0 op_add).or (opd_strcat.or (opd_tupcat.or (opd_lstcat.or opd_ctucat))) |>.imp fun x y S Q h => ?_
  have lcase : (match lstOf S x, lstOf S y with
    | some a, some b => Sz (a.length + b.length) ∧ Q (.lst (a ++ b)) S
    | _, _ => False) → ∃ a b, lstOf S x = some a ∧ lstOf S y = some b ∧ Sz (a.length + b.length) ∧ Q (.lst (a ++ b)) S := fun h => by
    cases e1 : lstOf S x with
    | none => rw [e1] at h; exact h.elim
    | some a =>
      cases e2 : lstOf S y with
      | none => rw [e1, e2] at h; exact h.elim
      | some b => rw [e1, e2] at h; exact ⟨a, b, rfl, rfl, h⟩
  cases x with
  | int i => cases y with
    | int j => exact .inl ⟨i, j, rfl, rfl, h⟩
    | _ => exact False.elim h
  | str i => cases y with
    | str j => exact .inr (.inl ⟨i, j, rfl, rfl, h⟩)
    | _ => exact False.elim h
  | tup a => cases y with
    | tup b => exact .inr (.inr (.inl ⟨a, b, rfl, rfl, h⟩))
    | ctu b => exact .inr (.inr (.inr (.inr ⟨a, b, rfl, rfl, h⟩)))
    | _ => exact False.elim h
  | ctu a => cases y with
    | tup b => exact .inr (.inr (.inr (.inr ⟨a, b, rfl, rfl, h⟩)))
    | ctu b => exact .inr (.inr (.inr (.inr ⟨a, b, rfl, rfl, h⟩)))
    | _ => exact False.elim h
  | _ => exact .inr (.inr (.inr (.inl (lcase h))))
theorem op_subB : OpR X (binaryOp .Sub) (fun x y H Q => ∃ a b, x = .bl a ∧ y = .bl b ∧ Q (.int (PyProof.Rows.b2i a - PyProof.Rows.b2i b)) H) := by
  intro pins s σ H x y v u Q I rx ry h
  obtain ⟨a, b, rfl, rfl, q⟩ := h
  obtain rfl : v = Value.bool a := rx
  obtain rfl : u = Value.bool b := ry
  exact PyProof.Rows.sub_bool ⟨.int (PyProof.Rows.b2i a - PyProof.Rows.b2i b), H, I.tok _, ⟨_, rfl⟩, q⟩
theorem opd_subB : OpD X (binaryOp .Sub) (fun x y S Q => ∃ a b, x = .bl a ∧ y = .bl b ∧ Q (.int (PyProof.Rows.b2i a - PyProof.Rows.b2i b)) S) := by
  refine ⟨_, op_subB, fun x y dx dy w Qd Q rs rx ry q k => ?_⟩
  obtain ⟨a, b, rfl, rfl, q⟩ := q
  cases rx
  cases ry
  exact ⟨a, b, rfl, rfl, k _ _ w (.refl w) rs (.int _) q⟩
def dSub (x y : D) (S : Sto) (Q : QD) : Prop := match x with
  | .int i => match y with
    | .int j => Q (.int (i - j)) S
    | _ => False
  | .bl i => match y with
    | .bl j => Q (.int (PyProof.Rows.b2i i - PyProof.Rows.b2i j)) S
    | _ => False
  | _ => False
theorem opd_sub : OpD X (binaryOp .Sub) dSub := ((opd_I0 op_sub).or opd_subB).imp fun x y S Q h => by
  cases x with
  | int i => cases y with
    | int j => exact .inl ⟨i, j, rfl, rfl, h⟩
    | _ => exact False.elim h
  | bl i => cases y with
    | bl j => exact .inr ⟨i, j, rfl, rfl, h⟩
    | _ => exact False.elim h
  | _ => exact False.elim h
theorem opd_rep : OpD X (binaryOp .Mult) (fun x y S Q => ∃ a j, lstOf S x = some a ∧ y = .int j ∧ -(2 ^ 63) ≤ j ∧ j < 2 ^ 63 ∧ Sz (a.length * j.toNat) ∧ Q (.lst (List.replicate j.toNat a).flatten) S) := by
  refine ⟨_, op_rep, fun x y dx dy w Qd Q rs rx ry q k => ?_⟩
  obtain ⟨a, j, ha, rfl, h1, h2, hz, q⟩ := q
  obtain ⟨p, us, rfl, e1, r1⟩ := lstOf_ok rs rx ha
  cases ry
  have rr : ∀ n : Nat, Reps X.K X.mg w.H w.O (List.replicate n us).flatten (List.replicate n a).flatten := fun n => by
    induction n with
    | zero => exact .nil
    | succ n ih => rw [List.replicate_succ, List.replicate_succ, List.flatten_cons, List.flatten_cons]; exact r1.append ih
  exact ⟨p, j, us, rfl, rfl, e1, h1, h2, by rw [r1.len]; exact hz, then_lst rs (rr _) k q⟩
def dMul (x y : D) (S : Sto) (Q : QD) : Prop := match y with
  | .int j => match x with
    | .int i => CMulW i j ∧ Q (.int (i * j)) S
    | x => match lstOf S x with
      | some a => -(2 ^ 63) ≤ j ∧ j < 2 ^ 63 ∧ Sz (a.length * j.toNat) ∧ Q (.lst (List.replicate j.toNat a).flatten) S
      | none => False
  | _ => False
theorem opd_mul : OpD X (binaryOp .Mult) dMul := ((opd_I op_mulW).or opd_rep).imp fun x y S Q h => by
  cases y with
  | int j =>
    have lcase : (match lstOf S x with
      | some a => -(2 ^ 63) ≤ j ∧ j < 2 ^ 63 ∧ Sz (a.length * j.toNat) ∧ Q (.lst (List.replicate j.toNat a).flatten) S
      | none => False) → ∃ a j', lstOf S x = some a ∧ D.int j = .int j' ∧ -(2 ^ 63) ≤ j' ∧ j' < 2 ^ 63 ∧ Sz (a.length * j'.toNat) ∧ Q (.lst (List.replicate j'.toNat a).flatten) S := fun h => by
      cases e1 : lstOf S x with
      | none => rw [e1] at h; exact h.elim
      | some a => rw [e1] at h; exact ⟨a, j, rfl, rfl, h⟩
    cases x with
    | int i => exact .inl ⟨i, j, rfl, rfl, h⟩
    | _ => exact .inr (lcase h)
  | _ => exact False.elim h
def dFdiv (x y : D) (S : Sto) (Q : QD) : Prop := match x with
  | .int i => match y with
    | .int j => CFd j ∧ Q (.int (i.fdiv j)) S
    | _ => False
  | _ => False
theorem opd_fdiv : OpD X (binaryOp .FloorDiv) dFdiv := (opd_I op_fdivX).imp fun x y S Q h => by
  cases x with
  | int i => cases y with
    | int j => exact ⟨i, j, rfl, rfl, h⟩
    | _ => exact False.elim h
  | _ => exact False.elim h
def dMod (x y : D) (S : Sto) (Q : QD) : Prop := match x with
  | .int i => match y with
    | .int j => 0 < j ∧ Q (.int (i % j)) S
    | _ => False
  | _ => False
theorem opd_mod : OpD X (binaryOp .Mod) dMod := (opd_I op_mod).imp fun x y S Q h => by
  cases x with
  | int i => cases y with
    | int j => exact ⟨i, j, rfl, rfl, h⟩
    | _ => exact False.elim h
  | _ => exact False.elim h
def dPow (x y : D) (S : Sto) (Q : QD) : Prop := match x with
  | .int i => match y with
    | .int j => CPow i j ∧ Q (.int (i ^ j.toNat)) S
    | _ => False
  | _ => False
theorem opd_pow : OpD X (binaryOp .Pow) dPow := (opd_I op_pow).imp fun x y S Q h => by
  cases x with
  | int i => cases y with
    | int j => exact ⟨i, j, rfl, rfl, h⟩
    | _ => exact False.elim h
  | _ => exact False.elim h
/-! ### comparisons -/
def dCmpI (f : Int → Int → Bool) (x y : D) (S : Sto) (Q : QD) : Prop := match x with
  | .int i => match y with
    | .int j => Q (.bl (f i j)) S
    | _ => False
  | _ => False
theorem opd_cmpI {op : CmpOp} {f : Int → Int → Bool} (h : OpR X (compareOp op) (rI0 fun i j => .bl (f i j))) : OpD X (compareOp op) (dCmpI f) := (opd_B0 h).imp fun x y S Q h => by
  cases x with
  | int i => cases y with
    | int j => exact ⟨i, j, rfl, rfl, h⟩
    | _ => exact False.elim h
  | _ => exact False.elim h
/-- == of data -/
def eqD (S : Sto) (x y : D) : Option Bool := match toP S x, toP S y with
  | some p, some q => if SeqAt.shaped p && SeqAt.shaped q then some (PyData.eqv p q) else none
  | _, _ => none
theorem eqD_some {S : Sto} {x y : D} {b : Bool} (h : eqD S x y = some b) : ∃ p q, toP S x = some p ∧ toP S y = some q ∧ SeqAt.shaped p = true ∧ SeqAt.shaped q = true ∧ PyData.eqv p q = b := by
  unfold eqD at h
  cases e1 : toP S x with
  | none => rw [e1] at h; cases h
  | some p =>
    cases e2 : toP S y with
    | none => rw [e1, e2] at h; cases h
    | some q =>
      rw [e1, e2] at h
      have h' : (if SeqAt.shaped p && SeqAt.shaped q then some (PyData.eqv p q) else none) = some b := h
      split at h'
      · rename_i hs
        obtain ⟨a1, a2⟩ := Bool.and_eq_true_iff.mp hs
        exact ⟨p, q, rfl, rfl, a1, a2, Option.some.inj h'⟩
      · cases h'
@[irreducible] def dEq (neg : Bool) (x y : D) (S : Sto) (Q : QD) : Prop := match eqD S x y with
  | some b => Q (.bl (if neg then !b else b)) S
  | none => False
theorem opd_eq (hu : X.A.units + 64 < cLine) : OpD X (compareOp .Eq) (dEq false) := by
  refine ⟨_, op_eqD hu, fun x y dx dy w Qd Q rs rx ry q k => ?_⟩
  unfold dEq at q
  cases e : eqD w.S dx dy with
  | none => rw [e] at q; exact q.elim
  | some b =>
    rw [e] at q
    obtain ⟨p, q', h1, h2, h3, h4, rfl⟩ := eqD_some e
    exact ⟨p, q', toP_ok rs rx h1, toP_ok rs ry h2, h3, h4, k _ _ w (.refl w) rs (.bl _) q⟩
theorem opd_ne (hu : X.A.units + 64 < cLine) : OpD X (compareOp .NotEq) (dEq true) := by
  refine ⟨_, op_neD hu, fun x y dx dy w Qd Q rs rx ry q k => ?_⟩
  unfold dEq at q
  cases e : eqD w.S dx dy with
  | none => rw [e] at q; exact q.elim
  | some b =>
    rw [e] at q
    obtain ⟨p, q', h1, h2, h3, h4, rfl⟩ := eqD_some e
    exact ⟨p, q', toP_ok rs rx h1, toP_ok rs ry h2, h3, h4, k _ _ w (.refl w) rs (.bl _) q⟩
/-- in a tuple of data -/
def rInT (K : PySem.W.Frag) : R2 := fun x y H Q => ∃ d ds, Dp K H x d ∧ Dp K H y (.tuple ds) ∧ SeqAt.shaped d = true ∧ SeqAt.shaped (.tuple ds) = true ∧ Q (.bl (ds.any fun z => PyData.eqv z d)) H
def rNotInT (K : PySem.W.Frag) : R2 := fun x y H Q => ∃ d ds, Dp K H x d ∧ Dp K H y (.tuple ds) ∧ SeqAt.shaped d = true ∧ SeqAt.shaped (.tuple ds) = true ∧ Q (.bl (!ds.any fun z => PyData.eqv z d)) H
theorem op_inT (hu : X.A.units + 65 < cLine) : OpR X (compareOp .In) (rInT X.K) := by
  intro pins s σ H x y v u Q I rx ry h
  obtain ⟨d, ds, hd, he, sd, se, q⟩ := h
  obtain ⟨as, r1⟩ := Dp.reads I d x v hd rx
  obtain ⟨bs, r2⟩ := Dp.reads I (.tuple ds) y u he ry
  exact SeqAt.in_tuple_reads r2 r1 (SeqAt.canLay_of_shaped se) (SeqAt.canLay_of_shaped sd) (room_in_shaped sd hu) ⟨.bl _, H, I, rfl, q⟩
theorem op_notInT (hu : X.A.units + 65 < cLine) : OpR X (compareOp .NotIn) (rNotInT X.K) := by
  intro pins s σ H x y v u Q I rx ry h
  obtain ⟨d, ds, hd, he, sd, se, q⟩ := h
  obtain ⟨as, r1⟩ := Dp.reads I d x v hd rx
  obtain ⟨bs, r2⟩ := Dp.reads I (.tuple ds) y u he ry
  exact SeqAt.notIn_tuple_reads r2 r1 (SeqAt.canLay_of_shaped se) (SeqAt.canLay_of_shaped sd) (room_in_shaped sd hu) ⟨.bl _, H, I, rfl, q⟩
/-- x in y, y a list or a tuple of data -/
def inD (S : Sto) (x y : D) : Option Bool := match toP S x, toP S y with
  | some p, some (.list qs) => if SeqAt.shaped p && SeqAt.shaped (.list qs) then some (qs.any fun z => PyData.eqv z p) else none
  | some p, some (.tuple qs) => if SeqAt.shaped p && SeqAt.shaped (.tuple qs) then some (qs.any fun z => PyData.eqv z p) else none
  | _, _ => none
theorem inD_some {S : Sto} {x y : D} {b : Bool} (h : inD S x y = some b) : ∃ p qs, toP S x = some p ∧ SeqAt.shaped p = true ∧ (qs.any fun z => PyData.eqv z p) = b ∧ ((toP S y = some (.list qs) ∧ SeqAt.shaped (.list qs) = true) ∨ (toP S y = some (.tuple qs) ∧ SeqAt.shaped (.tuple qs) = true)) := by
  unfold inD at h
  cases e1 : toP S x with
  | none => rw [e1] at h; simp at h
  | some p =>
    cases e2 : toP S y with
    | none => rw [e1, e2] at h; simp at h
    | some q =>
      rw [e1, e2] at h
      cases q with
      | list qs =>
        have h' : (if SeqAt.shaped p && SeqAt.shaped (.list qs) then some (qs.any fun z => PyData.eqv z p) else none) = some b := h
        split at h'
        · rename_i hs
          obtain ⟨a1, a2⟩ := Bool.and_eq_true_iff.mp hs
          exact ⟨p, qs, rfl, a1, Option.some.inj h', .inl ⟨rfl, a2⟩⟩
        · cases h'
      | tuple qs =>
        have h' : (if SeqAt.shaped p && SeqAt.shaped (.tuple qs) then some (qs.any fun z => PyData.eqv z p) else none) = some b := h
        split at h'
        · rename_i hs
          obtain ⟨a1, a2⟩ := Bool.and_eq_true_iff.mp hs
          exact ⟨p, qs, rfl, a1, Option.some.inj h', .inr ⟨rfl, a2⟩⟩
        · cases h'
      | _ => simp at h
/-- a text in a text -/
def strIn (x y : Str) : Bool := !(Builtin.Str.occurrences y x 0 y.length 1).isEmpty
@[irreducible] def dIn (neg : Bool) (x y : D) (S : Sto) (Q : QD) : Prop := match y with
  | .str j => match x with
    | .str i => Q (.bl (if neg then !strIn i j else strIn i j)) S
    | _ => False
  | y => match inD S x y with
    | some b => Q (.bl (if neg then !b else b)) S
    | none => False
theorem dIn_split {neg : Bool} {x y : D} {S : Sto} {Q : QD} (h : dIn neg x y S Q) : (∃ i j, x = .str i ∧ y = .str j ∧ Q (.bl (if neg then !strIn i j else strIn i j)) S) ∨ ∃ b, inD S x y = some b ∧ Q (.bl (if neg then !b else b)) S := by
  unfold dIn at h
  have g : (match inD S x y with | some b => Q (.bl (if neg then !b else b)) S | none => False) → ∃ b, inD S x y = some b ∧ Q (.bl (if neg then !b else b)) S := fun h => by
    cases e : inD S x y with
    | none => rw [e] at h; exact h.elim
    | some b => rw [e] at h; exact ⟨b, rfl, h⟩
  cases y with
  | str j => cases x with
    | str i => exact .inl ⟨i, j, rfl, rfl, h⟩
    | _ => exact False.elim h
  | _ => exact .inr (g h)
theorem opd_in (hu : X.A.units + 65 < cLine) : OpD X (compareOp .In) (dIn false) := by
  refine ⟨_, (op_in_str (X := X)).or ((op_inD hu).or (op_inT hu)), fun x y dx dy w Qd Q rs rx ry q k => ?_⟩
  rcases dIn_split q with ⟨i, j, rfl, rfl, q2⟩ | ⟨b, e, q⟩
  · cases rx
    cases ry
    exact .inl ⟨i, j, rfl, rfl, k _ _ w (.refl w) rs (.bl _) q2⟩
  · obtain ⟨p, qs, h1, h2, rfl, ⟨h3, h4⟩ | ⟨h3, h4⟩⟩ := inD_some e
    · exact .inr (.inl ⟨p, qs, toP_ok rs rx h1, toP_ok rs ry h3, h2, h4, k _ _ w (.refl w) rs (.bl _) q⟩)
    · exact .inr (.inr ⟨p, qs, toP_ok rs rx h1, toP_ok rs ry h3, h2, h4, k _ _ w (.refl w) rs (.bl _) q⟩)
theorem opd_notIn (hu : X.A.units + 65 < cLine) : OpD X (compareOp .NotIn) (dIn true) := by
  refine ⟨_, (op_notin_str (X := X)).or ((op_notInD hu).or (op_notInT hu)), fun x y dx dy w Qd Q rs rx ry q k => ?_⟩
  rcases dIn_split q with ⟨i, j, rfl, rfl, q2⟩ | ⟨b, e, q⟩
  · cases rx
    cases ry
    exact .inl ⟨i, j, rfl, rfl, k _ _ w (.refl w) rs (.bl _) q2⟩
  · obtain ⟨p, qs, h1, h2, rfl, ⟨h3, h4⟩ | ⟨h3, h4⟩⟩ := inD_some e
    · exact .inr (.inl ⟨p, qs, toP_ok rs rx h1, toP_ok rs ry h3, h2, h4, k _ _ w (.refl w) rs (.bl _) q⟩)
    · exact .inr (.inr ⟨p, qs, toP_ok rs rx h1, toP_ok rs ry h3, h2, h4, k _ _ w (.refl w) rs (.bl _) q⟩)
/-- is, is not: None, truths -/
def isNonD : D → Bool
  | .non => true
  | _ => false
def dIs (neg : Bool) (x y : D) (S : Sto) (Q : QD) : Prop := match y with
  | .non => Q (.bl (if neg then !isNonD x else isNonD x)) S
  | .bl b => match x with
    | .bl a => Q (.bl (if neg then !(decide (a = b)) else decide (a = b))) S
    | _ => False
  | _ => False
theorem isNon_iff {K : PySem.W.Frag} {mg : Str → Option Value} {H : Hp} {O : Own} {v : V} {d : D} (r : Rep K mg H O v d) : decide (v = .non) = isNonD d := by
  cases r <;> rfl
theorem opd_is : OpD X (compareOp .Is) (dIs false) := by
  refine ⟨_, (op_isN (X := X)).or op_isBl, fun x y dx dy w Qd Q rs rx ry q k => ?_⟩
  cases dy with
  | non => cases ry; exact .inl ⟨rfl, k _ _ w (.refl w) rs (.bl _) (by rw [isNon_iff rx]; exact q)⟩
  | bl b => cases dx with
    | bl a => cases rx; cases ry; exact .inr ⟨a, b, rfl, rfl, k _ _ w (.refl w) rs (.bl _) q⟩
    | _ => exact False.elim q
  | _ => exact False.elim q
theorem opd_isNot : OpD X (compareOp .IsNot) (dIs true) := by
  refine ⟨_, (op_notN (X := X)).or op_notBl, fun x y dx dy w Qd Q rs rx ry q k => ?_⟩
  cases dy with
  | non => cases ry; exact .inl ⟨rfl, k _ _ w (.refl w) rs (.bl _) (by rw [isNon_iff rx]; exact q)⟩
  | bl b => cases dx with
    | bl a => cases rx; cases ry; exact .inr ⟨a, b, rfl, rfl, k _ _ w (.refl w) rs (.bl _) q⟩
    | _ => exact False.elim q
  | _ => exact False.elim q
/-! ### unary minus -/
def tneg (t : TD) : TD := fun σ S Q => t σ S fun x S1 => match x with
  | .int i => Q (.int (-i)) S1
  | _ => False
theorem de_neg {a : Expr} {ta : TD} {pos : Pos} (ha : DE X a ta) : DE X (.UnaryOp .USub a pos) (tneg ta) := by
  obtain ⟨t, p, l⟩ := ha
  refine ⟨_, pe_un un_neg p, fun σ σd w Qd Q rs rl h k => ?_⟩
  refine l σ σd w _ _ rs rl h fun v d w1 k1 rs1 r q => ?_
  cases r with
  | int i => exact ⟨i, rfl, k _ _ w1 k1 rs1 (.int _) q⟩
  | _ => exact False.elim q
/-! ### subscripts -/
def ixD (ds : List D) : Int → Option D
  | .ofNat n => ds[n]?
  | .negSucc n => if n < ds.length then ds[ds.length - 1 - n]? else none
theorem ixD_at {ds : List D} {i : Int} {d : D} (h : ixD ds i = some d) : ∃ j, ixN ds.length i = some j ∧ ds[j]? = some d := by
  cases i with
  | ofNat n =>
    have h' : ds[n]? = some d := h
    have hl : n < ds.length := (List.getElem?_eq_some_iff.mp h').1
    refine ⟨n, ?_, h'⟩
    unfold ixN
    rw [if_pos (by simp), if_pos (by simp; omega)] <;> rfl
  | negSucc n =>
    have h' : (if n < ds.length then ds[ds.length - 1 - n]? else none) = some d := h
    split at h'
    · rename_i hn
      refine ⟨ds.length - 1 - n, ?_, h'⟩
      unfold ixN
      rw [if_neg (by omega), if_pos (by omega)]
      congr 1
      omega
    · cases h'
def dIdx (x y : D) (S : Sto) (Q : QD) : Prop := match y with
  | .int i => seqW S x fun ds => match ixD ds i with
    | some d => Q d S
    | none => False
  | _ => False
/-- a text's sign -/
def dIdxS (x y : D) (S : Sto) (Q : QD) : Prop := ∃ (z : Str) (i : Int) (c : Nat), x = .str z ∧ y = .int i ∧ Sz z.length ∧ atI z.cps.toList i = some c ∧ Q (.str ⟨#[c]⟩) S
theorem de_idx {a b : Expr} {ta tb : TD} {pos : Pos} (ha : DE X a ta) (hb : DE X b tb) (hs : PlainIx b) : DE X (.Subscript a b pos) (tbin dIdx ta tb) := by
  obtain ⟨ta', pa, la⟩ := ha
  obtain ⟨tb', pb, lb⟩ := hb
  refine ⟨_, pe_ix (ix_list.or ix_tup) pa pb hs, bin_ok la lb fun x y dx dy w Qd Q rs rx ry q k => ?_⟩
  cases dy with
  | int i =>
    cases ry
    obtain ⟨ds, e1, q'⟩ := seqW_iff (P := fun ds => match ixD ds i with | some d => Qd d w.S | none => False) q
    · have q'' : match ixD ds i with | some d => Qd d w.S | none => False := q'
      cases e2 : ixD ds i with
      | none => rw [e2] at q''; exact q''.elim
      | some d =>
        rw [e2] at q''
        obtain ⟨p, vs, rfl, r, h⟩ := seqOf_ok rs rx e1
        obtain ⟨j, hj, hd⟩ := ixD_at e2
        obtain ⟨v, hv, rv⟩ := r.at hd
        have hat : atI vs i = some v := by unfold atI; rw [r.len, hj]; exact hv
        rcases h with ⟨h, _⟩ | ⟨h, _⟩
        · exact .inl ⟨p, vs, i, v, rfl, rfl, h, hat, k _ _ w (.refl w) rs rv q''⟩
        · exact .inr ⟨p, vs, i, v, rfl, rfl, h, hat, k _ _ w (.refl w) rs rv q''⟩
  | _ => exact False.elim q
/-! ### slices -/
def cutD (xs : List D) (lo hi : Option Int) : List D := (xs.drop (HT.sIx xs.length 0 lo)).take (HT.sIx xs.length xs.length hi - HT.sIx xs.length 0 lo)
abbrev PD := SD → Sto → (Option Int → Sto → Prop) → Prop
structure DP (X : Cx) (e : Option Expr) (t : PD) : Prop where
  ex : ∃ t', PO X e t' ∧ ∀ σ σd w (Qd : Option Int → Sto → Prop) (Q : Option Int → Hp → Prop), RS X.K X.mg w → RL X.K X.mg w σ σd → t σd w.S Qd → (∀ o w', Keep w w' → RS X.K X.mg w' → Qd o w'.S → Q o w'.H) → t' σ w.H Q
def tno : PD := fun _ S Q => Q none S
def tpart (t : TD) : PD := fun σ S Q => t σ S fun x S1 => match x with
  | .int i => Q (some i) S1
  | _ => False
theorem dp_none : DP X none tno := ⟨_, po_none, fun σ σd w Qd Q rs rl h k => k none w (.refl w) rs h⟩
theorem dp_some {e : Expr} {te : TD} (h : DE X e te) : DP X (some e) (tpart te) := by
  obtain ⟨t, p, l⟩ := h
  refine ⟨_, po_some p, fun σ σd w Qd Q rs rl h k => ?_⟩
  refine l σ σd w _ _ rs rl h fun v d w1 k1 rs1 r q => ?_
  cases r with
  | int i => exact ⟨i, rfl, k _ w1 k1 rs1 q⟩
  | _ => exact False.elim q
def dSl (x : D) (lo hi : Option Int) (S : Sto) (Q : QD) : Prop := match x with
  | .tup ds => Q (.tup (cutD ds lo hi)) S
  | .ctu ds => Q (.ctu (cutD ds lo hi)) S
  | x => match lisOf S x with
    | some ds => Q (.lst (cutD ds lo hi)) S
    | none => False
def tsl (te : TD) (tl th : PD) : TD := fun σ S Q => te σ S fun x S1 => tl σ S1 fun l S2 => th σ S2 fun u S3 => dSl x l u S3 Q
theorem Reps.cut {K : PySem.W.Frag} {mg : Str → Option Value} {H : Hp} {O : Own} {vs : List V} {ds : List D} (r : Reps K mg H O vs ds) (lo hi : Option Int) : Reps K mg H O (cutV vs lo hi) (cutD ds lo hi) := by
  unfold cutV cutD
  rw [r.len]
  exact (r.drop _).take _
theorem cut_whole {ds : List D} {lo hi : Option Int} (h : HT.sIx ds.length 0 lo = 0 ∧ HT.sIx ds.length ds.length hi = ds.length) : cutD ds lo hi = ds := by
  unfold cutD
  rw [h.1, h.2, List.drop_zero, Nat.sub_zero, List.take_length]
theorem de_slice {e : Expr} {te : TD} {lo hi : Option Expr} {tl th : PD} {pos p2 : Pos} (he : DE X e te) (hl : DP X lo tl) (hu : DP X hi th) : DE X (.Subscript e (.Slice lo hi none p2) pos) (tsl te tl th) := by
  obtain ⟨t, p, l⟩ := he
  obtain ⟨t1, p1, l1⟩ := hl
  obtain ⟨t2, p2', l2⟩ := hu
  refine ⟨_, pe_slice (sl_tupA.or sl_list) p p1 p2', fun σ σd w Qd Q rs rl h k => ?_⟩
  refine l σ σd w _ _ rs rl h fun v d w1 k1 rs1 r q => ?_
  refine l1 σ σd w1 _ _ rs1 (rl.keep rs k1) q fun a w2 k2 rs2 q2 => ?_
  refine l2 σ σd w2 _ _ rs2 (rl.keep rs (k1.trans k2)) q2 fun b w3 k3 rs3 q3 => ?_
  have r3 := (r.keep rs1 k2).keep rs2 k3
  have k' := k.keep (k1.trans (k2.trans k3))
  have lcase : (match lisOf w3.S d with | some ds => Qd (.lst (cutD ds a b)) w3.S | none => False) → rSlA X.K v a b w3.H Q ∨ rSlL X.K v a b w3.H Q := fun g => by
    cases e1 : lisOf w3.S d with
    | none => rw [e1] at g; exact g.elim
    | some ds =>
      rw [e1] at g
      obtain ⟨p, vs, rfl, h1, r1⟩ := lisOf_ok rs3 r3 e1
      exact .inr ⟨p, vs, rfl, h1, then_lst rs3 (r1.cut a b) k' g⟩
  cases d with
  | tup ds =>
    cases r3 with
    | tup h1 hl1 hr1 =>
      rename_i p vs
      have r1 : Reps X.K X.mg w3.H w3.O vs ds := ⟨hl1, hr1⟩
      refine .inl ⟨p, vs, rfl, .inl (.inl h1), fun hw => ?_, fun _ => then_tup rs3 (r1.cut a b) k' q3⟩
      rw [hl1] at hw
      have q4 : Qd (.tup (cutD ds a b)) w3.S := q3
      rw [cut_whole hw] at q4
      exact k' _ _ w3 (.refl w3) rs3 (.tup h1 hl1 hr1) q4
  | ctu ds =>
    cases r3 with
    | ctu h1 hl1 hr1 =>
      rename_i p vs
      have r1 : Reps X.K X.mg w3.H w3.O vs ds := ⟨hl1, hr1⟩
      refine .inl ⟨p, vs, rfl, h1, fun hw => ?_, fun _ q' hq' => ?_⟩
      · rw [hl1] at hw
        have q4 : Qd (.ctu (cutD ds a b)) w3.S := q3
        rw [cut_whole hw] at q4
        exact k' _ _ w3 (.refl w3) rs3 (.ctu h1 hl1 hr1) q4
      · obtain ⟨w', e1, e2, k1, rs1, rr⟩ := new_tup rs3 hq' (r1.cut a b)
        rw [← e1]
        refine k' _ _ w' k1 rs1 ?_ (by rw [e2]; exact q3)
        cases rr with
        | tup h3 hl3 hr3 => exact .ctu (.inl (.inl h3)) hl3 hr3
  | _ => exact lcase q3
/-! ### built-in calls -/
def CallD (X : Cx) (f : Value) (rd : List D → Sto → QD → Prop) : Prop := ∃ r, CallR X f r ∧
  ∀ xs ds w Qd Q, RS X.K X.mg w → Reps X.K X.mg w.H w.O xs ds → rd ds w.S Qd → ThenE X w Qd Q → r xs w.H Q
theorem CallD.imp {f : Value} {r1 r2 : List D → Sto → QD → Prop} (h1 : CallD X f r1) (h : ∀ ds S Q, r2 ds S Q → r1 ds S Q) : CallD X f r2 := by
  obtain ⟨r, o, l⟩ := h1
  exact ⟨r, o, fun xs ds w Qd Q rs rx h2 k => l xs ds w Qd Q rs rx (h _ _ _ h2) k⟩
theorem CallD.or {f : Value} {r1 r2 : List D → Sto → QD → Prop} (h1 : CallD X f r1) (h2 : CallD X f r2) : CallD X f (fun ds S Q => r1 ds S Q ∨ r2 ds S Q) := by
  obtain ⟨r, o, l⟩ := h1
  obtain ⟨r', o', l'⟩ := h2
  refine ⟨_, CallR.or o o', fun xs ds w Qd Q rs rx h k => ?_⟩
  rcases h with h | h
  · exact .inl (l xs ds w Qd Q rs rx h k)
  · exact .inr (l' xs ds w Qd Q rs rx h k)
def tcb (rd : List D → Sto → QD → Prop) (t : AD) : TD := fun σ S Q => t σ S fun ds S1 => rd ds S1 Q
theorem cb_ok {r : List V → Hp → VK → Prop} {rd : List D → Sto → QD → Prop} {t : AD} {t' : TA} (l : ∀ σ σd w Qd Q, RS X.K X.mg w → RL X.K X.mg w σ σd → t σd w.S Qd → ThenA X w Qd Q → t' σ w.H Q)
    (lr : ∀ xs ds w Qd Q, RS X.K X.mg w → Reps X.K X.mg w.H w.O xs ds → rd ds w.S Qd → ThenE X w Qd Q → r xs w.H Q) (σ σd w Qd Q) (rs : RS X.K X.mg w) (rl : RL X.K X.mg w σ σd) (h : tcb rd t σd w.S Qd) (k : ThenE X w Qd Q) : L2.tCB r t' σ w.H Q := by
  refine l σ σd w _ _ rs rl h fun vs ds w1 k1 rs1 r1 q => ?_
  exact lr vs ds w1 _ _ rs1 r1 q (k.keep k1)
variable {x : Str} {p pos : Pos} {e : Expr} {es : List Expr} {t : AD} {id T : String} {rd : List D → Sto → QD → Prop}
theorem de_callB (hc : CallD X (.builtin id) rd) (hg : Gl X x) (hm : X.mg x = none) (hv : bootBuiltins x = some (.builtin id)) (ha : DA X (e :: es) t) (hn : x ≠ "__name__") (hdb : (x == ("__debug__" : Str)) = false)
    (he : starEach (e :: es) X.env = (false, eval e X.env) :: starEach es X.env) (hpl : (backTo pos (starEach es X.env)).any (·.1) = false) : DE X (.Call (.Name x p) (e :: es) [] pos) (tcb rd t) := by
  obtain ⟨r, o, lr⟩ := hc
  obtain ⟨t', p', l⟩ := ha
  exact ⟨_, pe_callB o hg hm hv p' hn hdb he hpl, cb_ok l lr⟩
theorem de_callTy (hc : CallD X (.type T) rd) (hg : Gl X x) (hm : X.mg x = none) (hv : bootBuiltins x = some (.type T)) (ha : DA X (e :: es) t) (hn : x ≠ "__name__") (hdb : (x == ("__debug__" : Str)) = false)
    (he : starEach (e :: es) X.env = (false, eval e X.env) :: starEach es X.env) (hpl : (backTo pos (starEach es X.env)).any (·.1) = false) : DE X (.Call (.Name x p) (e :: es) [] pos) (tcb rd t) := by
  obtain ⟨r, o, lr⟩ := hc
  obtain ⟨t', p', l⟩ := ha
  exact ⟨_, pe_callTy o hg hm hv p' hn hdb he hpl, cb_ok l lr⟩
theorem de_callBfun (hc : CallD X (.builtin id) rd) (hg : Gl X x) (hm : X.mg x = some (.builtin id)) (ha : DA X (e :: es) t) (hdb : (x == ("__debug__" : Str)) = false)
    (he : starEach (e :: es) X.env = (false, eval e X.env) :: starEach es X.env) (hpl : (backTo pos (starEach es X.env)).any (·.1) = false) : DE X (.Call (.Name x p) (e :: es) [] pos) (tcb rd t) := by
  obtain ⟨r, o, lr⟩ := hc
  obtain ⟨t', p', l⟩ := ha
  exact ⟨_, pe_callBfun o hg hm p' hdb he hpl, cb_ok l lr⟩
def dAbs : List D → Sto → QD → Prop
  | [.int i], S, Q => Q (.int (i.natAbs : Nat)) S
  | _, _, _ => False
theorem reps1 {K : PySem.W.Frag} {mg : Str → Option Value} {H : Hp} {O : Own} {vs : List V} {d : D} (r : Reps K mg H O vs [d]) : ∃ v, vs = [v] ∧ Rep K mg H O v d := by
  obtain ⟨v, u, rfl, r1, r2⟩ := r.cons_iff
  rw [r2.nil_iff]
  exact ⟨v, rfl, r1⟩
theorem reps2 {K : PySem.W.Frag} {mg : Str → Option Value} {H : Hp} {O : Own} {vs : List V} {d e : D} (r : Reps K mg H O vs [d, e]) : ∃ v u, vs = [v, u] ∧ Rep K mg H O v d ∧ Rep K mg H O u e := by
  obtain ⟨v, u, rfl, r1, r2⟩ := r.cons_iff
  obtain ⟨u', rfl, r3⟩ := reps1 r2
  exact ⟨v, u', rfl, r1, r3⟩
theorem cd_abs : CallD X (.builtin "abs") dAbs := by
  refine ⟨_, call_abs, fun xs ds w Qd Q rs rx q k => ?_⟩
  unfold dAbs at q
  split at q
  · obtain ⟨v, rfl, r⟩ := reps1 rx
    cases r
    refine ⟨_, rfl, k _ _ w (.refl w) rs (.int _) ?_⟩
    have e : ∀ i : Int, (if i < 0 then -i else i) = ((i.natAbs : Nat) : Int) := fun i => by split <;> omega
    rw [e]; exact q
  · exact q.elim
def dInt : List D → Sto → QD → Prop
  | [.int i], S, Q => Q (.int i) S
  | [.bl b], S, Q => Q (.int (if b then 1 else 0)) S
  | _, _, _ => False
theorem cd_int : CallD X (.type "int") dInt := by
  refine ⟨_, call_int1, fun xs ds w Qd Q rs rx q k => ?_⟩
  unfold dInt at q
  split at q
  · obtain ⟨v, rfl, r⟩ := reps1 rx
    cases r
    exact .inl ⟨_, rfl, k _ _ w (.refl w) rs (.int _) q⟩
  · obtain ⟨v, rfl, r⟩ := reps1 rx
    cases r
    exact .inr ⟨_, rfl, k _ _ w (.refl w) rs (.int _) q⟩
  · exact q.elim
def dLenL : List D → Sto → QD → Prop
  | [.str z], S, Q => Sz z.length ∧ Q (.int z.length) S
  | [x], S, Q => seqW S x fun ds => Q (.int ds.length) S
  | _, _, _ => False
theorem cd_lenL : CallD X (.builtin "len") dLenL := by
  refine ⟨_, call_len, fun xs ds w Qd Q rs rx q k => ?_⟩
  cases ds with
  | nil => exact False.elim q
  | cons d r => cases r with
    | cons _ _ => cases d <;> exact False.elim q
    | nil =>
      obtain ⟨v, rfl, r⟩ := reps1 rx
      have lcase : (seqW w.S d fun ds => Qd (.int ds.length) w.S) → ∃ x n, [v] = [x] ∧ LenV X.K x w.H n ∧ Q (.int n) w.H := fun g => by
        · obtain ⟨es, e1, g⟩ := seqW_iff g
          obtain ⟨p, vs, rfl, r1, h⟩ := seqOf_ok rs r e1
          refine ⟨_, es.length, rfl, ?_, k _ _ w (.refl w) rs (.int _) g⟩
          rcases h with ⟨h, _⟩ | ⟨h, _⟩
          · exact .inl ⟨vs, h, r1.len.symm⟩
          · exact .inr ⟨vs, h, r1.len.symm⟩
      cases d with
      | str z =>
        cases r
        exact ⟨_, z.length, rfl, ⟨q.1, rfl⟩, k _ _ w (.refl w) rs (.int _) q.2⟩
      | _ => exact lcase q
/-- what an owned dict holds -/
@[irreducible] def mtW (S : Sto) (a : Addr) (P : List (List Int × D) → Prop) : Prop := ∃ kvs, S a = some (.mt kvs) ∧ P kvs
theorem mtW_of {S : Sto} {a : Addr} {kvs : List (List Int × D)} {P : List (List Int × D) → Prop} (h : S a = some (.mt kvs)) (p : P kvs) : mtW S a P := by unfold mtW; exact ⟨kvs, h, p⟩
theorem mtW_iff {S : Sto} {a : Addr} {P : List (List Int × D) → Prop} (h : mtW S a P) : ∃ kvs, S a = some (.mt kvs) ∧ P kvs := by unfold mtW at h; exact h
@[irreducible] def mkW (S : Sto) (a : Addr) (P : List (Str × D) → Prop) : Prop := ∃ kvs, S a = some (.mk kvs) ∧ P kvs
theorem mkW_of {S : Sto} {a : Addr} {kvs : List (Str × D)} {P : List (Str × D) → Prop} (h : S a = some (.mk kvs)) (p : P kvs) : mkW S a P := by unfold mkW; exact ⟨kvs, h, p⟩
theorem mkW_iff {S : Sto} {a : Addr} {P : List (Str × D) → Prop} (h : mkW S a P) : ∃ kvs, S a = some (.mk kvs) ∧ P kvs := by unfold mkW at h; exact h
theorem len_keys {α β γ δ : Type} {xs : List (α × β)} {ys : List (γ × δ)} {f : γ × δ → α} (h : xs.map (·.1) = ys.map f) : xs.length = ys.length := by
  have := congrArg List.length h
  rw [List.length_map, List.length_map] at this
  exact this
theorem cd_lenT : CallD X (.builtin "len") (fun ds S Q => ∃ a, ds = [.ref a] ∧ mtW S a fun kvs => Q (.int kvs.length) S) := by
  refine ⟨_, call_len_dT, fun xs ds w Qd Q rs rx q k => ?_⟩
  obtain ⟨a, rfl, q⟩ := q
  obtain ⟨kvs, e, q⟩ := mtW_iff q
  obtain ⟨v, rfl, r⟩ := reps1 rx
  cases r
  obtain ⟨_, us, e2, hk, _⟩ := rs.mt e
  exact ⟨a, us, rfl, e2, k _ _ w (.refl w) rs (.int _) (by rw [len_keys hk]; exact q)⟩
theorem cd_lenK : CallD X (.builtin "len") (fun ds S Q => ∃ a, ds = [.ref a] ∧ mkW S a fun kvs => Q (.int kvs.length) S) := by
  refine ⟨_, call_lenD, fun xs ds w Qd Q rs rx q k => ?_⟩
  obtain ⟨a, rfl, q⟩ := q
  obtain ⟨kvs, e, q⟩ := mkW_iff q
  obtain ⟨v, rfl, r⟩ := reps1 rx
  cases r
  obtain ⟨_, us, e2, hk, _⟩ := rs.mk e
  exact ⟨a, us, rfl, e2, k _ _ w (.refl w) rs (.int _) (by rw [len_keys hk]; exact q)⟩
def dLen (ds : List D) (S : Sto) (Q : QD) : Prop := match ds with
  | [.ref a] => refW S a (fun ds => Q (.int ds.length) S) ∨ mtW S a (fun kvs => Q (.int kvs.length) S) ∨ mkW S a (fun kvs => Q (.int kvs.length) S)
  | ds => dLenL ds S Q
theorem cd_len : CallD X (.builtin "len") dLen := (cd_lenL.or (cd_lenT.or cd_lenK)).imp fun ds S Q h => by
  unfold dLen at h
  split at h
  · rename_i a
    rcases h with h | h | h
    · exact .inl h
    · exact .inr (.inl ⟨a, rfl, h⟩)
    · exact .inr (.inr ⟨a, rfl, h⟩)
  · exact .inl h
def intsD : List D → Option (List Int)
  | [] => some []
  | .int i :: r => match intsD r with
    | some is => some (i :: is)
    | none => none
  | _ :: _ => none
def blsD : List D → Option (List Bool)
  | [] => some []
  | .bl i :: r => match blsD r with
    | some is => some (i :: is)
    | none => none
  | _ :: _ => none
theorem intsD_ok : ∀ {ds : List D} {is : List Int}, intsD ds = some is → ds = is.map D.int
  | [], is, h => by cases h; rfl
  | .int i :: r, is, h => by
    have h' : (match intsD r with | some is => some (i :: is) | none => none) = some is := h
    cases e : intsD r with
    | none => rw [e] at h'; cases h'
    | some js => rw [e] at h'; cases h'; rw [intsD_ok e]; rfl
  | .non :: _, _, h | .bl _ :: _, _, h | .str _ :: _, _, h | .tup _ :: _, _, h | .ctu _ :: _, _, h | .lst _ :: _, _, h | .scr _ :: _, _, h | .ref _ :: _, _, h | .fn _ :: _, _, h => by cases h
theorem blsD_ok : ∀ {ds : List D} {is : List Bool}, blsD ds = some is → ds = is.map D.bl
  | [], is, h => by cases h; rfl
  | .bl i :: r, is, h => by
    have h' : (match blsD r with | some is => some (i :: is) | none => none) = some is := h
    cases e : blsD r with
    | none => rw [e] at h'; cases h'
    | some js => rw [e] at h'; cases h'; rw [blsD_ok e]; rfl
  | .non :: _, _, h | .int _ :: _, _, h | .str _ :: _, _, h | .tup _ :: _, _, h | .ctu _ :: _, _, h | .lst _ :: _, _, h | .scr _ :: _, _, h | .ref _ :: _, _, h | .fn _ :: _, _, h => by cases h
theorem intsD_map (is : List Int) : intsD (is.map D.int) = some is := by
  induction is with
  | nil => rfl
  | cons i r ih => show (match intsD (r.map D.int) with | some is => some (i :: is) | none => none) = _; rw [ih]
theorem blsD_map (is : List Bool) : blsD (is.map D.bl) = some is := by
  induction is with
  | nil => rfl
  | cons i r ih => show (match blsD (r.map D.bl) with | some is => some (i :: is) | none => none) = _; rw [ih]
theorem reps_ints {K : PySem.W.Frag} {mg : Str → Option Value} {H : Hp} {O : Own} : ∀ {is : List Int} {vs : List V}, Reps K mg H O vs (is.map D.int) → vs = is.map V.int
  | [], vs, r => r.nil_iff
  | i :: is, vs, r => by
    obtain ⟨v, u, rfl, r1, r2⟩ := r.cons_iff
    cases r1
    rw [reps_ints r2]; rfl
theorem reps_bls {K : PySem.W.Frag} {mg : Str → Option Value} {H : Hp} {O : Own} : ∀ {is : List Bool} {vs : List V}, Reps K mg H O vs (is.map D.bl) → vs = is.map V.bl
  | [], vs, r => r.nil_iff
  | i :: is, vs, r => by
    obtain ⟨v, u, rfl, r1, r2⟩ := r.cons_iff
    cases r1
    rw [reps_bls r2]; rfl
def dSum : List D → Sto → QD → Prop
  | [x], S, Q => match lisOf S x with
    | some ds => match intsD ds with
      | some is => Q (.int is.sum) S
      | none => False
    | none => False
  | _, _, _ => False
theorem cd_sum (hc : X.calm = true) : CallD X (.builtin "sum") dSum := by
  refine ⟨_, cr_sum hc, fun xs ds w Qd Q rs rx q k => ?_⟩
  unfold dSum at q
  split at q
  · rename_i d S Q'
    obtain ⟨v, rfl, r⟩ := reps1 rx
    split at q
    · rename_i es e1
      split at q
      · rename_i is e2
        obtain ⟨p, vs, rfl, h, r1⟩ := lisOf_ok rs r e1
        have e3 := intsD_ok e2
        subst e3
        have e4 := reps_ints r1
        subst e4
        exact ⟨p, is, rfl, h, k _ _ w (.refl w) rs (.int _) q⟩
      · exact q.elim
    · exact q.elim
  · exact q.elim
def dTuple : List D → Sto → QD → Prop
  | [.ctu ds], S, Q => Q (.ctu ds) S
  | [x], S, Q => seqW S x fun ds => Q (.tup ds) S
  | _, _, _ => False
theorem cd_tuple : CallD X (.type "tuple") dTuple := by
  refine ⟨_, call_tuple_of, fun xs ds w Qd Q rs rx q k => ?_⟩
  unfold dTuple at q
  split at q
  · obtain ⟨v, rfl, r⟩ := reps1 rx
    cases r with
    | ctu h hl hr => exact ⟨_, _, rfl, .inr ⟨h, k _ _ w (.refl w) rs (.ctu h hl hr) q⟩⟩
  · rename_i d S Q' hne
    obtain ⟨v, rfl, r⟩ := reps1 rx
    · obtain ⟨es, e1, q⟩ := seqW_iff q
      obtain ⟨p, vs, rfl, r1, h⟩ := seqOf_ok rs r e1
      rcases h with ⟨h, _⟩ | ⟨h, e2 | e2⟩
      · exact ⟨p, vs, rfl, .inl ⟨h, then_tup rs r1 k q⟩⟩
      · subst e2
        exact ⟨p, vs, rfl, .inr ⟨h, k _ _ w (.refl w) rs r q⟩⟩
      · exact (hne _ e2).elim
  · exact q.elim
def dList : List D → Sto → QD → Prop
  | [x], S, Q => seqW S x fun ds => Q (.lst ds) S
  | _, _, _ => False
def dListO : List D → Sto → QD → Prop
  | [x], S, Q => seqW S x fun ds => ∀ a, S a = none → Q (.ref a) (ups S a (.ml ds))
  | _, _, _ => False
theorem cd_list : CallD X (.type "list") dList := by
  refine ⟨_, call_list_of, fun xs ds w Qd Q rs rx q k => ?_⟩
  unfold dList at q
  split at q
  · rename_i d S Q'
    obtain ⟨v, rfl, r⟩ := reps1 rx
    · obtain ⟨es, e1, q⟩ := seqW_iff q
      obtain ⟨p, vs, rfl, r1, h⟩ := seqOf_ok rs r e1
      exact ⟨p, vs, rfl, h.imp (·.1) (·.1), then_lst rs r1 k q⟩
  · exact q.elim
theorem cd_listO : CallD X (.type "list") dListO := by
  refine ⟨_, call_list_of, fun xs ds w Qd Q rs rx q k => ?_⟩
  unfold dListO at q
  split at q
  · rename_i d S Q'
    obtain ⟨v, rfl, r⟩ := reps1 rx
    · obtain ⟨es, e1, q⟩ := seqW_iff q
      obtain ⟨p, vs, rfl, r1, h⟩ := seqOf_ok rs r e1
      exact ⟨p, vs, rfl, h.imp (·.1) (·.1), then_own rs r1 k q⟩
  · exact q.elim
def dMin : List D → Sto → QD → Prop
  | [.int i, .int j], S, Q => Q (.int (min i j)) S
  | _, _, _ => False
def dMax : List D → Sto → QD → Prop
  | [.int i, .int j], S, Q => Q (.int (max i j)) S
  | _, _, _ => False
theorem cd_min (hc : X.calm = true) : CallD X (.builtin "min") dMin := by
  refine ⟨_, call_min2 hc, fun xs ds w Qd Q rs rx q k => ?_⟩
  unfold dMin at q
  split at q
  · obtain ⟨v, u, rfl, r1, r2⟩ := reps2 rx
    cases r1
    cases r2
    refine ⟨_, _, rfl, k _ _ w (.refl w) rs (.int _) ?_⟩
    have e : ∀ i j : Int, (if j < i then j else i) = min i j := fun i j => by split <;> omega
    rw [e]; exact q
  · exact q.elim
theorem cd_max (hc : X.calm = true) : CallD X (.builtin "max") dMax := by
  refine ⟨_, call_max2 hc, fun xs ds w Qd Q rs rx q k => ?_⟩
  unfold dMax at q
  split at q
  · obtain ⟨v, u, rfl, r1, r2⟩ := reps2 rx
    cases r1
    cases r2
    refine ⟨_, _, rfl, k _ _ w (.refl w) rs (.int _) ?_⟩
    have e : ∀ i j : Int, (if j > i then j else i) = max i j := fun i j => by split <;> omega
    rw [e]; exact q
  · exact q.elim
def dDivmod : List D → Sto → QD → Prop
  | [.int i, .int j], S, Q => CDiv i j ∧ Q (.tup [.int (i / j), .int (i % j)]) S
  | _, _, _ => False
theorem cd_divmod : CallD X (.builtin "divmod") dDivmod := by
  refine ⟨_, call_divmod, fun xs ds w Qd Q rs rx q k => ?_⟩
  unfold dDivmod at q
  split at q
  · obtain ⟨v, u, rfl, r1, r2⟩ := reps2 rx
    cases r1
    cases r2
    exact ⟨_, _, rfl, q.1, then_tup rs (.cons (.int _) (.cons (.int _) .nil)) k q.2⟩
  · exact q.elim
def dGcd : List D → Sto → QD → Prop
  | [.int i, .int j], S, Q => Q (.int ((Nat.gcd i.natAbs j.natAbs : Nat) : Int)) S
  | _, _, _ => False
theorem cd_gcd : CallD X (.builtin "math.gcd") dGcd := by
  refine ⟨_, cr_gcd, fun xs ds w Qd Q rs rx q k => ?_⟩
  unfold dGcd at q
  split at q
  · obtain ⟨v, u, rfl, r1, r2⟩ := reps2 rx
    cases r1
    cases r2
    exact ⟨_, _, rfl, k _ _ w (.refl w) rs (.int _) q⟩
  · exact q.elim
/-! ### isinstance -/
inductive Ty where
  | none | bool | int | str | tuple | list | dict
  deriving DecidableEq
def Ty.name : Ty → String
  | .none => "NoneType" | .bool => "bool" | .int => "int" | .str => "str" | .tuple => "tuple" | .list => "list" | .dict => "dict"
def Ty.isa : Ty → Ty → Bool
  | .bool, .int => true
  | a, b => decide (a = b)
theorem Ty.kit (a b : Ty) : kitB a.name b.name = some (a.isa b) := by
  cases a <;> cases b <;> decide +kernel
def tyD (S : Sto) : D → Option Ty
  | .non => some .none | .bl _ => some .bool | .int _ => some .int | .str _ => some .str | .tup _ => some .tuple | .ctu _ => some .tuple | .lst _ => some .list | .scr _ => none
  | .ref a => match S a with
    | some (.ml _) => some .list
    | some (.mt _) => some .dict
    | some (.mk _) => some .dict
    | none => none
  | .fn _ => none
theorem tyD_ok {K : PySem.W.Frag} {mg : Str → Option Value} {w : W3} (rs : RS K mg w) {v : V} {d : D} (r : Rep K mg w.H w.O v d) {t : Ty} (h : tyD w.S d = some t) : TyX K w.H v (.type t.name) := by
  cases r with
  | non => cases h; exact .base .non
  | bl b => cases h; exact .base (.bl b)
  | int i => cases h; exact .base (.int i)
  | str x => cases h; exact .base (.str x)
  | tup h1 hl hr => cases h; exact .base (.tup h1)
  | ctu h1 hl hr =>
    cases h
    rcases h1 with (h1 | ⟨o, h1⟩) | ⟨o, its, n, h1, h2, _⟩
    · exact .base (.tup h1)
    · exact .fTuple h1
    · exact .kTuple h1 h2
  | scr h1 hl hr => cases h
  | lst h1 h2 hl hr => cases h; exact .base (.lst h1)
  | ref a =>
    have h' : (match w.S a with | some (.ml _) => some Ty.list | some (.mt _) => some Ty.dict | some (.mk _) => some Ty.dict | none => none) = some t := h
    cases e : w.S a with
    | none => rw [e] at h'; cases h'
    | some m =>
      cases m with
      | ml es =>
        rw [e] at h'
        cases h'
        obtain ⟨_, vs, e2, r2⟩ := rs.ml e
        exact .base (.lst e2)
      | mt es =>
        rw [e] at h'
        cases h'
        obtain ⟨_, vs, e2, r2⟩ := rs.mt e
        exact .base (.dT e2)
      | mk es =>
        rw [e] at h'
        cases h'
        obtain ⟨_, vs, e2, r2⟩ := rs.mk e
        exact .base (.dK e2)
  | fn h1 => cases h
def dIsi (T : Ty) (x : D) (S : Sto) (Q : QD) : Prop := match tyD S x with
  | some t => Q (.bl (t.isa T)) S
  | none => False
def tisi (T : Ty) (t : TD) : TD := fun σ S Q => t σ S fun x S1 => dIsi T x S1 Q
theorem de_isi {ti : Ty} {a : Expr} {ta : TD} {n : Str} {pn p2 : Pos} (hg : Gl X "isinstance") (hm : X.mg "isinstance" = Option.none) (hn : bootBuiltins n = some (.type ti.name)) (hgn : Gl X n) (hmn : X.mg n = Option.none) (hnn : n ≠ "__name__") (hnd : (n == ("__debug__" : Str)) = false)
    (ha : DE X a ta) (he : starEach (a :: [.Name n pn]) X.env = (false, eval a X.env) :: starEach [.Name n pn] X.env) (he2 : starEach [.Name n pn] X.env = (false, eval (.Name n pn) X.env) :: starEach [] X.env) (hpl : (backTo pos (starEach [.Name n pn] X.env)).any (·.1) = false) :
    DE X (.Call (.Name "isinstance" p) [a, .Name n pn] [] pos) (tisi ti ta) := by
  obtain ⟨t, pa, l⟩ := ha
  have pn' : PE X (.Name n pn) (L2.tC (.ty ti.name)) := pe_bltn hgn hmn hn rfl hnn hnd
  refine ⟨_, pe_callB call_isi hg hm PyProof.Rows.boot_isinstance (pa_cons pa (pa_cons pn' pa_nil he2) he) (by decide) (by decide) he hpl, fun σ σd w Qd Q rs rl h k => ?_⟩
  refine l σ σd w _ _ rs rl h fun v d w1 k1 rs1 r q => ?_
  show rIsi X.K [v, .ty ti.name] w1.H Q
  unfold dIsi at q
  cases e : tyD w1.S d with
  | none => rw [e] at q; exact q.elim
  | some t' =>
    rw [e] at q
    exact ⟨v, _, _, _, t'.isa ti, rfl, .ty _, tyD_ok rs1 r e, kit_ty (Ty.kit t' ti), k _ _ w1 k1 rs1 (.bl _) q⟩
end
end PyD

set_option Elab.async false
set_option linter.all false
set_option maxRecDepth 100000
set_option maxHeartbeats 2000000
/-! PyDD: methods of lists, targets, statements, loops, comprehensions, calls of defs over plain data. -/
namespace PyD
open PySem PySem.Spec PyProof.Rows L2

/-! ### the one reading for all contexts -/
def liftE (K : PySem.W.Frag) (mg : Str → Option Value) (t : TD) : TE := fun σ H Q => ∃ σd w Qd, w.H = H ∧ RS K mg w ∧ RL K mg w σ σd ∧ t σd w.S Qd ∧ ∀ v d w', Keep w w' → RS K mg w' → Rep K mg w'.H w'.O v d → Qd d w'.S → Q v w'.H
def liftT (K : PySem.W.Frag) (mg : Str → Option Value) (t : BD) : TT := fun σ H Q => ∃ (σd : SD) (w : W3) (Qd : Bool → Sto → Prop), w.H = H ∧ RS K mg w ∧ RL K mg w σ σd ∧ t σd w.S Qd ∧ ∀ b w', Keep w w' → RS K mg w' → Qd b w'.S → Q b w'.H
theorem DE.pe {X : Cx} {e : Expr} {t : TD} (h : DE X e t) : PE X e (liftE X.K X.mg t) := by
  obtain ⟨t', p, l⟩ := h
  refine ⟨fun pins s σ H Q I hw => ?_⟩
  obtain ⟨σd, w, Qd, rfl, rs, rl, h, k⟩ := hw
  exact p.run pins s σ w.H Q I (l σ σd w Qd Q rs rl h k)
theorem DT.pt {X : Cx} {e : Expr} {t : BD} (h : DT X e t) : PT X e (liftT X.K X.mg t) := by
  obtain ⟨t', p, l⟩ := h
  refine ⟨fun pins s σ H Q I hw => ?_⟩
  obtain ⟨σd, w, Qd, rfl, rs, rl, h, k⟩ := hw
  exact p.run pins s σ w.H Q I (l σ σd w Qd Q rs rl h k)

section
variable {X : Cx}
/-! ### methods of lists -/
def MethD (X : Cx) (id : String) (rd : D → List D → Sto → QD → Prop) : Prop := ∃ r, MtR X id r ∧
  ∀ x xs dx ds w Qd Q, RS X.K X.mg w → Rep X.K X.mg w.H w.O x dx → Reps X.K X.mg w.H w.O xs ds → rd dx ds w.S Qd → ThenE X w Qd Q → r x xs w.H Q
def tmeth (rd : D → List D → Sto → QD → Prop) (to : TD) (t : AD) : TD := fun σ S Q => to σ S fun x S1 => match x with
  | .ref a => refW S1 a fun _ => t σ S1 fun ds S2 => rd (.ref a) ds S2 Q
  | _ => False
theorem de_meth {o e : Expr} {es : List Expr} {to : TD} {t : AD} {name : Str} {apos cpos : Pos} {id : String} {rd : D → List D → Sto → QD → Prop} (pa : PlainAttrs "list") (slot : Slot "list" name id) (hty : typeOf (.builtin id) = pure (.type "method_descriptor")) (hm : MethD X id rd) (ho : DE X o to) (ha : DA X (e :: es) t)
    (hbase : attributeBase o name X.env (eval o X.env) = eval o X.env)
    (hfew : ((backTo cpos (starEach (e :: es) X.env)).all (fun x => !x.1) && (backToKw cpos (keywordEach [] X.env)).all (fun x => x.1.isSome)
      && decide ((e :: es).length + ([] : List Keyword).length + (if ([] : List Keyword).isEmpty then 0 else 1) < 30)) = true)
    (hline : (apos.endLine == cpos.line) = true) (hs : starEach (e :: es) X.env = (false, eval e X.env) :: starEach es X.env) (hplain : (backTo cpos (starEach es X.env)).any (·.1) = false) :
    DE X (.Call (.Attribute o name apos) (e :: es) [] cpos) (tmeth rd to t) := by
  obtain ⟨to', po, lo⟩ := ho
  obtain ⟨t', p, l⟩ := ha
  obtain ⟨r, hr, lr⟩ := hm
  refine ⟨_, pe_bm pa slot hty hr po p hbase hfew hline hs hplain, fun σ σd w Qd Q rs rl h k => ?_⟩
  refine lo σ σd w _ _ rs rl h fun v d w1 k1 rs1 r1 q => ?_
  cases d with
  | ref b =>
    obtain ⟨es', e1, q⟩ := refW_iff q
    obtain ⟨a, vs, rfl, hq, _⟩ := lisOf_ok rs1 r1 (ds := es') (by show (match w1.S b with | some (.ml ds) => some ds | _ => none) = _; rw [e1])
    refine ⟨.inl ⟨rfl, vs, hq⟩, ?_⟩
    refine l σ σd w1 _ _ rs1 (rl.keep rs k1) q fun us ds w2 k2 rs2 r2 q2 => ?_
    exact lr _ us _ ds w2 _ _ rs2 (r1.keep rs1 k2) r2 q2 (k.keep (k1.trans k2))
  | _ => exact False.elim q
def dAppend (x : D) (ds : List D) (S : Sto) (Q : QD) : Prop := match x with
  | .ref a => refW S a fun xs => match ds with
    | [y] => xs.length < sizeLine ∧ Q .non (ups S a (.ml (xs ++ [y])))
    | _ => False
  | _ => False
theorem then_put {w : W3} {a : Addr} {ds : List D} {m : MO} {vs : List V} {v : V} {d : D} {Qd : QD} {Q : VK} (rs : RS X.K X.mg w) (hs : w.S a = some m) (r : Reps X.K X.mg w.H w.O vs ds) (rv : Rep X.K X.mg w.H w.O v d) (k : ThenE X w Qd Q) (q : Qd d (ups w.S a (.ml ds))) : Q v (upd w.H a (.lst vs)) := by
  obtain ⟨w', e1, e2, k1, rs1⟩ := own_put rs hs (.ml r)
  rw [← e1]
  exact k _ _ w' k1 rs1 (rv.keep rs k1) (by rw [e2]; exact q)
theorem md_append : MethD X "list.append" dAppend := by
  refine ⟨_, mt_append, fun x xs dx ds w Qd Q rs rx rxs q k => ?_⟩
  cases rx with
  | ref a =>
    obtain ⟨es, e, q⟩ := refW_iff q
    · · split at q
        · rename_i y
          obtain ⟨_, vs, e2, r2⟩ := rs.ml e
          obtain ⟨u, rfl, ru⟩ := reps1 rxs
          exact ⟨a, vs, u, rfl, rfl, e2, by rw [r2.len]; exact q.1, then_put rs e (r2.append (.cons ru .nil)) .non k q.2⟩
        · exact q.elim
  | _ => exact False.elim q
theorem Reps.erase {K : PySem.W.Frag} {mg : Str → Option Value} {H : Hp} {O : Own} {vs : List V} {ds : List D} (r : Reps K mg H O vs ds) (j : Nat) : Reps K mg H O (vs.eraseIdx j) (ds.eraseIdx j) := by
  rw [List.eraseIdx_eq_take_drop_succ, List.eraseIdx_eq_take_drop_succ]
  exact (r.take j).append (r.drop (j + 1))
def dPop (x : D) (ds : List D) (S : Sto) (Q : QD) : Prop := match x with
  | .ref a => refW S a fun xs => match ds with
    | [.int i] => -(2 ^ 63) ≤ i ∧ i < 2 ^ 63 ∧ match ixN xs.length i with
      | some j => match xs[j]? with
        | some d => Q d (ups S a (.ml (xs.eraseIdx j)))
        | none => False
      | none => False
    | _ => False
  | _ => False
theorem md_pop : MethD X "list.pop" dPop := by
  refine ⟨_, mt_popAt, fun x xs dx ds w Qd Q rs rx rxs q k => ?_⟩
  cases rx with
  | ref a =>
    obtain ⟨es, e, q⟩ := refW_iff q
    · · split at q
        · rename_i i _
          obtain ⟨h1, h2, q⟩ := q
          split at q
          · rename_i j ej
            split at q
            · rename_i d ed
              obtain ⟨_, vs, e2, r2⟩ := rs.ml e
              obtain ⟨u, rfl, ru⟩ := reps1 rxs
              cases ru
              obtain ⟨v, hv, rv⟩ := r2.at ed
              exact ⟨a, vs, i, j, v, rfl, rfl, e2, h1, h2, by rw [r2.len]; exact (ixN_seq ej).1, hv, then_put rs e (r2.erase j) rv k q⟩
            · exact q.elim
          · exact q.elim
        · exact q.elim
  | _ => exact False.elim q
/-! ### targets -/
abbrev GD := D → SD → Sto → (SD → Sto → Prop) → Prop
abbrev GsD := List D → SD → Sto → (SD → Sto → Prop) → Prop
/-- but for the slots is, all is as it was -/
def Agr (is : List Nat) (σ σ' : L2.St) : Prop := σ'.length = σ.length ∧ ∀ j, j ∉ is → σ'[j]? = σ[j]?
theorem Agr.refl {is : List Nat} (σ : L2.St) : Agr is σ σ := ⟨rfl, fun _ _ => rfl⟩
theorem Agr.trans {is js : List Nat} {σ σ' σ'' : L2.St} (a : Agr is σ σ') (b : Agr js σ' σ'') : Agr (is ++ js) σ σ'' :=
  ⟨b.1.trans a.1, fun j h => (b.2 j fun z => h (List.mem_append_right _ z)).trans (a.2 j fun z => h (List.mem_append_left _ z))⟩
def ThenG (K : PySem.W.Frag) (mg : Str → Option Value) (is : List Nat) (σ : L2.St) (w : W3) (Qd : SD → Sto → Prop) (Q : L2.St → Hp → Prop) : Prop := ∀ σ' σd' w', Keep w w' → RS K mg w' → RL K mg w' σ' σd' → Agr is σ σ' → Qd σd' w'.S → Q σ' w'.H
structure DG (X : Cx) (tg : Expr) (is : List Nat) (t : GD) : Prop where
  ex : ∃ t', PG X tg t' ∧ ∀ σ σd v d w Qd Q, RS X.K X.mg w → RL X.K X.mg w σ σd → Rep X.K X.mg w.H w.O v d → t d σd w.S Qd → ThenG X.K X.mg is σ w Qd Q → t' v σ w.H Q
structure DGs (X : Cx) (tgs : List Expr) (is : List Nat) (t : GsD) : Prop where
  ex : ∃ t', PGs X tgs t' ∧ ∀ σ σd vs ds w Qd Q, RS X.K X.mg w → RL X.K X.mg w σ σd → Reps X.K X.mg w.H w.O vs ds → t ds σd w.S Qd → ThenG X.K X.mg is σ w Qd Q → t' vs σ w.H Q
def gname (i : Nat) : GD := fun d σ S Q => Q (σ.set i (some d)) S
theorem dg_name {i : Nat} {x : Str} {pos : Pos} (hN : X.N.Nodup) (hi : X.N[i]? = some x) (hx : Loc X.env.scope x) (hf : X.fn x = true ∨ X.env.scope.names.lookup x = some .local) : DG X (.Name x pos) [i] (gname i) := by
  refine ⟨_, pg_name hN hi hx hf, fun σ σd v d w Qd Q rs rl r h k => ?_⟩
  refine k _ _ w (.refl w) rs (rl.set r i) ⟨by simp, fun j hj => ?_⟩ h
  rw [List.getElem?_set_ne (fun e => hj (by simp [e]))]
def gnil : GsD := fun ds σ S Q => match ds with
  | [] => Q σ S
  | _ => False
def gcons (t : GD) (u : GsD) : GsD := fun ds σ S Q => match ds with
  | d :: r => t d σ S fun σ1 S1 => u r σ1 S1 Q
  | [] => False
theorem dgs_nil : DGs X [] [] gnil := by
  refine ⟨_, pgs_nil, fun σ σd vs ds w Qd Q rs rl r h k => ?_⟩
  cases ds with
  | nil => exact ⟨r.nil_iff, k _ _ w (.refl w) rs rl (.refl σ) h⟩
  | cons _ _ => exact False.elim h
theorem dgs_cons {e : Expr} {es : List Expr} {is js : List Nat} {t : GD} {u : GsD} (h1 : DG X e is t) (h2 : DGs X es js u) (hs : (assignEach (e :: es) X.env).map (·.2) = assign e X.env :: (assignEach es X.env).map (·.2)) : DGs X (e :: es) (is ++ js) (gcons t u) := by
  obtain ⟨t', p, l⟩ := h1
  obtain ⟨u', p', l'⟩ := h2
  refine ⟨_, pgs_cons p p' hs, fun σ σd vs ds w Qd Q rs rl r h k => ?_⟩
  cases ds with
  | nil => exact False.elim h
  | cons d ds =>
    obtain ⟨v, us, rfl, r1, r2⟩ := r.cons_iff
    refine ⟨v, us, rfl, ?_⟩
    refine l σ σd v d w _ _ rs rl r1 h fun σ1 σd1 w1 k1 rs1 rl1 a1 q1 => ?_
    exact l' σ1 σd1 us ds w1 _ _ rs1 rl1 (r2.keep rs k1) q1 fun σ2 σd2 w2 k2 rs2 rl2 a2 q2 => k σ2 σd2 w2 (k1.trans k2) rs2 rl2 (a1.trans a2) q2
def gtup (n : Nat) (t : GsD) : GD := fun d σ S Q => match d with
  | .tup ds => ds.length = n ∧ t ds σ S Q
  | .ctu ds => ds.length = n ∧ t ds σ S Q
  | .lst ds => ds.length = n ∧ t ds σ S Q
  | _ => False
theorem pg_or {e : Expr} {t1 t2 : TG} (h1 : PG X e t1) (h2 : PG X e t2) : PG X e (fun v σ H Q => t1 v σ H Q ∨ t2 v σ H Q) :=
  ⟨fun pins s σ H v u Q I r hw => hw.elim (fun h => h1.run pins s σ H v u Q I r h) fun h => h2.run pins s σ H v u Q I r h⟩
theorem dg_tup {es : List Expr} {k : Nat} {is : List Nat} {t : GsD} {n : Nat} {pos : Pos} (hc : X.calm = true) (h : DGs X es is t) (hn : (assignEach es X.env).length = n) (hst : (assignEach es X.env).findIdx? (·.1) = none) : DG X (.Tuple es k pos) is (gtup n t) := by
  obtain ⟨t', p, l⟩ := h
  refine ⟨_, pg_or (pg_tup hc p hn hst) (pg_lst hc p hn hst), fun σ σd v d w Qd Q rs rl r h k => ?_⟩
  cases r with
  | tup h1 hl hr =>
    obtain ⟨e, h⟩ : _ ∧ _ := h
    exact .inl ⟨_, _, rfl, .inl (.inl h1), by rw [hl]; exact e, l σ σd _ _ w _ _ rs rl ⟨hl, hr⟩ h k⟩
  | ctu h1 hl hr =>
    obtain ⟨e, h⟩ : _ ∧ _ := h
    exact .inl ⟨_, _, rfl, h1, by rw [hl]; exact e, l σ σd _ _ w _ _ rs rl ⟨hl, hr⟩ h k⟩
  | lst h1 ho hl hr =>
    obtain ⟨e, h⟩ : _ ∧ _ := h
    exact .inr ⟨_, _, rfl, .inl (.inl h1), by rw [hl]; exact e, l σ σd _ _ w _ _ rs rl ⟨hl, hr⟩ h k⟩
  | _ => exact False.elim h
/-! o[i] = v for an owned list, an owned dict -/
section
variable {κ : Type} [DecidableEq κ]
/-- in its place, or at the end -/
def putD (kvs : List (κ × D)) (k : κ) (d : D) : List (κ × D) := if (kvs.any fun kv => decide (kv.1 = k)) = true then kvs.map (fun kv => if kv.1 = k then (kv.1, d) else kv) else kvs ++ [(k, d)]
variable {κ' : Type} [DecidableEq κ'] {f : κ → κ'} {K : PySem.W.Frag} {mg : Str → Option Value} {H : Hp} {O : Own}
theorem put_any (hf : ∀ x y, f x = f y → x = y) {k : κ} : ∀ {us : List (κ' × V)} {kvs : List (κ × D)}, (us.map (·.1)) = (kvs.map fun p => f p.1) → (us.any fun kv => decide (kv.1 = f k)) = kvs.any fun kv => decide (kv.1 = k)
  | [], [], _ => rfl
  | [], _ :: _, h => by cases h
  | _ :: _, [], h => by cases h
  | u :: us, kv :: kvs, h => by
    rw [List.map_cons, List.map_cons] at h
    injection h with h1 h2
    rw [List.any_cons, List.any_cons, put_any hf h2, h1]
    congr 1
    by_cases e : kv.1 = k
    · rw [e]; simp
    · rw [decide_eq_false e, decide_eq_false fun z => e (hf _ _ z)]
theorem put_map (hf : ∀ x y, f x = f y → x = y) {k : κ} {v : V} {d : D} (r : Rep K mg H O v d) : ∀ {us : List (κ' × V)} {kvs : List (κ × D)}, (us.map (·.1)) = (kvs.map fun p => f p.1) → Reps K mg H O (us.map (·.2)) (kvs.map (·.2)) →
    ((us.map fun kv => if kv.1 = f k then (kv.1, v) else kv).map (·.1)) = ((kvs.map fun kv => if kv.1 = k then (kv.1, d) else kv).map fun p => f p.1) ∧ Reps K mg H O ((us.map fun kv => if kv.1 = f k then (kv.1, v) else kv).map (·.2)) ((kvs.map fun kv => if kv.1 = k then (kv.1, d) else kv).map (·.2))
  | [], [], _, _ => ⟨rfl, .nil⟩
  | [], _ :: _, h, _ => by cases h
  | _ :: _, [], h, _ => by cases h
  | u :: us, kv :: kvs, h, q => by
    rw [List.map_cons, List.map_cons] at h q
    injection h with h1 h2
    obtain ⟨a1, a2⟩ := put_map hf (k := k) r h2 q.tail
    simp only [List.map_cons]
    by_cases e : kv.1 = k
    · rw [if_pos e, if_pos (by rw [h1, e])]
      exact ⟨by rw [a1, h1], .cons r a2⟩
    · rw [if_neg e, if_neg (fun z => e (hf _ _ (h1.symm.trans z)))]
      exact ⟨by rw [a1, h1], .cons q.head a2⟩
theorem put_rep (hf : ∀ x y, f x = f y → x = y) {k : κ} {v : V} {d : D} {us : List (κ' × V)} {kvs : List (κ × D)} (r : Rep K mg H O v d) (h : (us.map (·.1)) = (kvs.map fun p => f p.1)) (q : Reps K mg H O (us.map (·.2)) (kvs.map (·.2))) :
    ((L2.putK us (f k) v).map (·.1)) = ((putD kvs k d).map fun p => f p.1) ∧ Reps K mg H O ((L2.putK us (f k) v).map (·.2)) ((putD kvs k d).map (·.2)) := by
  unfold L2.putK putD
  rw [put_any hf h]
  split
  · exact put_map hf r h q
  · rw [List.map_append, List.map_append, List.map_append, List.map_append, h]
    exact ⟨rfl, q.append (.cons r .nil)⟩
end
theorem inl_inj : ∀ x y : List Int, x.map (Sum.inl (β := Str)) = y.map Sum.inl → x = y
  | [], [], _ => rfl
  | [], _ :: _, h => by cases h
  | _ :: _, [], h => by cases h
  | x :: xs, y :: ys, h => by
    rw [List.map_cons, List.map_cons] at h
    injection h with h1 h2
    injection h1 with h1
    rw [h1, inl_inj xs ys h2]
theorem inr_inj : ∀ x y : Str, (Sum.inr x : L2.Key) = Sum.inr y → x = y := fun _ _ h => by injection h
/-- a tuple of ints as a key -/
theorem key_tup {K : PySem.W.Frag} {mg : Str → Option Value} {H : Hp} {O : Own} {v : V} {ks : List D} {is : List Int} (r : Rep K mg H O v (.tup ks)) (h : intsD ks = some is) : ∃ b, v = .ref b ∧ H b = some (.tup ((is.map Sum.inl).map kV)) := by
  cases r with
  | tup h1 hl hr =>
    have e := intsD_ok h
    subst e
    have e2 := reps_ints ⟨hl, hr⟩
    refine ⟨_, rfl, ?_⟩
    rw [h1, e2, List.map_map]
    rfl
/-- o[i] = v -/
def dSet (o i v : D) (S : Sto) (Q : Sto → Prop) : Prop := match o with
  | .ref a => match i with
    | .int z => refW S a fun xs => match ixN xs.length z with
      | some j => Q (ups S a (.ml (xs.set j v)))
      | none => False
    | .tup ks => mtW S a fun kvs => match intsD ks with
      | some is => kvs.length < sizeLine ∧ Q (ups S a (.mt (putD kvs is v)))
      | none => False
    | .str x => mkW S a fun kvs => kvs.length < sizeLine ∧ Q (ups S a (.mk (putD kvs x v)))
    | _ => False
  | _ => False
theorem set_any (hu : X.A.units + 1 < cLine) : PSet X (fun o i v H Q => rSetL o i v H Q ∨ rSetD o i v H Q) := by
  intro pins s σ H o i v ov iv u Q I ro ri rv h
  rcases h with h | h
  · exact set_list pins s σ H o i v ov iv u Q I ro ri rv h
  · exact set_dict hu pins s σ H o i v ov iv u Q I ro ri rv h
def gsub (to ti : TD) : GD := fun v σ S Q => to σ S fun o S1 => ti σ S1 fun i S2 => dSet o i v S2 fun S3 => Q σ S3
theorem dg_sub {o i : Expr} {to ti : TD} {pos : Pos} (hu : X.A.units + 1 < cLine) (ho : DE X o to) (hi : DE X i ti)
    (ha : ∀ v, assign (.Subscript o i pos) X.env v = (do
      let ov ← holding [v] (eval o X.env)
      let iv ← holding [v, ov] (eval i X.env)
      standAt pos
      holding [v, ov, iv] (setItem ov iv v)
      release [v, ov, iv] [])) : DG X (.Subscript o i pos) [] (gsub to ti) := by
  obtain ⟨t, p, l⟩ := ho
  obtain ⟨t', p', l'⟩ := hi
  refine ⟨_, pg_sub p p' (set_any hu) ha, fun σ σd v d w Qd Q rs rl r h k => ?_⟩
  refine l σ σd w _ _ rs rl h fun ov od w1 k1 rs1 ro q1 => ?_
  refine l' σ σd w1 _ _ rs1 (rl.keep rs k1) q1 fun iv idt w2 k2 rs2 ri q2 => ?_
  have ro2 := ro.keep rs1 k2
  have r2 := (r.keep rs k1).keep rs1 k2
  cases ro2 with
  | ref a =>
    have q3 := q2
    unfold dSet at q3
    simp only at q3
    cases idt with
    | int z =>
      cases ri
      simp only at q3
      obtain ⟨es, e, q3⟩ := refW_iff q3
      split at q3
      · rename_i j ej
        obtain ⟨_, vs, e2, rr⟩ := rs2.ml e
        refine .inl ⟨a, vs, z, j, rfl, rfl, e2, by rw [rr.len]; exact ej, ?_⟩
        obtain ⟨w3, e3, e4, k3, rs3⟩ := own_put rs2 e (.ml (rr.set r2 j))
        rw [← e3]
        have kk := k1.trans (k2.trans k3)
        exact k σ σd w3 kk rs3 (rl.keep rs kk) (.refl σ) (by rw [e4]; exact q3)
      · exact q3.elim
    | tup ks =>
      simp only at q3
      obtain ⟨kvs, e, q3⟩ := mtW_iff q3
      split at q3
      · rename_i is ei
        obtain ⟨b, rfl, hb⟩ := key_tup ri ei
        obtain ⟨_, us, e2, hk, rr⟩ := rs2.mt e
        obtain ⟨h1, h2⟩ := put_rep (f := fun is : List Int => is.map Sum.inl) inl_inj (k := is) r2 hk rr
        obtain ⟨w3, e3, e4, k3, rs3⟩ := own_put rs2 e (.mt h1 h2)
        refine .inr ⟨a, _, rfl, DPut.t e2 hb (by rw [len_keys hk]; exact q3.1), ?_⟩
        rw [← e3]
        have kk := k1.trans (k2.trans k3)
        exact k σ σd w3 kk rs3 (rl.keep rs kk) (.refl σ) (by rw [e4]; exact q3.2)
      · exact q3.elim
    | str x =>
      cases ri
      simp only at q3
      obtain ⟨kvs, e, q3⟩ := mkW_iff q3
      obtain ⟨_, us, e2, hk, rr⟩ := rs2.mk e
      obtain ⟨h1, h2⟩ := put_rep (f := fun x : Str => (Sum.inr x : L2.Key)) inr_inj (k := x) r2 hk rr
      obtain ⟨w3, e3, e4, k3, rs3⟩ := own_put rs2 e (.mk h1 h2)
      refine .inr ⟨a, _, rfl, DPut.k (k := Sum.inr x) e2 (by rw [len_keys hk]; exact q3.1), ?_⟩
      rw [← e3]
      have kk := k1.trans (k2.trans k3)
      exact k σ σd w3 kk rs3 (rl.keep rs kk) (.refl σ) (by rw [e4]; exact q3.2)
    | _ => exact False.elim q3
  | _ => exact False.elim q2
def liftG (K : PySem.W.Frag) (mg : Str → Option Value) (is : List Nat) (t : GD) : TG := fun v σ H Q => ∃ σd d w Qd, w.H = H ∧ RS K mg w ∧ RL K mg w σ σd ∧ Rep K mg w.H w.O v d ∧ t d σd w.S Qd ∧ ThenG K mg is σ w Qd Q
theorem DG.pg {tg : Expr} {is : List Nat} {t : GD} (h : DG X tg is t) : PG X tg (liftG X.K X.mg is t) := by
  obtain ⟨t', p, l⟩ := h
  refine ⟨fun pins s σ H v u Q I r hw => ?_⟩
  obtain ⟨σd, d, w, Qd, rfl, rs, rl, rv, h, k⟩ := hw
  exact p.run pins s σ w.H v u Q I r (l σ σd v d w Qd Q rs rl rv h k)
/-! ### statements -/
structure EndsD where
  nx : SD → Sto → Prop
  rt : QD
  bk : SD → Sto → Prop := fun _ _ => False
  ct : SD → Sto → Prop := fun _ _ => False
abbrev SSD := EndsD → SD → Sto → Prop
def ThenS (X : Cx) (w : W3) (Qd : SD → Sto → Prop) (Q : L2.St → Hp → Prop) : Prop := ∀ σ' σd' w', Keep w w' → RS X.K X.mg w' → RL X.K X.mg w' σ' σd' → Qd σd' w'.S → Q σ' w'.H
structure EndsOk (X : Cx) (w : W3) (Dd : EndsD) (D : Ends) : Prop where
  nx : ThenS X w Dd.nx D.nx
  rt : ThenE X w Dd.rt D.rt
  bk : ThenS X w Dd.bk D.bk
  ct : ThenS X w Dd.ct D.ct
theorem ThenS.keep {w w' : W3} {Qd : SD → Sto → Prop} {Q : L2.St → Hp → Prop} (h : ThenS X w Qd Q) (k : Keep w w') : ThenS X w' Qd Q := fun a b c k2 rs rl q => h a b c (k.trans k2) rs rl q
theorem EndsOk.keep {w w' : W3} {Dd : EndsD} {D : Ends} (h : EndsOk X w Dd D) (k : Keep w w') : EndsOk X w' Dd D := ⟨h.nx.keep k, h.rt.keep k, h.bk.keep k, h.ct.keep k⟩
structure DS (X : Cx) (st : Stmt) (t : SSD) : Prop where
  ex : ∃ t', PS X st t' ∧ ∀ σ σd w Dd D, RS X.K X.mg w → RL X.K X.mg w σ σd → t Dd σd w.S → EndsOk X w Dd D → t' D σ w.H
structure DSs (X : Cx) (st : List Stmt) (t : SSD) : Prop where
  ex : ∃ t', PSs X st t' ∧ ∀ σ σd w Dd D, RS X.K X.mg w → RL X.K X.mg w σ σd → t Dd σd w.S → EndsOk X w Dd D → t' D σ w.H
variable {st : Stmt} {sts : List Stmt} {t u : SSD} {e : Expr} {te : TD} {pos : Pos}
def snext : SSD := fun D σ S => D.nx σ S
def sseq (t u : SSD) : SSD := fun D σ S => t { D with nx := u D } σ S
theorem dss_nil : DSs X [] snext := ⟨_, pss_nil, fun σ σd w Dd D rs rl h k => k.nx σ σd w (.refl w) rs rl h⟩
theorem dss_cons (h1 : DS X st t) (h2 : DSs X sts u) : DSs X (st :: sts) (sseq t u) := by
  obtain ⟨t', p, l⟩ := h1
  obtain ⟨u', p', l'⟩ := h2
  refine ⟨_, pss_cons p p', fun σ σd w Dd D rs rl h k => ?_⟩
  refine l σ σd w _ _ rs rl h ⟨fun σ1 σd1 w1 k1 rs1 rl1 q => ?_, k.rt, k.bk, k.ct⟩
  exact l' σ1 σd1 w1 Dd D rs1 rl1 q (k.keep k1)
theorem ds_pass : DS X (.Pass pos) snext := ⟨_, ps_pass, fun σ σd w Dd D rs rl h k => k.nx σ σd w (.refl w) rs rl h⟩
def sbreak : SSD := fun D σ S => D.bk σ S
def scont : SSD := fun D σ S => D.ct σ S
theorem ds_break : DS X (.Break pos) sbreak := ⟨_, ps_break, fun σ σd w Dd D rs rl h k => k.bk σ σd w (.refl w) rs rl h⟩
theorem ds_cont : DS X (.Continue pos) scont := ⟨_, ps_continue, fun σ σd w Dd D rs rl h k => k.ct σ σd w (.refl w) rs rl h⟩
def snever : SSD := fun _ _ _ => False
theorem ds_never : DS X st snever := ⟨_, ps_never, fun σ σd w Dd D rs rl h k => h.elim⟩
def sexpr (te : TD) : SSD := fun D σ S => te σ S fun _ S1 => D.nx σ S1
theorem ds_expr (he : DE X e te) (hs : swapsWith e none pos.line X.env = pure false) : DS X (.Expr e pos) (sexpr te) := by
  obtain ⟨t', p, l⟩ := he
  refine ⟨_, ps_expr p hs, fun σ σd w Dd D rs rl h k => ?_⟩
  exact l σ σd w _ _ rs rl h fun v d w1 k1 rs1 r q => k.nx σ σd w1 k1 rs1 (rl.keep rs k1) q
def sret (te : TD) : SSD := fun D σ S => te σ S D.rt
theorem ds_ret (he : DE X e te) : DS X (.Return (some e) pos) (sret te) := by
  obtain ⟨t', p, l⟩ := he
  exact ⟨_, ps_ret p, fun σ σd w Dd D rs rl h k => l σ σd w _ _ rs rl h k.rt⟩
def sretN : SSD := fun D _ S => D.rt .non S
theorem ds_retN : DS X (.Return none pos) sretN := ⟨_, ps_retN, fun σ σd w Dd D rs rl h k => k.rt _ _ w (.refl w) rs .non h⟩
def sif (c : BD) (t u : SSD) : SSD := fun D σ S => c σ S fun b S1 => if b = true then t D σ S1 else u D σ S1
theorem ds_if {c : Expr} {a b : List Stmt} {tc : BD} (hc : DT X c tc) (ha : DSs X a t) (hb : DSs X b u) : DS X (.If c a b pos) (sif tc t u) := by
  obtain ⟨t', p, l⟩ := hc
  obtain ⟨t1, p1, l1⟩ := ha
  obtain ⟨t2, p2, l2⟩ := hb
  refine ⟨_, ps_if p p1 p2, fun σ σd w Dd D rs rl h k => ?_⟩
  refine l σ σd w _ _ rs rl h fun c w1 k1 rs1 q => ?_
  cases c with
  | true => rw [if_pos rfl]; rw [if_pos rfl] at q; exact l1 σ σd w1 _ _ rs1 (rl.keep rs k1) q (k.keep k1)
  | false => rw [if_neg Bool.false_ne_true]; rw [if_neg Bool.false_ne_true] at q; exact l2 σ σd w1 _ _ rs1 (rl.keep rs k1) q (k.keep k1)
def sasg (te : TD) (g : GD) : SSD := fun D σ S => te σ S fun d S1 => g d σ S1 D.nx
theorem ds_asg {tg : Expr} {is : List Nat} {g : GD} (he : DE X e te) (hg : DG X tg is g) (hs : swapsWithSole [tg] e pos.line X.env = pure false) (hw : swappedStores [tg] e X.env = pure none)
    (h1 : (assignEach [tg] X.env).map (·.2) = [assign tg X.env]) : DS X (.Assign [tg] e pos) (sasg te g) := by
  obtain ⟨t', p, l⟩ := he
  obtain ⟨g', pg, lg⟩ := hg
  refine ⟨_, ps_asg p pg hs hw h1, fun σ σd w Dd D rs rl h k => ?_⟩
  refine l σ σd w _ _ rs rl h fun v d w1 k1 rs1 r q => ?_
  exact lg σ σd v d w1 _ _ rs1 (rl.keep rs k1) r q fun σ2 σd2 w2 k2 rs2 rl2 _ q2 => k.nx σ2 σd2 w2 (k1.trans k2) rs2 rl2 q2
theorem ds_set {i : Nat} {x : Str} {pos' : Pos} (hN : X.N.Nodup) (hi : X.N[i]? = some x) (hx : Loc X.env.scope x) (he : DE X e te) (hs : swapsWith e (some (.Name x pos')) pos.line X.env = pure false) (hf : X.fn x = true ∨ X.env.scope.names.lookup x = some .local) :
    DS X (.Assign [.Name x pos'] e pos) (sasg te (gname i)) := by
  obtain ⟨t', p, l⟩ := he
  refine ⟨_, ps_set hN hi hx p hs hf, fun σ σd w Dd D rs rl h k => ?_⟩
  refine l σ σd w _ _ rs rl h fun v d w1 k1 rs1 r q => ?_
  exact k.nx _ _ w1 k1 rs1 ((rl.keep rs k1).set r i) q
def spar2 (i j : Nat) (ta : AD) : SSD := fun D σ S => ta σ S fun ds S1 => match ds with
  | [a, b] => D.nx ((σ.set i (some a)).set j (some b)) S1
  | _ => False
theorem ds_par2 {i j : Nat} {x y : Str} {a b : Expr} {ta : AD} {px py pt : Pos} {kt k2 pt2} (hc : X.calm = true) (hN : X.N.Nodup) (hi : X.N[i]? = some x) (hj : X.N[j]? = some y) (hij : i ≠ j)
    (hx : X.env.scope.names.lookup x = some .local) (hy : X.env.scope.names.lookup y = some .local) (ha : DA X [a, b] ta)
    (hw : swappedStores [.Tuple [.Name x px, .Name y py] kt pt] (.Tuple [a, b] k2 pt2) X.env = pure (some [x, y]))
    (hs : swapsWithSole [.Tuple [.Name x px, .Name y py] kt pt] (.Tuple [a, b] k2 pt2) pos.line X.env = pure false) :
    DS X (.Assign [.Tuple [.Name x px, .Name y py] kt pt] (.Tuple [a, b] k2 pt2) pos) (spar2 i j ta) := by
  obtain ⟨t', p, l⟩ := ha
  refine ⟨_, ps_par hc hN hi hj hij hx hy p hw hs, fun σ σd w Dd D rs rl h k => ?_⟩
  refine l σ σd w _ _ rs rl h fun vs ds w1 k1 rs1 r q => ?_
  match ds, r, q with
  | [d, e], r, q =>
    obtain ⟨v, u, rfl, r1, r2⟩ := reps2 r
    exact ⟨v, u, rfl, k.nx _ _ w1 k1 rs1 (((rl.keep rs k1).set r1 i).set r2 j) q⟩
  | [], _, q => exact q.elim
  | [_], _, q => exact q.elim
  | _ :: _ :: _ :: _, _, q => exact q.elim
def spar3 (i j m : Nat) (ta : AD) : SSD := fun D σ S => ta σ S fun ds S1 => match ds with
  | [a, b, c] => D.nx (((σ.set i (some a)).set j (some b)).set m (some c)) S1
  | _ => False
theorem ds_par3 {i j m : Nat} {x y z : Str} {a b c : Expr} {ta : AD} {px py pz pt : Pos} {kt k2 pt2} (hc : X.calm = true) (hN : X.N.Nodup) (hi : X.N[i]? = some x) (hj : X.N[j]? = some y) (hm : X.N[m]? = some z) (hij : i ≠ j) (hil : i ≠ m) (hjl : j ≠ m)
    (hx : X.env.scope.names.lookup x = some .local) (hy : X.env.scope.names.lookup y = some .local) (hz : X.env.scope.names.lookup z = some .local) (ha : DA X [a, b, c] ta)
    (hw : swappedStores [.Tuple [.Name x px, .Name y py, .Name z pz] kt pt] (.Tuple [a, b, c] k2 pt2) X.env = pure (some [x, y, z]))
    (hs : swapsWithSole [.Tuple [.Name x px, .Name y py, .Name z pz] kt pt] (.Tuple [a, b, c] k2 pt2) pos.line X.env = pure false) :
    DS X (.Assign [.Tuple [.Name x px, .Name y py, .Name z pz] kt pt] (.Tuple [a, b, c] k2 pt2) pos) (spar3 i j m ta) := by
  obtain ⟨t', p, l⟩ := ha
  refine ⟨_, ps_par3 hc hN hi hj hm hij hil hjl hx hy hz p hw hs, fun σ σd w Dd D rs rl h k => ?_⟩
  refine l σ σd w _ _ rs rl h fun vs ds w1 k1 rs1 r q => ?_
  match ds, r, q with
  | [d, e, f], r, q =>
    obtain ⟨v, us, rfl, r1, r2⟩ := r.cons_iff
    obtain ⟨u, u2, rfl, r3, r4⟩ := reps2 r2
    exact ⟨v, u, u2, rfl, k.nx _ _ w1 k1 rs1 ((((rl.keep rs k1).set r1 i).set r3 j).set r4 m) q⟩
  | [], _, q => exact q.elim
  | [_], _, q => exact q.elim
  | [_, _], _, q => exact q.elim
  | _ :: _ :: _ :: _ :: _, _, q => exact q.elim
/-! ### while -/
def swhile (c : BD) (tb : SSD) : SSD := fun D σ S => ∃ W : Nat → SD → Sto → Prop, (∃ m, W m σ S) ∧ ∀ m σ S, W m σ S →
  c σ S fun b S1 => if b = true then tb { D with nx := fun σ' S' => ∃ m', m' < m ∧ W m' σ' S', ct := fun σ' S' => ∃ m', m' < m ∧ W m' σ' S', bk := D.nx } σ S1 else D.nx σ S1
theorem ds_while {c : Expr} {body : List Stmt} {tc : BD} {tb : SSD} (hp : PassesOwn (model X.prog X.w) X.A X.env X.xe) (hc : DT X c tc) (hb : DSs X body tb) : DS X (.While c body [] pos) (swhile tc tb) := by
  obtain ⟨t', p, l⟩ := hc
  obtain ⟨t1, p1, l1⟩ := hb
  refine ⟨_, ps_while hp p p1, fun σ σd w Dd D rs rl h k => ?_⟩
  obtain ⟨W, ⟨m0, w0⟩, turn⟩ := h
  refine ⟨fun m σ' H' => ∃ σd' w', w'.H = H' ∧ Keep w w' ∧ RS X.K X.mg w' ∧ RL X.K X.mg w' σ' σd' ∧ W m σd' w'.S, ⟨m0, σd, w, rfl, .refl w, rs, rl, w0⟩, ?_⟩
  rintro m σ' _ ⟨σd', w', rfl, k1, rs1, rl1, w1⟩
  refine l σ' σd' w' _ _ rs1 rl1 (turn m σd' w'.S w1) fun b w2 k2 rs2 q => ?_
  cases b with
  | false =>
    rw [if_neg Bool.false_ne_true]; rw [if_neg Bool.false_ne_true] at q
    exact k.nx σ' σd' w2 (k1.trans k2) rs2 (rl1.keep rs1 k2) q
  | true =>
    rw [if_pos rfl]; rw [if_pos rfl] at q
    have kk := k1.trans k2
    refine ⟨fun σ3 H3 => ∃ m', m' < m ∧ ∃ σd' w', w'.H = H3 ∧ Keep w w' ∧ RS X.K X.mg w' ∧ RL X.K X.mg w' σ3 σd' ∧ W m' σd' w'.S, fun σ3 H3 z => z, ?_⟩
    have nx : ThenS X w2 (fun σ' S' => ∃ m', m' < m ∧ W m' σ' S') (fun σ3 H3 => ∃ m', m' < m ∧ ∃ σd' w', w'.H = H3 ∧ Keep w w' ∧ RS X.K X.mg w' ∧ RL X.K X.mg w' σ3 σd' ∧ W m' σd' w'.S) :=
      fun σ3 σd3 w3 k3 rs3 rl3 ⟨m', hm, q3⟩ => ⟨m', hm, σd3, w3, rfl, kk.trans k3, rs3, rl3, q3⟩
    exact l1 σ' σd' w2 _ _ rs2 (rl1.keep rs1 k2) q ⟨nx, k.rt.keep kk, k.nx.keep kk, nx⟩
/-! ### what is walked -/
abbrev ID := SD → Sto → (List D → (Sto → Prop) → Sto → Prop) → Prop
def JOk (X : Cx) (w0 : W3) (J : It) (xs : List D) (chk : Sto → Prop) : Prop := ∀ (i : Nat) w, Keep w0 w → RS X.K X.mg w → chk w.S →
  (i < xs.length → J.go i w.H ∧ ∀ x H', J.yld i w.H x H' → ∃ w', w'.H = H' ∧ w'.S = w.S ∧ Keep w w' ∧ RS X.K X.mg w' ∧ ∃ d, xs[i]? = some d ∧ Rep X.K X.mg w'.H w'.O x d) ∧ (i = xs.length → J.stop i w.H)
structure DI (X : Cx) (tg iter : Expr) (wi : ID) : Prop where
  ex : ∃ wi', PI X tg iter wi' ∧ ∀ σ σd w (Rd : List D → (Sto → Prop) → Sto → Prop) (R : It → Hp → Prop), RS X.K X.mg w → RL X.K X.mg w σ σd → wi σd w.S Rd →
    (∀ J w' xs chk, Keep w w' → RS X.K X.mg w' → JOk X w' J xs chk → Rd xs chk w'.S → R J w'.H) → wi' σ w.H R
/-! ### for -/
def sloop0 (g : GD) (tb : SSD) (chk : Sto → Prop) (D : EndsD) : List PyD.D → SD → Sto → Prop
  | [], σ, S => chk S ∧ D.nx σ S
  | x :: r, σ, S => chk S ∧ g x σ S fun σ1 S1 => tb { D with nx := sloop0 g tb chk D r, ct := sloop0 g tb chk D r, bk := D.nx } σ1 S1
@[irreducible] def sloop (g : GD) (tb : SSD) (chk : Sto → Prop) (D : EndsD) : List PyD.D → SD → Sto → Prop := sloop0 g tb chk D
def sfor (wi : ID) (g : GD) (tb : SSD) : SSD := fun D σ S => wi σ S fun xs chk S1 => sloop g tb chk D xs σ S1
theorem sloop_nil {g : GD} {tb : SSD} {chk : Sto → Prop} {D : EndsD} {σ : SD} {S : Sto} : sloop g tb chk D [] σ S = (chk S ∧ D.nx σ S) := by unfold sloop; rfl
theorem sloop_cons {g : GD} {tb : SSD} {chk : Sto → Prop} {D : EndsD} {x : PyD.D} {r : List PyD.D} {σ : SD} {S : Sto} : sloop g tb chk D (x :: r) σ S = (chk S ∧ g x σ S fun σ1 S1 => tb { D with nx := sloop g tb chk D r, ct := sloop g tb chk D r, bk := D.nx } σ1 S1) := by unfold sloop; rfl
theorem sloop_chk {g : GD} {tb : SSD} {chk : Sto → Prop} {D : EndsD} {xs : List PyD.D} {σ : SD} {S : Sto} (h : sloop g tb chk D xs σ S) : chk S := by
  cases xs with
  | nil => rw [sloop_nil] at h; exact h.1
  | cons x r => rw [sloop_cons] at h; exact h.1
theorem ds_for {tg iter : Expr} {is : List Nat} {body : List Stmt} {wi : ID} {g : GD} {tb : SSD} (hp : PassesOwn (model X.prog X.w) X.A X.env X.xe) (hc : X.calm = true) (hi : DI X tg iter wi) (hg : DG X tg is g) (hb : DSs X body tb)
    (hs : ∀ x, foldedSetIterable iter X.env x = pure x) : DS X (.For tg iter body [] pos) (sfor wi g tb) := by
  obtain ⟨wi', pi, li⟩ := hi
  obtain ⟨g', pg, lg⟩ := hg
  obtain ⟨t1, p1, l1⟩ := hb
  refine ⟨_, ps_for hp hc pi pg p1 hs, fun σ σd w Dd D rs rl h k => ?_⟩
  refine li σ σd w _ _ rs rl h fun J w1 xs chk k1 rs1 J1 q => ?_
  refine ⟨fun i m σ' H' => ∃ σd' w', w'.H = H' ∧ Keep w1 w' ∧ RS X.K X.mg w' ∧ RL X.K X.mg w' σ' σd' ∧ i + m = xs.length ∧ sloop g tb chk Dd (xs.drop i) σd' w'.S,
    ⟨xs.length, σd, w1, rfl, .refl w1, rs1, rl.keep rs k1, by omega, q⟩, ?_⟩
  rintro i m σ' _ ⟨σd', w', rfl, k2, rs2, rl2, em, q2⟩
  obtain ⟨j1, j2⟩ := J1 i w' k2 rs2 (sloop_chk q2)
  by_cases hi : i < xs.length
  · obtain ⟨go, jy⟩ := j1 hi
    refine .inr ⟨go, fun σ3 H3 => ∃ m', m' < m ∧ ∃ σd' w', w'.H = H3 ∧ Keep w1 w' ∧ RS X.K X.mg w' ∧ RL X.K X.mg w' σ3 σd' ∧ (i + 1) + m' = xs.length ∧ sloop g tb chk Dd (xs.drop (i + 1)) σd' w'.S, fun σ3 H3 z => z, fun x H' y => ?_⟩
    obtain ⟨w3, rfl, e3, k3, rs3, d, ed, rd⟩ := jy x H' y
    have ed' : xs.drop i = d :: xs.drop (i + 1) := by
      have hd : xs[i] = d := by
        rw [List.getElem?_eq_getElem hi] at ed
        exact Option.some.inj ed
      rw [← hd]
      exact List.drop_eq_getElem_cons hi
    rw [ed', sloop_cons] at q2
    obtain ⟨_, q3⟩ := q2
    rw [← e3] at q3
    refine lg σ' σd' x d w3 _ _ rs3 (rl2.keep rs2 k3) rd q3 fun σ4 σd4 w4 k4 rs4 rl4 _ q4 => ?_
    have kk := k2.trans (k3.trans k4)
    have nx : ThenS X w4 (sloop g tb chk Dd (xs.drop (i + 1))) (fun σ3 H3 => ∃ m', m' < m ∧ ∃ σd' w', w'.H = H3 ∧ Keep w1 w' ∧ RS X.K X.mg w' ∧ RL X.K X.mg w' σ3 σd' ∧ (i + 1) + m' = xs.length ∧ sloop g tb chk Dd (xs.drop (i + 1)) σd' w'.S) :=
      fun σ5 σd5 w5 k5 rs5 rl5 q5 => ⟨m - 1, by omega, σd5, w5, rfl, kk.trans k5, rs5, rl5, by omega, q5⟩
    exact l1 σ4 σd4 w4 _ _ rs4 rl4 q4 ⟨nx, k.rt.keep (k1.trans kk), k.nx.keep (k1.trans kk), nx⟩
  · have e0 : xs.drop i = [] := List.drop_eq_nil_iff.mpr (by omega)
    rw [e0, sloop_nil] at q2
    exact .inl ⟨j2 (by omega), k.nx σ' σd' w' (k1.trans k2) rs2 rl2 q2.2⟩
end
end PyD

set_option Elab.async false
set_option linter.all false
set_option maxRecDepth 100000
set_option maxHeartbeats 2000000
/-! PyDE: what loops and comprehensions walk: lists, tuples, ranges, enumerate and zip over either. -/
namespace PyD
open PySem PySem.Spec PyProof.Rows L2

/-! ### a list or a tuple, by its kind -/
def SqX (K : PySem.W.Frag) (H : Hp) (b : Bool) (a : Addr) (xs : List V) : Prop := match b with
  | true => SqT K H a xs
  | false => SqL K H a xs
def ItrX (h : Heap) (b : Bool) (it a : Addr) (i : Nat) : Prop := match b with
  | true => h.IsTupleIter it a i
  | false => h.IsListIter it a i
def IsX (h : Heap) (b : Bool) (a : Addr) (items : Array Value) : Prop := match b with
  | true => h.IsTuple a items
  | false => h.IsList a items
theorem ItrX.at {h h' : Heap} {b : Bool} {it a : Addr} {i : Nat} (x : ItrX h b it a i) (k : ∀ o, h.get? it = some o → h'.get? it = some o) : ItrX h' b it a i := by
  cases b with
  | true => exact Heap.IsTupleIter.at (show h.IsTupleIter it a i from x) k
  | false => exact Heap.IsListIter.at (show h.IsListIter it a i from x) k
theorem ItrX.obj {h : Heap} {b : Bool} {it a : Addr} {i : Nat} (x : ItrX h b it a i) : ∃ o, h.get? it = some o ∧ ∀ v, o.data ≠ .cell v := by
  cases b with
  | true => obtain ⟨o, e, c, d⟩ := (show h.IsTupleIter it a i from x); exact ⟨o, e, fun v z => by rw [d] at z; cases z⟩
  | false => obtain ⟨o, e, c, d⟩ := (show h.IsListIter it a i from x); exact ⟨o, e, fun v z => by rw [d] at z; cases z⟩
theorem IsX.lt {h : Heap} {b : Bool} {a : Addr} {items : Array Value} (x : IsX h b a items) : a < h.objs.size := by
  cases b with
  | true => obtain ⟨o, e, _⟩ := (show h.IsTuple a items from x); exact Heap.lt_size e
  | false => obtain ⟨o, e, _⟩ := (show h.IsList a items from x); exact Heap.lt_size e
theorem drawsX {prog : Program} {w : World} {A : Around} (hh : A.handled = none) (b : Bool) (it a : Addr) (hne : a ≠ it) (items : Array Value) :
    Draws prog w A it [it, a] items.size (fun i v => items[i]? = some v) (fun i h => ItrX h b it a i ∧ IsX h b a items) := by
  cases b with
  | true => exact Draws.tuple hh it a hne items
  | false => exact Draws.list hh it a hne items
def begX (b : Bool) (a : Addr) : Obj := match b with
  | true => { cls := .type "tuple_iterator", data := .fields #[.ref a, .int 0 0] }
  | false => { cls := .type "list_iterator", data := .fields #[.ref a, .int 0 0] }
theorem beginsX (b : Bool) (a : Addr) (items : Array Value) : Begins (.ref a) (begX b a) fun h => IsX h b a items := by
  cases b with
  | true => exact begins_tuple a items
  | false => exact begins_list a items
theorem begX_it {h : Heap} {b : Bool} {it a : Addr} (e : h.get? it = some (begX b a)) : ItrX h b it a 0 := by
  cases b with
  | true => exact ⟨_, e, rfl, rfl⟩
  | false => exact ⟨_, e, rfl, rfl⟩
section
variable {X : Cx} {pins : List (Addr × Obj)} {σ : L2.St} {H : Hp} {s : Shared}
theorem seqX (I : Inv X pins σ H s) {b : Bool} {a : Addr} {xs : List V} (h : SqX X.K H b a xs) : ∃ its : List Value, Vals xs its ∧ IsX s.heap b a its.toArray ∧ xs.length ≤ sizeLine := by
  cases b with
  | true => obtain ⟨its, r, p, z⟩ := I.tuple h; exact ⟨its, r, p, z⟩
  | false => obtain ⟨its, r, p, z⟩ := I.list h; exact ⟨its, r, p.isList, z⟩
theorem injX (I : Inv X pins σ H s) {b : Bool} {a : Addr} {xs ys : List V} (h : SqX X.K H b a xs) (h' : SqX X.K H b a ys) : xs = ys := by
  cases b with
  | true => exact I.tuple_inj h h'
  | false => exact I.list_inj h h'
end
/-! ### enumerate -/
def IteX (K : PySem.W.Frag) (b : Bool) (a : Addr) : It :=
  ⟨fun i H => ∃ (xs : List V) (x : V), SqX K H b a xs ∧ xs[i]? = some x, fun i H v H' => ∃ T x, v = .ref T ∧ H T = none ∧ H' = upd H T (.tup [.int (i : Nat), x]) ∧ ∀ xs, SqX K H b a xs → xs[i]? = some x, fun i H => ∃ xs : List V, SqX K H b a xs ∧ i = xs.length⟩
theorem turn_enumX {P : Program} {w : World} {K : PySem.W.Frag} {elts : List Expr} {kk : Nat} {tpos : Pos} (b : Bool) (a e it : Addr) (hne : e ≠ it) (ha : a ≠ it) (hae : a ≠ e) :
    Turn P w K (.Tuple elts kk tpos) (IteX K b a) [e, it] e (fun i h => (∃ old, IsEnum h e it ((i : Nat) : Int) old) ∧ ItrX h b it a i) where
  mem := by simp
  obj := fun i h st c hc => by
    obtain ⟨⟨old, he⟩, hi⟩ := st
    have e' : c = e ∨ c = it := by simpa using hc
    rcases e' with z | z
    · rw [z]; exact ⟨_, he, fun v q => nomatch q⟩
    · rw [z]; exact hi.obj
  keep := fun i h h' st k => let ⟨⟨old, he⟩, hi⟩ := st; ⟨⟨old, k e (by simp) _ he⟩, hi.at fun o q => k it (by simp) o q⟩
  item := by
    intro X hP hw hK hc i pins s σ H E I hf st hg
    subst hP hw hK
    obtain ⟨⟨old, he⟩, hit⟩ := st
    obtain ⟨xs, x, hq, hx⟩ := hg
    obtain ⟨its, rv, p, hz⟩ := seqX I hq
    obtain ⟨u, hu, ru⟩ := rv.get hx
    have hel : e < s.heap.objs.size := Heap.lt_size he
    have hil : it < s.heap.objs.size := by obtain ⟨_, q, _⟩ := hit.obj; exact Heap.lt_size q
    have hlt : i < its.toArray.size := by
      have h1 := (List.getElem?_eq_some_iff.mp hu).1
      rw [List.size_toArray]; exact h1
    refine wpAny_pyNext_enum_itemD (drawsX (A := X.A.in1) (I.ok.hd hc) b it a ha its.toArray) he ⟨hit, p⟩ hlt hne (by simp; exact ⟨hne, fun z => hae z.symm⟩) fun u' h' tk hu' ho hit' hT hsz hk => ?_
    have eu : u' = u := by
      have h1 : its[i]? = some u' := by simpa using hu'
      rw [hu] at h1
      exact (Option.some.inj h1).symm
    subst eu
    refine ⟨_, rfl, wpAny_letOwnedTupleGo_enum (s := { s with heap := h', toks := tk + 1 }) ho fun h'' he' sb => ?_⟩
    have hT2 : h''.get? s.heap.objs.size = some { cls := .type "tuple", data := .seq #[.int i tk, u'] } := (sb.2 _ (Nat.ne_of_gt hel)).trans hT
    have new : ObjOk X.prog X.w (upd H s.heap.objs.size (.tup [.int (i : Nat), x])) h'' s.heap.objs.size (.tup [.int (i : Nat), x]) :=
      ⟨by show 2 ≤ sizeLine; decide, [.int i tk, u'], .cons ⟨_, rfl⟩ (.cons ru .nil), ⟨_, hT2, rfl, _, rfl⟩⟩
    have I1 : Inv X pins σ (upd H s.heap.objs.size (.tup [.int (i : Nat), x])) { s with heap := h'', toks := tk + 1 } :=
      I.turnedNew (ch := [e, it]) (fun b ob hb q => (sb.2 b (fun z => hb (by simp [z]))).trans (hk b ob (fun z => hb (by simp [z])) (fun z => hb (by simp [z])) q)) hf (Nat.le_refl _) new
    refine ⟨.ref s.heap.objs.size, _, I1, rfl, ⟨_, x, rfl, I.hok.fresh (Nat.le_refl _), rfl, fun ys hy => by rw [injX I hy hq]; exact hx⟩, ⟨⟨u', ?_⟩, hit'.1.at fun o q => (sb.2 it (Ne.symm hne)).trans q⟩, fun c hc' => ?_⟩
    · have e1 : ((i + 1 : Nat) : Int) = (i : Int) + 1 := by omega
      rw [e1]; exact he'
    · have hb' : c < s.heap.objs.size := by
        have e' : c = e ∨ c = it := by simpa using hc'
        rcases e' with z | z
        · rw [z]; exact hel
        · rw [z]; exact hil
      rw [upd_ne (Nat.ne_of_lt hb')]
      exact (hf c hc').1
  done := by
    intro X hP hw hK hc i pins s σ H E I hf st hg
    subst hP hw hK
    obtain ⟨⟨old, he⟩, hit⟩ := st
    obtain ⟨xs, hq, hx⟩ := hg
    obtain ⟨its, rv, p, hz⟩ := seqX I hq
    obtain ⟨f0, f1, f2, f3, f4, f5⟩ := hf it (by simp)
    have hl := rv.length
    have hsz : i = its.toArray.size := by rw [List.size_toArray]; omega
    exact wpAny_pyNext_enum_endD (drawsX (A := X.A.in1) (I.ok.hd hc) b it a ha its.toArray) he ⟨hsz ▸ hit, p⟩ fun h' eb => ⟨rfl, I.turned (t' := s.toks) (fun b o hb q => eb b o hb q) f0 f1 f3 f4 f5⟩
  self := fun A i s Q E st h => let ⟨⟨_, he⟩, _⟩ := st; wpAny_pyIter_enum he h
/-- enumerate of one thing, by how its iterator begins -/
theorem enum_mk1 {v : Value} {o : Obj} {G : Heap → Prop} (B : Begins v o G) : Meets (Builtin.«enumerate.__new__» ⟨[.type "enumerate", v], []⟩) (fun _ R s => G s.heap ∧
    R (.ok (.ret (.ref (s.heap.push o).objs.size))) { s with heap := (s.heap.push o).push { cls := .type "enumerate", data := .fields #[.none, .bool false, .ref s.heap.objs.size, rawInt 0, .none, .none] } }) := .of_wp fun prog w A R s hh => by
  obtain ⟨hp, gs, dr, tks, ost⟩ := s
  obtain ⟨hG, hR⟩ := hh
  have sub := sub_enumerate
  have go : ∀ {A2 : Around} {E2 : Value → Shared → Prop} {Q2 : Value → Shared → Prop}, Q2 (.ref hp.objs.size) ⟨hp.push o, gs, dr, tks, ost⟩ → wpAny (model prog w) A2 (pyIter v) Q2 E2 ⟨hp, gs, dr, tks, ost⟩ :=
    fun q => B.iter prog w _ _ ⟨hp, gs, dr, tks, ost⟩ _ hG q
  wp_walk using go
  refine wpAny_stack_any fun stk => wpAny_pure ?_
  split
  · rename_i kls _ _ _ _ _
    cases (kls == Value.type "enumerate") <;> (wp_walk using go; exact ⟨_, rfl, hR⟩)
  · wp_walk using go
    exact ⟨_, rfl, hR⟩
theorem call_enum1 {prog : Program} {w : World} {A : Around} {E : Value → Shared → Prop} {s : Shared} {v : Value} {o : Obj} {G : Heap → Prop} {Q : Value → Shared → Prop} (B : Begins v o G) (hG : G s.heap)
    (h : ∀ h', IsEnum h' (s.heap.objs.size + 1) s.heap.objs.size 0 .none → h'.get? s.heap.objs.size = some o → (∀ b u, s.heap.get? b = some u → h'.get? b = some u) → Q (.ref (s.heap.objs.size + 1)) { s with heap := h' }) :
    wpAny (model prog w) A (call (.type "enumerate") [v]) Q E s := by
  refine callType_new F.called_enumerate (by decide) (F.typeCall_enumerate_1 _) (F.newCall_enumerate_1 _) (fun obj => F.args_object_init_2 obj _) F.entry_enumerate_new (enum_mk1 B) ⟨hG, ?_⟩
  have hz : (s.heap.push o).objs.size = s.heap.objs.size + 1 := Heap.size_push ..
  show _ ∧ _
  rw [hz]
  have he : IsEnum ((s.heap.push o).push { cls := .type "enumerate", data := .fields #[.none, .bool false, .ref s.heap.objs.size, rawInt 0, .none, .none] }) (s.heap.objs.size + 1) s.heap.objs.size 0 .none := by
    have q := Heap.get?_push_size (s.heap.push o) (o := { cls := .type "enumerate", data := .fields #[.none, .bool false, .ref s.heap.objs.size, rawInt 0, .none, .none] }) rfl
    rw [hz] at q
    exact q
  exact ⟨⟨_, he, rfl⟩, h _ he (Heap.get?_push_of_some _ (Heap.get?_push_size _ B.free)) fun b u x => Heap.get?_push_of_some _ (Heap.get?_push_of_some _ x)⟩
def iEnumX (K : PySem.W.Frag) (ta : TA) : TI := fun σ H R => ta σ H fun vs H1 => ∃ a b xs, vs = [.ref a] ∧ SqX K H1 b a xs ∧ R (IteX K b a) H1
theorem pi_enumX {X : Cx} {e : Expr} {ta : TA} {p pos tpos : Pos} {elts : List Expr} {kk : Nat} (hg : Gl X "enumerate") (hm : X.mg "enumerate" = none) (ha : PA X [e] ta) (hs : starEach [e] X.env = [(false, eval e X.env)]) :
    PI X (.Tuple elts kk tpos) (.Call (.Name "enumerate" p) [e] [] pos) (iEnumX X.K ta) := by
  refine ⟨fun pins s σ H R I h => ?_⟩
  refine Call_ (ld_blt I hg hm boot_enumerate (PyProof.Rows.callWith_type1 (thn (ha.run pos pins s σ H _ I h) fun us s1 ⟨vs, H1, I1, r1, q1⟩ => ?_) hs rfl))
  obtain ⟨a, b, xs, ex, hq, q⟩ := q1
  subst ex
  cases r1 with
  | cons r rr =>
    cases rr
    cases r
    obtain ⟨its, rv, p', hz⟩ := seqX I1 hq
    have fin : ∀ h', IsEnum h' (s1.heap.objs.size + 1) s1.heap.objs.size 0 .none → ItrX h' b s1.heap.objs.size a 0 → (∀ b o, s1.heap.get? b = some o → h'.get? b = some o) →
        wpAny (model X.prog X.w) X.A (pyIter (.ref (s1.heap.objs.size + 1))) (PIE X pins σ (.Tuple elts kk tpos) R) X.xe { s1 with heap := h' } := fun h' he hit hk => wpAny_pyIter_enum he (by
      have I2 : Inv X pins σ H1 { s1 with heap := h' } := I1.kept (t' := s1.toks) hk
      refine ⟨s1.heap.objs.size + 1, [s1.heap.objs.size + 1, s1.heap.objs.size], _, _, H1, rfl, I2, turn_enumX b a (s1.heap.objs.size + 1) s1.heap.objs.size (Nat.succ_ne_self _) (Nat.ne_of_lt p'.lt) (Nat.ne_of_lt (Nat.lt_succ_of_lt p'.lt)), ⟨⟨.none, he⟩, hit⟩, fun b hb => ?_, q⟩
      have e' : b = s1.heap.objs.size + 1 ∨ b = s1.heap.objs.size := by simpa using hb
      have hle : s1.heap.objs.size ≤ b := by
        rcases e' with z | z
        · rw [z]; exact Nat.le_add_right _ _
        · rw [z]; exact Nat.le_refl _
      exact I1.fpOk hle (I1.hok.fresh hle))
    exact call_enum1 (beginsX b a its.toArray) p' fun h' he hit hk => fin h' he (begX_it hit) hk
/-! ### zip -/
def ItzX (K : PySem.W.Frag) (b1 b2 : Bool) (a c : Addr) : It :=
  ⟨fun i H => ∃ (xs ys : List V) (x y : V), SqX K H b1 a xs ∧ SqX K H b2 c ys ∧ xs[i]? = some x ∧ ys[i]? = some y,
    fun i H v H' => ∃ T x y, v = .ref T ∧ H T = none ∧ H' = upd H T (.tup [x, y]) ∧ (∀ xs, SqX K H b1 a xs → xs[i]? = some x) ∧ ∀ ys, SqX K H b2 c ys → ys[i]? = some y,
    fun i H => ∃ xs ys : List V, SqX K H b1 a xs ∧ SqX K H b2 c ys ∧ i ≤ xs.length ∧ i ≤ ys.length ∧ (i = xs.length ∨ i = ys.length)⟩
theorem turn_zipX {P : Program} {w : World} {K : PySem.W.Frag} {elts : List Expr} {kk : Nat} {tpos : Pos} {b1 b2 : Bool} {a c z TI TO i1 i2 : Addr} (S : ZipSep2 z TI TO i1 i2 [i1, a] [i2, c]) (ha : a ≠ i1) (hc0 : c ≠ i2) :
    Turn P w K (.Tuple elts kk tpos) (ItzX K b1 b2 a c) [z, TI, TO, i1, i2] z (fun i h => IsZip h z TI TO .none ∧ IsTupOf2 h TI (.ref i1) (.ref i2) ∧ (∃ x y, IsTupOf2 h TO x y) ∧ ItrX h b1 i1 a i ∧ ItrX h b2 i2 c i) where
  mem := by simp
  obj := fun i h st u hu => by
    obtain ⟨hz, hTI, ⟨x, y, hTO⟩, h1, h2⟩ := st
    have e' : u = z ∨ u = TI ∨ u = TO ∨ u = i1 ∨ u = i2 := by simpa using hu
    rcases e' with q | q | q | q | q
    · rw [q]; exact ⟨_, hz, fun v q => nomatch q⟩
    · rw [q]; exact ⟨_, hTI, fun v q => nomatch q⟩
    · rw [q]; exact ⟨_, hTO, fun v q => nomatch q⟩
    · rw [q]; exact h1.obj
    · rw [q]; exact h2.obj
  keep := fun i h h' st k => by
    obtain ⟨hz, hTI, ⟨x, y, hTO⟩, h1, h2⟩ := st
    exact ⟨k z (by simp) _ hz, k TI (by simp) _ hTI, ⟨x, y, k TO (by simp) _ hTO⟩, h1.at fun o q => k i1 (by simp) o q, h2.at fun o q => k i2 (by simp) o q⟩
  item := by
    intro X hP hw hK hc i pins s σ H E I hf st hg
    subst hP hw hK
    obtain ⟨hz, hTI, ⟨x0, y0, hTO⟩, h1, h2⟩ := st
    obtain ⟨xs, ys, x, y, hqx, hqy, hx, hy⟩ := hg
    obtain ⟨its, rv, p, _⟩ := seqX I hqx
    obtain ⟨its2, rv2, p2, _⟩ := seqX I hqy
    obtain ⟨u, hu, ru⟩ := rv.get hx
    obtain ⟨u2, hu2, ru2⟩ := rv2.get hy
    have hzl : z < s.heap.objs.size := Heap.lt_size hz
    have l1 : i < its.toArray.size := by rw [List.size_toArray]; exact (List.getElem?_eq_some_iff.mp hu).1
    have l2 : i < its2.toArray.size := by rw [List.size_toArray]; exact (List.getElem?_eq_some_iff.mp hu2).1
    refine wpAny_pyNext_zipD2_item S (drawsX (A := X.A.in1) (I.ok.hd hc) b1 i1 a ha its.toArray) (drawsX (A := X.A.in1) (I.ok.hd hc) b2 i2 c hc0 its2.toArray) hz hTI hTO ⟨h1, p⟩ ⟨h2, p2⟩ l1 l2 fun v1 v2 h' tk hv1 hv2 z' TO' s1 s2 hT hsz hk => ?_
    have e1 : v1 = u := by
      have q : its[i]? = some v1 := by simpa using hv1
      rw [hu] at q
      exact (Option.some.inj q).symm
    have e2 : v2 = u2 := by
      have q : its2[i]? = some v2 := by simpa using hv2
      rw [hu2] at q
      exact (Option.some.inj q).symm
    subst e1 e2
    refine ⟨_, rfl, wpAny_letOwnedTupleGo_zip (s := { s with heap := h', toks := tk }) z' fun h'' z'' sb => ?_⟩
    have hT2 : h''.get? s.heap.objs.size = some { cls := .type "tuple", data := .seq #[v1, v2] } := (sb.2 _ (Nat.ne_of_gt hzl)).trans hT
    have new : ObjOk X.prog X.w (upd H s.heap.objs.size (.tup [x, y])) h'' s.heap.objs.size (.tup [x, y]) :=
      ⟨by show 2 ≤ sizeLine; decide, [v1, v2], .cons ru (.cons ru2 .nil), ⟨_, hT2, rfl, _, rfl⟩⟩
    have I1 : Inv X pins σ (upd H s.heap.objs.size (.tup [x, y])) { s with heap := h'', toks := tk } :=
      I.turnedNew (ch := [z, TI, TO, i1, i2]) (fun d o hb q => (sb.2 d (fun q' => hb (by simp [q']))).trans (hk d o (fun q' => hb (by simp [q'])) (fun q' => hb (by simp [q'])) (fun q' => hb (by simp [q'])) (fun q' => hb (by simp [q'])) q)) hf (Nat.le_refl _) new
    refine ⟨.ref s.heap.objs.size, _, I1, rfl, ⟨_, x, y, rfl, I.hok.fresh (Nat.le_refl _), rfl, fun l hl => by rw [injX I hl hqx]; exact hx, fun l hl => by rw [injX I hl hqy]; exact hy⟩, ⟨z'', ?_, ⟨v1, v2, ?_⟩, ?_, ?_⟩, fun d hd => ?_⟩
    · exact (sb.2 _ S.TIz).trans (hk _ _ S.TIz S.TITO S.TIi1 S.TIi2 hTI)
    · exact (sb.2 _ S.TOz).trans TO'
    · exact s1.1.at fun o q => (sb.2 _ (Ne.symm S.zi1)).trans q
    · exact s2.1.at fun o q => (sb.2 _ (Ne.symm S.zi2)).trans q
    · have hlt : d < s.heap.objs.size := by
        have e' : d = z ∨ d = TI ∨ d = TO ∨ d = i1 ∨ d = i2 := by simpa using hd
        rcases e' with q | q | q | q | q
        · rw [q]; exact hzl
        · rw [q]; exact Heap.lt_size hTI
        · rw [q]; exact Heap.lt_size hTO
        · rw [q]; obtain ⟨_, e1, _⟩ := h1.obj; exact Heap.lt_size e1
        · rw [q]; obtain ⟨_, e2, _⟩ := h2.obj; exact Heap.lt_size e2
      rw [upd_ne (Nat.ne_of_lt hlt)]
      exact (hf d hd).1
  done := by
    intro X hP hw hK hc i pins s σ H E I hf st hg
    subst hP hw hK
    obtain ⟨hz, hTI, ⟨x0, y0, hTO⟩, h1, h2⟩ := st
    obtain ⟨xs, ys, hqx, hqy, le1, le2, hend⟩ := hg
    obtain ⟨its, rv, p, _⟩ := seqX I hqx
    obtain ⟨its2, rv2, p2, _⟩ := seqX I hqy
    have l1 := rv.length
    have l2 := rv2.length
    exact wpAny_pyNext_zipD2_end S (drawsX (A := X.A.in1) (I.ok.hd hc) b1 i1 a ha its.toArray) (drawsX (A := X.A.in1) (I.ok.hd hc) b2 i2 c hc0 its2.toArray) hz hTI hTO ⟨h1, p⟩ ⟨h2, p2⟩
      (by rw [List.size_toArray]; omega) (by rw [List.size_toArray]; omega) (by rw [List.size_toArray, List.size_toArray]; omega) fun h' tk hk => ⟨rfl, I.turnedL (t' := tk) (ch := [z, TI, TO, i1, i2]) (fun d o hb q =>
      hk d o (fun q' => hb (by simp [q'])) (fun q' => hb (by simp [q'])) (fun q' => hb (by simp [q'])) (fun q' => hb (by simp [q'])) q) hf⟩
  self := fun A i s Q E st h => wpAny_pyIter_zip st.1 h
theorem notin2 {x u v : Nat} (h1 : x ≠ u) (h2 : x ≠ v) : x ∉ [u, v] := by
  intro h
  rcases List.mem_cons.mp h with e | h
  · exact h1 e
  · rcases List.mem_cons.mp h with e | h
    · exact h2 e
    · cases h
theorem sepN {n : Nat} {a c : Nat} (la : a < n) (lc : c < n) : ZipSep2 (n + 4 : Nat) (n + 2 : Nat) (n + 3 : Nat) n (n + 1 : Nat) [n, a] [(n + 1 : Nat), c] where
  TIz := show (n + 2 : Nat) ≠ n + 4 by omega
  TOz := show (n + 3 : Nat) ≠ n + 4 by omega
  TITO := show (n + 2 : Nat) ≠ n + 3 by omega
  TIi1 := show (n + 2 : Nat) ≠ n by omega
  mem1 := List.mem_cons_self
  zf1 := notin2 (show (n + 4 : Nat) ≠ n by omega) (show (n + 4 : Nat) ≠ a by omega)
  Tf1 := notin2 (show (n + 3 : Nat) ≠ n by omega) (show (n + 3 : Nat) ≠ a by omega)
  TIi2 := show (n + 2 : Nat) ≠ n + 1 by omega
  mem2 := List.mem_cons_self
  zf2 := notin2 (show (n + 4 : Nat) ≠ n + 1 by omega) (show (n + 4 : Nat) ≠ c by omega)
  Tf2 := notin2 (show (n + 3 : Nat) ≠ n + 1 by omega) (show (n + 3 : Nat) ≠ c by omega)
  sep1_2 := notin2 (show (n : Nat) ≠ n + 1 by omega) (show (n : Nat) ≠ c by omega)
  sep2_1 := notin2 (show (n + 1 : Nat) ≠ n by omega) (show (n + 1 : Nat) ≠ a by omega)
def iZipX (K : PySem.W.Frag) (ta : TA) : TI := fun σ H R => ta σ H fun vs H1 => ∃ a c b1 b2 xs ys, vs = [.ref a, .ref c] ∧ SqX K H1 b1 a xs ∧ SqX K H1 b2 c ys ∧ R (ItzX K b1 b2 a c) H1
theorem pi_zipX {X : Cx} {e e2 : Expr} {ta : TA} {p pos tpos : Pos} {elts : List Expr} {kk : Nat} (hg : Gl X "zip") (hm : X.mg "zip" = none) (ha : PA X [e, e2] ta)
    (hs : starEach [e, e2] X.env = (false, eval e X.env) :: starEach [e2] X.env) (hpl : (backTo pos (starEach [e2] X.env)).any (·.1) = false) :
    PI X (.Tuple elts kk tpos) (.Call (.Name "zip" p) [e, e2] [] pos) (iZipX X.K ta) := by
  refine ⟨fun pins s σ H R I h => ?_⟩
  refine Call_ (ld_blt I hg hm PyProof.Rows.boot_zip (PyProof.Rows.callWith_type1 (thn (ha.run pos pins s σ H _ I h) fun us s1 ⟨vs, H1, I1, r1, q1⟩ => ?_) hs hpl))
  obtain ⟨a, c, b1, b2, xs, ys, ex, hqx, hqy, q⟩ := q1
  subst ex
  cases r1 with
  | cons r rr =>
    cases rr with
    | cons r' rr =>
      cases rr
      cases r
      cases r'
      obtain ⟨its, rv, p1, _⟩ := seqX I1 hqx
      obtain ⟨its2, rv2, p2, _⟩ := seqX I1 hqy
      have la := p1.lt
      have lc := p2.lt
      have fresh5 : ∀ d, d ∈ [s1.heap.objs.size + 4, s1.heap.objs.size + 2, s1.heap.objs.size + 3, s1.heap.objs.size, s1.heap.objs.size + 1] → FpOk X pins H1 d := fun d hd => by
        have e' : d = s1.heap.objs.size + 4 ∨ d = s1.heap.objs.size + 2 ∨ d = s1.heap.objs.size + 3 ∨ d = s1.heap.objs.size ∨ d = s1.heap.objs.size + 1 := by simpa using hd
        have hle : s1.heap.objs.size ≤ d := by
          rcases e' with z | z | z | z | z
          · rw [z]; exact Nat.le_add_right _ _
          · rw [z]; exact Nat.le_add_right _ _
          · rw [z]; exact Nat.le_add_right _ _
          · rw [z]; exact Nat.le_refl _
          · rw [z]; exact Nat.le_add_right _ _
        exact I1.fpOk hle (I1.hok.fresh hle)
      refine zip_begins2 (beginsX b1 a its.toArray) (beginsX b2 c its2.toArray) p1 p2 fun h' hz hTI hTO g1 g2 hsz hk => wpAny_pyIter_zip hz ?_
      have I2 : Inv X pins σ H1 { s1 with heap := h' } := I1.kept (t' := s1.toks) hk
      have S : ZipSep2 (s1.heap.objs.size + 4) (s1.heap.objs.size + 2) (s1.heap.objs.size + 3) s1.heap.objs.size (s1.heap.objs.size + 1) [s1.heap.objs.size, a] [s1.heap.objs.size + 1, c] := sepN la lc
      exact ⟨s1.heap.objs.size + 4, [s1.heap.objs.size + 4, s1.heap.objs.size + 2, s1.heap.objs.size + 3, s1.heap.objs.size, s1.heap.objs.size + 1], _, _, H1, rfl, I2, turn_zipX (b1 := b1) (b2 := b2) S (Nat.ne_of_lt la) (Nat.ne_of_lt (Nat.lt_succ_of_lt lc)), ⟨hz, hTI, ⟨_, _, hTO⟩, begX_it g1, begX_it g2⟩, fresh5, q⟩
end PyD

set_option Elab.async false
set_option linter.all false
set_option maxRecDepth 100000
set_option maxHeartbeats 2000000
/-! PyDF: walks over plain data, comprehensions, calls of defs, promises over plain data. -/
namespace PyD
open PySem PySem.Spec PyProof.Rows L2

/-! ### what is walked, over plain data -/
def isTup : D → Bool
  | .tup _ => true
  | .ctu _ => true
  | _ => false
theorem seqKind {K : PySem.W.Frag} {mg : Str → Option Value} {w : W3} (rs : RS K mg w) {v : V} {d : D} (r : Rep K mg w.H w.O v d) {ds : List D} (h : seqOf w.S d = some ds) : ∃ a vs, v = .ref a ∧ Reps K mg w.H w.O vs ds ∧ SqX K w.H (isTup d) a vs := by
  obtain ⟨a, vs, e, r1, h2⟩ := seqOf_ok rs r h
  refine ⟨a, vs, e, r1, ?_⟩
  rcases h2 with ⟨h2, h3⟩ | ⟨h2, e2 | e2⟩
  · have : isTup d = false := by
      cases d with
      | tup es => cases h3
      | ctu es => cases h3
      | _ => rfl
    rw [this]; exact h2
  · rw [e2]; exact h2
  · rw [e2]; exact h2
def ItsX (K : PySem.W.Frag) (b : Bool) (a : Addr) : It := match b with
  | true => Itt K a
  | false => Itl K a
section
variable {X : Cx} {tg : Expr}
def iSeqX (K : PySem.W.Frag) (tl : TE) : TI := fun σ H R => tl σ H fun x H1 => ∃ a b xs, x = .ref a ∧ SqX K H1 b a xs ∧ R (ItsX K b a) H1
theorem pi_seqX {l : Expr} {tl : TE} (hl : PE X l tl) : PI X tg l (iSeqX X.K tl) := by
  refine ⟨fun pins s σ H R I h => ?_⟩
  refine thn (hl.run pins s σ H _ I h) fun v s1 ⟨x, H1, I1, r1, q1⟩ => ?_
  obtain ⟨a, b, xs, e, hq, q⟩ := q1
  subst e
  cases r1
  have fresh : ∀ b, b ∈ [s1.heap.objs.size] → FpOk X pins H1 b := fun b hb => by
    have e : b = s1.heap.objs.size := by simpa using hb
    subst e
    exact I1.fpOk (Nat.le_refl _) (I1.hok.fresh (Nat.le_refl _))
  cases b with
  | false =>
    obtain ⟨its, rv, p, hz⟩ := I1.list hq
    refine wpAny_pyIter_list p.isList ?_
    exact ⟨s1.heap.objs.size, [s1.heap.objs.size], _, _, H1, rfl, I1.kept (t' := s1.toks) fun b o e => Heap.get?_push_of_some _ e, turn_list a _, ⟨_, Heap.get?_push_size _ rfl, rfl, rfl⟩, fresh, q⟩
  | true =>
    obtain ⟨its, rv, p, hz⟩ := I1.tuple hq
    refine wpAny_pyIter_tuple (show s1.heap.IsTuple a its.toArray from p) ?_
    exact ⟨s1.heap.objs.size, [s1.heap.objs.size], _, _, H1, rfl, I1.kept (t' := s1.toks) fun b o e => Heap.get?_push_of_some _ e, turn_tuple a _, ⟨_, Heap.get?_push_size _ rfl, rfl, rfl⟩, fresh, q⟩
def iseq (te : TD) : ID := fun σ S R => te σ S fun d S1 => seqW S1 d fun ds => R ds (fun S2 => seqOf S2 d = some ds) S1
theorem di_seq {l : Expr} {te : TD} (hl : DE X l te) : DI X tg l (iseq te) := by
  obtain ⟨t, p, ll⟩ := hl
  refine ⟨_, pi_seqX p, fun σ σd w Rd R rs rl h k => ?_⟩
  refine ll σ σd w _ _ rs rl h fun v d w1 k1 rs1 r q => ?_
  obtain ⟨ds, e1, q⟩ := seqW_iff q
  · obtain ⟨a, vs, rfl, r1, h1⟩ := seqKind rs1 r e1
    refine ⟨a, isTup d, vs, rfl, h1, k _ w1 ds _ k1 rs1 (fun i w2 k2 rs2 c2 => ?_) q⟩
    have r2 := r.keep rs1 k2
    obtain ⟨a', us, ea, r3, h3⟩ := seqKind rs2 r2 c2
    cases ea
    cases hb : isTup d with
    | true =>
      rw [hb] at h3
      refine ⟨fun hi => ?_, fun hi => ⟨us, h3, by rw [r3.len]; omega⟩⟩
      obtain ⟨x, hx, rx⟩ := r3.at (List.getElem?_eq_getElem hi)
      exact ⟨⟨us, x, h3, hx⟩, fun y H' ⟨e, f⟩ => ⟨w2, e.symm, rfl, .refl w2, rs2, ds[i], List.getElem?_eq_getElem hi, by
        have := f us h3
        rw [hx] at this
        cases this
        exact rx⟩⟩
    | false =>
      rw [hb] at h3
      refine ⟨fun hi => ?_, fun hi => ⟨us, h3, by rw [r3.len]; omega⟩⟩
      obtain ⟨x, hx, rx⟩ := r3.at (List.getElem?_eq_getElem hi)
      exact ⟨⟨us, x, h3, hx⟩, fun y H' ⟨e, f⟩ => ⟨w2, e.symm, rfl, .refl w2, rs2, ds[i], List.getElem?_eq_getElem hi, by
        have := f us h3
        rw [hx] at this
        cases this
        exact rx⟩⟩
/-- lo, lo + 1, .. -/
def rngD : Int → Nat → List D
  | _, 0 => []
  | lo, n + 1 => .int lo :: rngD (lo + 1) n
theorem rngD_len : ∀ (n : Nat) (lo : Int), (rngD lo n).length = n
  | 0, _ => rfl
  | n + 1, lo => by rw [rngD, List.length_cons, rngD_len n]
theorem rngD_get : ∀ (n : Nat) (lo : Int) (i : Nat), i < n → (rngD lo n)[i]? = some (.int (lo + i))
  | n + 1, lo, 0, _ => by rw [rngD]; simp
  | n + 1, lo, i + 1, h => by
    rw [rngD, List.getElem?_cons_succ, rngD_get n (lo + 1) i (by omega)]
    have e : lo + 1 + (i : Int) = lo + ((i + 1 : Nat) : Int) := by omega
    rw [e]
theorem rng_ok {w1 : W3} (lo : Int) (n : Nat) : JOk X w1 (Itr lo n) (rngD lo n) fun _ => True := fun i w2 k2 rs2 _ => by
  rw [rngD_len]
  exact ⟨fun hi => ⟨hi, fun y H' ⟨e, f⟩ => ⟨w2, e.symm, rfl, .refl w2, rs2, _, rngD_get n lo i hi, by rw [f]; exact .int _⟩⟩, fun hi => Nat.le_of_eq hi.symm⟩
def CRng (i : Int) : Prop := -(2 ^ 62) ≤ i ∧ i < 2 ^ 62
def irng1 (t : AD) : ID := fun σ S R => t σ S fun ds S1 => match ds with
  | [.int j] => CRng j ∧ R (rngD 0 j.toNat) (fun _ => True) S1
  | _ => False
def irng2 (t : AD) : ID := fun σ S R => t σ S fun ds S1 => match ds with
  | [.int i, .int j] => CRng i ∧ CRng j ∧ R (rngD i (j - i).toNat) (fun _ => True) S1
  | _ => False
theorem di_rng1 {a : Expr} {t : AD} {p pos : Pos} (hg : Gl X "range") (hm : X.mg "range" = none) (ha : DA X [a] t) (hs : starEach [a] X.env = [(false, eval a X.env)]) : DI X tg (.Call (.Name "range" p) [a] [] pos) (irng1 t) := by
  obtain ⟨t', pa, l⟩ := ha
  refine ⟨_, pi_range1 hg hm pa hs, fun σ σd w Rd R rs rl h k => ?_⟩
  refine l σ σd w _ _ rs rl h fun vs ds w1 k1 rs1 r q => ?_
  match ds, r, q with
  | [.int j], r, q =>
    obtain ⟨v, rfl, r1⟩ := reps1 r
    cases r1
    exact ⟨j, rfl, q.1.1, q.1.2, k _ w1 _ _ k1 rs1 (rng_ok 0 _) q.2⟩
theorem di_rng2 {a b : Expr} {t : AD} {p pos : Pos} (hg : Gl X "range") (hm : X.mg "range" = none) (ha : DA X [a, b] t) (hs : starEach [a, b] X.env = [(false, eval a X.env), (false, eval b X.env)]) (hs2 : starEach [b] X.env = [(false, eval b X.env)]) :
    DI X tg (.Call (.Name "range" p) [a, b] [] pos) (irng2 t) := by
  obtain ⟨t', pa, l⟩ := ha
  refine ⟨_, pi_range2 hg hm pa hs hs2, fun σ σd w Rd R rs rl h k => ?_⟩
  refine l σ σd w _ _ rs rl h fun vs ds w1 k1 rs1 r q => ?_
  match ds, r, q with
  | [.int i, .int j], r, q =>
    obtain ⟨v, u, rfl, r1, r2⟩ := reps2 r
    cases r1
    cases r2
    exact ⟨i, j, rfl, ⟨q.1.1, q.1.2, q.2.1.1, q.2.1.2⟩, k _ w1 _ _ k1 rs1 (rng_ok i _) q.2.2⟩
def enumD : Int → List D → List D
  | _, [] => []
  | n, d :: r => .tup [.int n, d] :: enumD (n + 1) r
theorem enumD_len : ∀ (ds : List D) (n : Int), (enumD n ds).length = ds.length
  | [], _ => rfl
  | d :: r, n => by rw [enumD, List.length_cons, enumD_len r, List.length_cons]
theorem enumD_get : ∀ (ds : List D) (n : Int) (i : Nat) (d : D), ds[i]? = some d → (enumD n ds)[i]? = some (.tup [.int (n + i), d])
  | [], _, _, _, h => by simp at h
  | e :: r, n, 0, d, h => by
    simp at h
    subst h
    rw [enumD]; simp
  | e :: r, n, i + 1, d, h => by
    rw [enumD, List.getElem?_cons_succ, enumD_get r (n + 1) i d (by simpa using h)]
    have e : n + 1 + (i : Int) = n + ((i + 1 : Nat) : Int) := by omega
    rw [e]
def ienum (t : AD) : ID := fun σ S R => t σ S fun es S1 => match es with
  | [d] => seqW S1 d fun ds => R (enumD 0 ds) (fun S2 => seqOf S2 d = some ds) S1
  | _ => False
theorem di_enum {a : Expr} {t : AD} {p pos tpos : Pos} {elts : List Expr} {kk : Nat} (hg : Gl X "enumerate") (hm : X.mg "enumerate" = none) (ha : DA X [a] t) (hs : starEach [a] X.env = [(false, eval a X.env)]) : DI X (.Tuple elts kk tpos) (.Call (.Name "enumerate" p) [a] [] pos) (ienum t) := by
  obtain ⟨t', pa, l⟩ := ha
  refine ⟨_, pi_enumX hg hm pa hs, fun σ σd w Rd R rs rl h k => ?_⟩
  refine l σ σd w _ _ rs rl h fun vs es w1 k1 rs1 r q => ?_
  match es, r, q with
  | [d], r, q =>
    obtain ⟨v, rfl, r0⟩ := reps1 r
    simp only at q
    obtain ⟨ds, e1, q⟩ := seqW_iff q
    · obtain ⟨a, vs, rfl, r1, h1⟩ := seqKind rs1 r0 e1
      refine ⟨a, isTup d, vs, rfl, h1, k _ w1 _ _ k1 rs1 (fun i w2 k2 rs2 c2 => ?_) q⟩
      have r2 := r0.keep rs1 k2
      obtain ⟨a', us, ea, r3, h3⟩ := seqKind rs2 r2 c2
      cases ea
      rw [enumD_len]
      refine ⟨fun hi => ?_, fun hi => ⟨us, h3, by rw [r3.len]; exact hi⟩⟩
      obtain ⟨x, hx, rx⟩ := r3.at (List.getElem?_eq_getElem hi)
      refine ⟨⟨us, x, h3, hx⟩, fun y H' ⟨T, x', e, hT, eH, f⟩ => ?_⟩
      have := f us h3
      rw [hx] at this
      cases this
      obtain ⟨w3, e4, e5, k3, rs3, r5⟩ := new_tup rs2 hT (Reps.cons (.int (i : Nat)) (.cons rx .nil))
      refine ⟨w3, by rw [e4, eH], e5, k3, rs3, _, enumD_get ds 0 i _ (List.getElem?_eq_getElem hi), ?_⟩
      rw [e, Int.zero_add]
      exact r5
def zipD : List D → List D → List D
  | x :: xs, y :: ys => .tup [x, y] :: zipD xs ys
  | _, _ => []
theorem zipD_len : ∀ (xs ys : List D), (zipD xs ys).length = min xs.length ys.length
  | [], ys => by rw [zipD]; simp; simp
  | x :: xs, [] => by rw [zipD]; simp; simp
  | x :: xs, y :: ys => by rw [zipD, List.length_cons, zipD_len xs ys, List.length_cons, List.length_cons]; omega
theorem zipD_get : ∀ (xs ys : List D) (i : Nat) (x y : D), xs[i]? = some x → ys[i]? = some y → (zipD xs ys)[i]? = some (.tup [x, y])
  | [], _, _, _, _, h, _ => by simp at h
  | _ :: _, [], _, _, _, _, h => by simp at h
  | x :: xs, y :: ys, 0, _, _, h1, h2 => by
    simp at h1 h2
    subst h1 h2
    rw [zipD]; simp
  | x :: xs, y :: ys, i + 1, _, _, h1, h2 => by
    rw [zipD, List.getElem?_cons_succ]
    exact zipD_get xs ys i _ _ (by simpa using h1) (by simpa using h2)
def izip (t : AD) : ID := fun σ S R => t σ S fun es S1 => match es with
  | [d, e] => seqW S1 d fun xs => seqW S1 e fun ys => R (zipD xs ys) (fun S2 => seqOf S2 d = some xs ∧ seqOf S2 e = some ys) S1
  | _ => False
theorem di_zip {a b : Expr} {t : AD} {p pos tpos : Pos} {elts : List Expr} {kk : Nat} (hg : Gl X "zip") (hm : X.mg "zip" = none) (ha : DA X [a, b] t) (hs : starEach [a, b] X.env = (false, eval a X.env) :: starEach [b] X.env) (hpl : (backTo pos (starEach [b] X.env)).any (·.1) = false) :
    DI X (.Tuple elts kk tpos) (.Call (.Name "zip" p) [a, b] [] pos) (izip t) := by
  obtain ⟨t', pa, l⟩ := ha
  refine ⟨_, pi_zipX hg hm pa hs hpl, fun σ σd w Rd R rs rl h k => ?_⟩
  refine l σ σd w _ _ rs rl h fun vs es w1 k1 rs1 r q => ?_
  match es, r, q with
  | [d, e], r, q =>
    obtain ⟨v, u, rfl, r0, r0'⟩ := reps2 r
    simp only at q
    obtain ⟨xs, e1, q⟩ := seqW_iff q
    obtain ⟨ys, e2, q⟩ := seqW_iff q
    · · obtain ⟨a, vs, rfl, r1, h1⟩ := seqKind rs1 r0 e1
        obtain ⟨c, us, rfl, r1', h1'⟩ := seqKind rs1 r0' e2
        refine ⟨a, c, isTup d, isTup e, vs, us, rfl, h1, h1', k _ w1 _ _ k1 rs1 (fun i w2 k2 rs2 c2 => ?_) q⟩
        obtain ⟨a', vs', ea, r3, h3⟩ := seqKind rs2 (r0.keep rs1 k2) c2.1
        obtain ⟨c', us', ec, r3', h3'⟩ := seqKind rs2 (r0'.keep rs1 k2) c2.2
        cases ea
        cases ec
        have l1 := r3.len
        have l2 := r3'.len
        rw [zipD_len]
        refine ⟨fun hi => ?_, fun hi => ⟨vs', us', h3, h3', by omega, by omega, by omega⟩⟩
        have hx1 : i < xs.length := by omega
        have hy1 : i < ys.length := by omega
        obtain ⟨x, hx, rx⟩ := r3.at (List.getElem?_eq_getElem hx1)
        obtain ⟨y, hy, ry⟩ := r3'.at (List.getElem?_eq_getElem hy1)
        refine ⟨⟨vs', us', x, y, h3, h3', hx, hy⟩, fun z H' ⟨T, x', y', e, hT, eH, f, g⟩ => ?_⟩
        have f1 := f vs' h3
        have g1 := g us' h3'
        rw [hx] at f1
        rw [hy] at g1
        cases f1
        cases g1
        obtain ⟨w3, e4, e5, k3, rs3, r5⟩ := new_tup rs2 hT (Reps.cons rx (.cons ry .nil))
        refine ⟨w3, by rw [e4, eH], e5, k3, rs3, _, zipD_get xs ys i _ _ (List.getElem?_eq_getElem hx1) (List.getElem?_eq_getElem hy1), ?_⟩
        rw [e]
        exact r5
end
/-! ### comprehensions -/
def wipeD (σ : SD) : List Nat → SD
  | [] => σ
  | v :: vs => (wipeD σ vs).set v none
theorem RL.wipe {K : PySem.W.Frag} {mg : Str → Option Value} {w : W3} {σ : L2.St} {σd : SD} (r : RL K mg w σ σd) : ∀ is : List Nat, RL K mg w (L2.wipe σ is) (wipeD σd is)
  | [] => r
  | i :: is => by
    have ih := r.wipe is
    unfold L2.wipe wipeD
    refine ⟨by simp [ih.len], fun j d h => ?_⟩
    by_cases hij : i = j
    · subst hij
      by_cases hl : i < (wipeD σd is).length
      · rw [List.getElem?_set_self hl] at h; cases h
      · rw [List.getElem?_eq_none (by simp; omega)] at h; cases h
    · rw [List.getElem?_set_ne hij] at h
      obtain ⟨v, e, q⟩ := ih.get j d h
      exact ⟨v, by rw [List.getElem?_set_ne hij]; exact e, q⟩
theorem wipe_get {σ : L2.St} (j : Nat) : ∀ is : List Nat, (L2.wipe σ is)[j]? = if j ∈ is ∧ j < σ.length then some none else σ[j]?
  | [] => by simp [L2.wipe]
  | i :: is => by
    have ih := wipe_get (σ := σ) j is
    unfold L2.wipe
    by_cases hij : i = j
    · subst hij
      by_cases hl : i < σ.length
      · rw [List.getElem?_set_self (by rw [wipe_length]; exact hl), if_pos ⟨List.mem_cons_self, hl⟩]
      · rw [List.getElem?_eq_none (by simp [wipe_length]; omega), if_neg (fun z => hl z.2), List.getElem?_eq_none (by omega)]
    · rw [List.getElem?_set_ne hij, ih]
      have e : (j ∈ i :: is ∧ j < σ.length) ↔ (j ∈ is ∧ j < σ.length) := by
        simp only [List.mem_cons]
        constructor
        · rintro ⟨h | h, l⟩
          · exact absurd h.symm hij
          · exact ⟨h, l⟩
        · rintro ⟨h, l⟩
          exact ⟨.inr h, l⟩
      by_cases hc : j ∈ is ∧ j < σ.length
      · rw [if_pos hc, if_pos (e.mpr hc)]
      · rw [if_neg hc, if_neg (fun z => hc (e.mp z))]
theorem wipe_agr {σ σ2 : L2.St} {is vs : List Nat} (a : Agr is (L2.wipe σ vs) σ2) (h : ∀ i ∈ is, i ∈ vs) : L2.wipe σ2 vs = L2.wipe σ vs := by
  have hl : σ2.length = σ.length := by rw [a.1, wipe_length]
  refine List.ext_getElem? fun j => ?_
  rw [wipe_get, wipe_get, hl]
  by_cases hc : j ∈ vs ∧ j < σ.length
  · rw [if_pos hc, if_pos hc]
  · rw [if_neg hc, if_neg hc]
    by_cases hl2 : j < σ.length
    · have hv : j ∉ vs := fun z => hc ⟨z, hl2⟩
      rw [a.2 j (fun z => hv (h j z)), wipe_get, if_neg hc]
    · rw [List.getElem?_eq_none (by omega), List.getElem?_eq_none (by omega)]
structure DTs (X : Cx) (ifs : List Expr) (t : BD) : Prop where
  ex : ∃ t', PTs X ifs t' ∧ ∀ σ σd w Qd Q, RS X.K X.mg w → RL X.K X.mg w σ σd → t σd w.S Qd → ThenB X w Qd Q → t' σ w.H Q
def tyes : BD := fun _ S Q => Q true S
section
variable {X : Cx}
theorem dts_nil : DTs X [] tyes := ⟨_, pts_nil, fun σ σd w Qd Q rs rl h k => k true w (.refl w) rs h⟩
theorem dts_one {c : Expr} {t : BD} (h : DT X c t) : DTs X [c] t := let ⟨t', p, l⟩ := h.ex; ⟨t', pts_one p, l⟩
theorem DTs.pt {ifs : List Expr} {t : BD} (h : DTs X ifs t) : PTs X ifs (liftT X.K X.mg t) := by
  obtain ⟨t', p, l⟩ := h
  refine ⟨fun pins s σ H Q I hw => ?_⟩
  obtain ⟨σd, w, Qd, rfl, rs, rl, h, k⟩ := hw
  exact p.run pins s σ w.H Q I (l σ σd w Qd Q rs rl h k)
def tcomp0 (g : GD) (tt : BD) (te : TD) (chk : Sto → Prop) (σ : SD) (Q : List D → Sto → Prop) : List D → List D → Sto → Prop
  | [], acc, S => chk S ∧ Q acc S
  | x :: r, acc, S => chk S ∧ g x σ S fun σ2 S2 => tt σ2 S2 fun b S3 => if b = true then te σ2 S3 fun y S4 => acc.length < sizeLine ∧ tcomp0 g tt te chk σ Q r (acc ++ [y]) S4 else tcomp0 g tt te chk σ Q r acc S3
@[irreducible] def tcomp (g : GD) (tt : BD) (te : TD) (chk : Sto → Prop) (σ : SD) (Q : List D → Sto → Prop) : List D → List D → Sto → Prop := tcomp0 g tt te chk σ Q
theorem tcomp_nil {g : GD} {tt : BD} {te : TD} {chk : Sto → Prop} {σ : SD} {Q : List D → Sto → Prop} {acc : List D} {S : Sto} : tcomp g tt te chk σ Q [] acc S = (chk S ∧ Q acc S) := by unfold tcomp; rfl
theorem tcomp_cons {g : GD} {tt : BD} {te : TD} {chk : Sto → Prop} {σ : SD} {Q : List D → Sto → Prop} {x : D} {r acc : List D} {S : Sto} : tcomp g tt te chk σ Q (x :: r) acc S =
    (chk S ∧ g x σ S fun σ2 S2 => tt σ2 S2 fun b S3 => if b = true then te σ2 S3 fun y S4 => acc.length < sizeLine ∧ tcomp g tt te chk σ Q r (acc ++ [y]) S4 else tcomp g tt te chk σ Q r acc S3) := by unfold tcomp; rfl
theorem tcomp_chk {g : GD} {tt : BD} {te : TD} {chk : Sto → Prop} {σ : SD} {Q : List D → Sto → Prop} {xs acc : List D} {S : Sto} (h : tcomp g tt te chk σ Q xs acc S) : chk S := by
  cases xs with
  | nil => rw [tcomp_nil] at h; exact h.1
  | cons x r => rw [tcomp_cons] at h; exact h.1
/-- the list that a comprehension fills: owned by it, told to no one -/
theorem hid_put {K : PySem.W.Frag} {mg : Str → Option Value} {w : W3} {p : Addr} {vs ws : List V} (rs : RS K mg w) (hp : w.H p = some (.lst vs)) (ho : w.O p) (hs : w.S p = none) :
    RS K mg ⟨upd w.H p (.lst ws), w.O, w.S⟩ ∧ ∀ v d, Rep K mg w.H w.O v d → Rep K mg (upd w.H p (.lst ws)) w.O v d := by
  have hT : ∀ b u us, w.H b = some u → u = .tup us ∨ (∃ ob, u = .frz ob (.tup us)) → upd w.H p (.lst ws) b = some u := fun b u us h e => by
    have hne : b ≠ p := fun z => by
      rw [z, hp] at h
      cases h
      rcases e with e | ⟨_, e⟩ <;> cases e
    rw [upd_ne hne]; exact h
  have hF : ∀ b ob us, w.H b = some (.frz ob (.lst us)) → upd w.H p (.lst ws) b = some (.frz ob (.lst us)) := fun b ob us h => by
    have hne : b ≠ p := fun z => by rw [z, hp] at h; cases h
    rw [upd_ne hne]; exact h
  have hL : ∀ b us, w.H b = some (.lst us) → ¬ w.O b → upd w.H p (.lst ws) b = some (.lst us) ∧ ¬ w.O b := fun b us h hb => by
    have hne : b ≠ p := fun z => hb (by rw [z]; exact ho)
    exact ⟨by rw [upd_ne hne]; exact h, hb⟩
  refine ⟨fun a m h => ?_, fun v d r => r.mono hT hF hL⟩
  have hne : a ≠ p := fun z => by
    have h' : w.S a = some m := h
    rw [z, hs] at h'; cases h'
  obtain ⟨q1, u, e, r⟩ := rs a m h
  exact ⟨q1, u, by show upd w.H p (.lst ws) a = _; rw [upd_ne hne]; exact e, r.mono hT hF hL⟩
theorem Rep.lessO {K : PySem.W.Frag} {mg : Str → Option Value} {H : Hp} {O O' : Own} (h : ∀ a, O' a → O a) {v : V} {d : D} (r : Rep K mg H O v d) : Rep K mg H O' v d :=
  r.mono (fun _ _ _ z _ => z) (fun _ _ _ z => z) fun _ _ z ho => ⟨z, fun q => ho (h _ q)⟩
theorem MoRep.lessO {K : PySem.W.Frag} {mg : Str → Option Value} {H : Hp} {O O' : Own} (h : ∀ a, O' a → O a) {m : MO} {o : HO} (r : MoRep K mg H O m o) : MoRep K mg H O' m o :=
  r.mono (fun _ _ _ z _ => z) (fun _ _ _ z => z) fun _ _ z ho => ⟨z, fun q => ho (h _ q)⟩
theorem Reps.lessO {K : PySem.W.Frag} {mg : Str → Option Value} {H : Hp} {O O' : Own} (h : ∀ a, O' a → O a) {vs : List V} {ds : List D} (r : Reps K mg H O vs ds) : Reps K mg H O' vs ds := ⟨r.len, fun i v d h1 h2 => (r.get i v d h1 h2).lessO h⟩
def tlc (wi : ID) (vs : List Nat) (g : GD) (tt : BD) (te : TD) : TD := fun σ S Q => wi σ S fun xs chk S1 => tcomp g tt te chk (wipeD σ vs) (fun acc S2 => Q (.lst acc) S2) xs [] S1
def tlcO (wi : ID) (vs : List Nat) (g : GD) (tt : BD) (te : TD) : TD := fun σ S Q => wi σ S fun xs chk S1 => tcomp g tt te chk (wipeD σ vs) (fun acc S2 => ∀ a, S2 a = none → Q (.ref a) (ups S2 a (.ml acc))) xs [] S1
/-- both at once: what is wanted of the filled list -/
theorem lc_ok {is vs : List Nat} {wi : ID} {g : GD} {tt : BD} {te : TD} {wi' : TI} (his : ∀ i ∈ is, i ∈ vs) (li : ∀ σ σd w (Rd : List D → (Sto → Prop) → Sto → Prop) (R : It → Hp → Prop), RS X.K X.mg w → RL X.K X.mg w σ σd → wi σd w.S Rd →
    (∀ J w' xs chk, Keep w w' → RS X.K X.mg w' → JOk X w' J xs chk → Rd xs chk w'.S → R J w'.H) → wi' σ w.H R) {Fin : List D → Sto → QD → Prop}
    (fin : ∀ (w0 w : W3) (p : Addr) (us : List V) (acc : List D) (Qd : QD) (Q : VK), w0.H p = none → Keep w0 w → RS X.K X.mg w → w.H p = some (.lst us) → w.O p → w.S p = none → Reps X.K X.mg w.H w.O us acc → Fin acc w.S Qd → ThenE X w0 Qd Q → Q (.ref p) w.H)
    (σ σd w Qd Q) (rs : RS X.K X.mg w) (rl : RL X.K X.mg w σ σd) (h : wi σd w.S fun xs chk S1 => tcomp g tt te chk (wipeD σd vs) (fun acc S2 => Fin acc S2 Qd) xs [] S1) (k : ThenE X w Qd Q) :
    tLc wi' (liftG X.K X.mg is g) (liftT X.K X.mg tt) (liftE X.K X.mg te) vs σ w.H Q := by
  refine li σ σd w _ _ rs rl h fun J w1 xs chk k1 rs1 J1 q => ?_
  intro p hp
  have rlw := (rl.keep rs k1).wipe vs
  have hOw : ∀ a, a ≠ p → ((w1.O a ∨ a = p) ↔ w1.O a) := fun a h => ⟨fun z => z.elim (fun y => y) fun y => absurd y h, .inl⟩
  have hsp : w1.S p = none := by
    cases e : w1.S p with
    | none => rfl
    | some m =>
      obtain ⟨_, u, e2, _⟩ := rs1 p m e
      rw [hp] at e2; cases e2
  refine ⟨fun i m H' => ∃ w' us acc, w'.H = H' ∧ Keep w1 w' ∧ RS X.K X.mg w' ∧ RL X.K X.mg w' (L2.wipe σ vs) (wipeD σd vs) ∧ w'.H p = some (.lst us) ∧ w'.O p ∧ w'.S p = none ∧ Reps X.K X.mg w'.H w'.O us acc ∧ i + m = xs.length ∧
      tcomp g tt te chk (wipeD σd vs) (fun acc S2 => Fin acc S2 Qd) (xs.drop i) acc w'.S,
    ⟨xs.length, ⟨upd w1.H p (.lst []), fun a => w1.O a ∨ a = p, w1.S⟩, [], [], rfl, Keep.new hp hOw, rs1.new hp hOw, rlw.keep rs1 (Keep.new hp hOw), upd_same, .inr rfl, hsp, .nil, by omega, q⟩, ?_⟩
  rintro i m _ ⟨w2, us, acc, rfl, k2, rs2, rl2, hp2, ho2, hs2, ra2, em, q2⟩
  obtain ⟨j1, j2⟩ := J1 i w2 k2 rs2 (tcomp_chk q2)
  by_cases hi : i < xs.length
  · obtain ⟨go, jy⟩ := j1 hi
    refine .inr ⟨go, fun H' => ∃ w' us acc, w'.H = H' ∧ Keep w1 w' ∧ RS X.K X.mg w' ∧ RL X.K X.mg w' (L2.wipe σ vs) (wipeD σd vs) ∧ w'.H p = some (.lst us) ∧ w'.O p ∧ w'.S p = none ∧ Reps X.K X.mg w'.H w'.O us acc ∧
      tcomp g tt te chk (wipeD σd vs) (fun acc S2 => Fin acc S2 Qd) (xs.drop (i + 1)) acc w'.S, fun H' ⟨w', us, acc, e, a1, a2, a3, a4, a5, a6, a7, a8⟩ => ⟨m - 1, by omega, w', us, acc, e, a1, a2, a3, a4, a5, a6, a7, by omega, a8⟩, fun x H' y => ?_⟩
    obtain ⟨w3, rfl, e3, k3, rs3, d, ed, rd⟩ := jy x H' y
    have ed' : xs.drop i = d :: xs.drop (i + 1) := by
      have hd : xs[i] = d := by
        rw [List.getElem?_eq_getElem hi] at ed
        exact Option.some.inj ed
      rw [← hd]
      exact List.drop_eq_getElem_cons hi
    rw [ed', tcomp_cons] at q2
    obtain ⟨_, q3⟩ := q2
    rw [← e3] at q3
    refine ⟨wipeD σd vs, d, w3, _, rfl, rs3, rl2.keep rs2 k3, rd, q3, fun σ4 σd4 w4 k4 rs4 rl4 a4 q4 => ?_⟩
    refine ⟨wipe_agr a4 his, σd4, w4, _, rfl, rs4, rl4, q4, fun b w5 k5 rs5 q5 => ?_⟩
    have k25 := k3.trans (k4.trans k5)
    cases b with
    | false =>
      refine iteF ?_
      rw [if_neg Bool.false_ne_true] at q5
      obtain ⟨b1, b2, b3⟩ := k25 p _ hp2 hs2
      exact ⟨w5, us, acc, rfl, k2.trans k25, rs5, rl2.keep rs2 k25, b1, b3.mpr ho2, b2, ra2.keep rs2 k25, q5⟩
    | true =>
      refine iteT ?_
      rw [if_pos rfl] at q5
      refine ⟨σd4, w5, _, rfl, rs5, rl4.keep rs4 k5, q5, fun yv yd w6 k6 rs6 ry q6 => ?_⟩
      have k26 := k25.trans k6
      obtain ⟨b1, b2, b3⟩ := k26 p _ hp2 hs2
      have ra6 := ra2.keep rs2 k26
      refine ⟨us, b1, by rw [ra6.len]; exact q6.1, ?_⟩
      obtain ⟨rs7, up⟩ := hid_put (ws := us ++ [yv]) rs6 b1 (b3.mpr ho2) b2
      have rl6 := rl2.keep rs2 k26
      refine ⟨⟨upd w6.H p (.lst (us ++ [yv])), w6.O, w6.S⟩, us ++ [yv], acc ++ [yd], rfl, fun a o e hs => ?_, rs7, ⟨rl6.len, fun j d h => let ⟨v, e, r⟩ := rl6.get j d h; ⟨v, e, up v d r⟩⟩, upd_same, b3.mpr ho2, b2, ?_, q6.2⟩
      · obtain ⟨c1, c2, c3⟩ := (k2.trans k26) a o e hs
        have hne : a ≠ p := ne_of_none e hp
        exact ⟨by show upd w6.H p _ a = _; rw [upd_ne hne]; exact c1, c2, c3⟩
      · have r8 := ra6.append (Reps.cons ry .nil)
        exact ⟨r8.len, fun j v d h1 h2 => up v d (r8.get j v d h1 h2)⟩
  · have e0 : xs.drop i = [] := List.drop_eq_nil_iff.mpr (by omega)
    rw [e0, tcomp_nil] at q2
    exact .inl ⟨j2 (by omega), fin w1 w2 p us acc Qd Q hp k2 rs2 hp2 ho2 hs2 ra2 q2.2 (k.keep k1)⟩
theorem fin_lst (w0 w : W3) (p : Addr) (us : List V) (acc : List D) (Qd : QD) (Q : VK) (h0 : w0.H p = none) (k : Keep w0 w) (rs : RS X.K X.mg w) (hp : w.H p = some (.lst us)) (ho : w.O p) (hs : w.S p = none) (r : Reps X.K X.mg w.H w.O us acc)
    (q : Qd (.lst acc) w.S) (t : ThenE X w0 Qd Q) : Q (.ref p) w.H := by
  have hl : ∀ a, (w.O a ∧ a ≠ p) → w.O a := fun a z => z.1
  refine t (.ref p) (.lst acc) ⟨w.H, fun a => w.O a ∧ a ≠ p, w.S⟩ (fun a o e hs0 => ?_) (fun a m e => ?_) ?_ q
  · obtain ⟨c1, c2, c3⟩ := k a o e hs0
    have hne : a ≠ p := ne_of_none e h0
    exact ⟨c1, c2, ⟨fun z => c3.mp z.1, fun z => ⟨c3.mpr z, hne⟩⟩⟩
  · have hne : a ≠ p := fun z => by
      have e' : w.S a = some m := e
      rw [z, hs] at e'; cases e'
    obtain ⟨q1, u, e, r⟩ := rs a m e
    exact ⟨⟨q1, hne⟩, u, e, r.lessO hl⟩
  · have r' := r.lessO hl
    exact .lst hp (fun z => z.2 rfl) r'.len r'.get
theorem fin_own (w0 w : W3) (p : Addr) (us : List V) (acc : List D) (Qd : QD) (Q : VK) (h0 : w0.H p = none) (k : Keep w0 w) (rs : RS X.K X.mg w) (hp : w.H p = some (.lst us)) (ho : w.O p) (hs : w.S p = none) (r : Reps X.K X.mg w.H w.O us acc)
    (q : ∀ a, w.S a = none → Qd (.ref a) (ups w.S a (.ml acc))) (t : ThenE X w0 Qd Q) : Q (.ref p) w.H := by
  refine t (.ref p) (.ref p) ⟨w.H, w.O, ups w.S p (.ml acc)⟩ (fun a o e hs0 => ?_) (fun a m e => ?_) (.ref p) (q p hs)
  · obtain ⟨c1, c2, c3⟩ := k a o e hs0
    have hne : a ≠ p := ne_of_none e h0
    exact ⟨c1, by show ups w.S p _ a = none; rw [ups_ne hne]; exact c2, c3⟩
  · by_cases hne : a = p
    · subst hne
      have e' : ups w.S a (.ml acc) a = some m := e
      rw [ups_same] at e'
      cases e'
      exact ⟨ho, .lst us, hp, .ml r⟩
    · have e' : ups w.S p (.ml acc) a = some m := e
      rw [ups_ne hne] at e'
      exact rs a m e'
variable {elt tg iter : Expr} {ifs : List Expr} {scope : Scope} {own : List (Str × Nat)} {is : List Nat} {pos : Pos} {wi : ID} {g : GD} {tt : BD} {te : TD}
theorem de_lc (hc : X.calm = true) (hN : X.N.Nodup) (hi : DI X tg iter wi) (ok : BlkOk X.N X.env.scope scope own) (his : ∀ i ∈ is, i ∈ own.map (·.2))
    (hg : ∀ (s : Shared) (H : Hp) (C : Addr) (cl : List (Str × Addr)) (fp : List Addr), DG (X.blk s H scope (compEnvC scope cl C X.env) fp) tg is g) (ht : ∀ (s : Shared) (H : Hp) (C : Addr) (cl : List (Str × Addr)) (fp : List Addr), DTs (X.blk s H scope (compEnvC scope cl C X.env) fp) ifs tt)
    (he : ∀ (s : Shared) (H : Hp) (C : Addr) (cl : List (Str × Addr)) (fp : List Addr), DE (X.blk s H scope (compEnvC scope cl C X.env) fp) elt te) (hs : ∀ x, foldedSetIterable iter X.env x = pure x) :
    DE X (.ListComp elt [⟨tg, iter, ifs, 0⟩] scope pos) (tlc wi (own.map (·.2)) g tt te) := by
  obtain ⟨wi', pi, li⟩ := hi
  refine ⟨_, pe_lc (g := liftG X.K X.mg is g) (tt := liftT X.K X.mg tt) (te := liftE X.K X.mg te) hc hN pi ok (fun s H C cl fp => (hg s H C cl fp).pg) (fun s H C cl fp => (ht s H C cl fp).pt) (fun s H C cl fp => (he s H C cl fp).pe) hs, fun σ σd w Qd Q rs rl h k => ?_⟩
  exact lc_ok (Fin := fun acc S Q => Q (.lst acc) S) his li fin_lst σ σd w Qd Q rs rl h k
theorem de_lcO (hc : X.calm = true) (hN : X.N.Nodup) (hi : DI X tg iter wi) (ok : BlkOk X.N X.env.scope scope own) (his : ∀ i ∈ is, i ∈ own.map (·.2))
    (hg : ∀ (s : Shared) (H : Hp) (C : Addr) (cl : List (Str × Addr)) (fp : List Addr), DG (X.blk s H scope (compEnvC scope cl C X.env) fp) tg is g) (ht : ∀ (s : Shared) (H : Hp) (C : Addr) (cl : List (Str × Addr)) (fp : List Addr), DTs (X.blk s H scope (compEnvC scope cl C X.env) fp) ifs tt)
    (he : ∀ (s : Shared) (H : Hp) (C : Addr) (cl : List (Str × Addr)) (fp : List Addr), DE (X.blk s H scope (compEnvC scope cl C X.env) fp) elt te) (hs : ∀ x, foldedSetIterable iter X.env x = pure x) :
    DE X (.ListComp elt [⟨tg, iter, ifs, 0⟩] scope pos) (tlcO wi (own.map (·.2)) g tt te) := by
  obtain ⟨wi', pi, li⟩ := hi
  refine ⟨_, pe_lc (g := liftG X.K X.mg is g) (tt := liftT X.K X.mg tt) (te := liftE X.K X.mg te) hc hN pi ok (fun s H C cl fp => (hg s H C cl fp).pg) (fun s H C cl fp => (ht s H C cl fp).pt) (fun s H C cl fp => (he s H C cl fp).pe) hs, fun σ σd w Qd Q rs rl h k => ?_⟩
  exact lc_ok (Fin := fun acc S Q => ∀ a, S a = none → Q (.ref a) (ups S a (.ml acc))) his li fin_own σ σd w Qd Q rs rl h k
/-- y = [..] on one line, y a local -/
theorem ds_setLc {i : Nat} {y : Str} {py spos : Pos} (hc : X.calm = true) (hN : X.N.Nodup) (hy : X.N[i]? = some y) (hyl : X.env.scope.names.lookup y = some .local)
    (hsw : swapsWith (.ListComp elt [⟨tg, iter, ifs, 0⟩] scope pos) (some (.Name y py)) spos.line X.env = pure true) (hi : DI X tg iter wi) (ok : BlkOk X.N X.env.scope scope own) (his : ∀ i ∈ is, i ∈ own.map (·.2))
    (hg : ∀ (s : Shared) (H : Hp) (C : Addr) (cl : List (Str × Addr)) (fp : List Addr), DG (X.blk s H scope (compEnvC scope cl C X.env) fp) tg is g) (ht : ∀ (s : Shared) (H : Hp) (C : Addr) (cl : List (Str × Addr)) (fp : List Addr), DTs (X.blk s H scope (compEnvC scope cl C X.env) fp) ifs tt)
    (he : ∀ (s : Shared) (H : Hp) (C : Addr) (cl : List (Str × Addr)) (fp : List Addr), DE (X.blk s H scope (compEnvC scope cl C X.env) fp) elt te) (hs : ∀ x, foldedSetIterable iter X.env x = pure x) :
    DS X (.Assign [.Name y py] (.ListComp elt [⟨tg, iter, ifs, 0⟩] scope pos) spos) (sasg (tlc wi (own.map (·.2)) g tt te) (gname i)) := by
  obtain ⟨wi', pi, li⟩ := hi
  refine ⟨_, ps_setLc (g := liftG X.K X.mg is g) (tt := liftT X.K X.mg tt) (te := liftE X.K X.mg te) hc hN hy hyl hsw pi ok (fun s H C cl fp => (hg s H C cl fp).pg) (fun s H C cl fp => (ht s H C cl fp).pt) (fun s H C cl fp => (he s H C cl fp).pe) hs, fun σ σd w Dd D rs rl h k => ?_⟩
  refine lc_ok (Qd := fun d S1 => gname i d σd S1 Dd.nx) (Q := fun x H1 => L2.gName i x σ H1 D.nx) (Fin := fun acc S Q => Q (.lst acc) S) his li fin_lst σ σd w rs rl h fun v d w1 k1 rs1 r q => ?_
  exact k.nx _ _ w1 k1 rs1 ((rl.keep rs k1).set r i) q
theorem ds_setLcO {i : Nat} {y : Str} {py spos : Pos} (hc : X.calm = true) (hN : X.N.Nodup) (hy : X.N[i]? = some y) (hyl : X.env.scope.names.lookup y = some .local)
    (hsw : swapsWith (.ListComp elt [⟨tg, iter, ifs, 0⟩] scope pos) (some (.Name y py)) spos.line X.env = pure true) (hi : DI X tg iter wi) (ok : BlkOk X.N X.env.scope scope own) (his : ∀ i ∈ is, i ∈ own.map (·.2))
    (hg : ∀ (s : Shared) (H : Hp) (C : Addr) (cl : List (Str × Addr)) (fp : List Addr), DG (X.blk s H scope (compEnvC scope cl C X.env) fp) tg is g) (ht : ∀ (s : Shared) (H : Hp) (C : Addr) (cl : List (Str × Addr)) (fp : List Addr), DTs (X.blk s H scope (compEnvC scope cl C X.env) fp) ifs tt)
    (he : ∀ (s : Shared) (H : Hp) (C : Addr) (cl : List (Str × Addr)) (fp : List Addr), DE (X.blk s H scope (compEnvC scope cl C X.env) fp) elt te) (hs : ∀ x, foldedSetIterable iter X.env x = pure x) :
    DS X (.Assign [.Name y py] (.ListComp elt [⟨tg, iter, ifs, 0⟩] scope pos) spos) (sasg (tlcO wi (own.map (·.2)) g tt te) (gname i)) := by
  obtain ⟨wi', pi, li⟩ := hi
  refine ⟨_, ps_setLc (g := liftG X.K X.mg is g) (tt := liftT X.K X.mg tt) (te := liftE X.K X.mg te) hc hN hy hyl hsw pi ok (fun s H C cl fp => (hg s H C cl fp).pg) (fun s H C cl fp => (ht s H C cl fp).pt) (fun s H C cl fp => (he s H C cl fp).pe) hs, fun σ σd w Dd D rs rl h k => ?_⟩
  refine lc_ok (Qd := fun d S1 => gname i d σd S1 Dd.nx) (Q := fun x H1 => L2.gName i x σ H1 D.nx) (Fin := fun acc S Q => ∀ a, S a = none → Q (.ref a) (ups S a (.ml acc))) his li fin_own σ σd w rs rl h fun v d w1 k1 rs1 r q => ?_
  exact k.nx _ _ w1 k1 rs1 ((rl.keep rs k1).set r i) q
end
/-! ### promises -/
abbrev DSp := List D → Sto → QD → Prop
def liftSp (K : PySem.W.Frag) (mg : Str → Option Value) (n : Nat) (sp : DSp) : Sp := fun vs H Q _ => ∃ ds w Qd, w.H = H ∧ RS K mg w ∧ Reps K mg w.H w.O vs ds ∧ ds.length = n ∧ sp ds w.S Qd ∧ ∀ v d w', Keep w w' → RS K mg w' → Rep K mg w'.H w'.O v d → Qd d w'.S → Q v w'.H
theorem liftSp_len {K : PySem.W.Frag} {mg : Str → Option Value} {n : Nat} {sp : DSp} {vs : List V} {H : Hp} {Q : VK} {E : XK} (h : liftSp K mg n sp vs H Q E) : vs.length = n := by
  obtain ⟨ds, w, Qd, _, _, r, e, _⟩ := h
  rw [r.len]; exact e
/-- a def keeps its promise; it stands under its name -/
structure FnD (P : Program) (w : World) (K : PySem.W.Frag) (mg : Str → Option Value) (base : Heap) (k : Nat) (x : Str) (n : Nat) (sp : DSp) : Prop where
  ex : ∃ f fd ps, FnOk P w K mg base CX0 k f fd ps (liftSp K mg n sp) ∧ mg x = some (.ref f) ∧ PySem.W.keepIn K (.ref f) = true ∧ Binds K fd ps []
theorem FnD.mono {P : Program} {w : World} {K : PySem.W.Frag} {mg : Str → Option Value} {base : Heap} {j k : Nat} {x : Str} {n : Nat} {sp : DSp} (F : FnD P w K mg base j x n sp) (h : j ≤ k) : FnD P w K mg base k x n sp :=
  let ⟨f, fd, ps, a, b, c, d⟩ := F.ex
  ⟨f, fd, ps, a.mono h, b, c, d⟩
section
variable {X : Cx} {k n : Nat} {x : Str} {sp : DSp} {p pos : Pos} {e : Expr} {es : List Expr} {t : AD}
def tcall (n : Nat) (sp : DSp) (t : AD) : TD := fun σ S Q => t σ S fun ds S1 => ds.length = n ∧ sp ds S1 Q
theorem call_ok {t' : TA} (l : ∀ σ σd w Qd Q, RS X.K X.mg w → RL X.K X.mg w σ σd → t σd w.S Qd → ThenA X w Qd Q → t' σ w.H Q)
    (σ σd w Qd Q) (rs : RS X.K X.mg w) (rl : RL X.K X.mg w σ σd) (h : tcall n sp t σd w.S Qd) (k : ThenE X w Qd Q) : tCall (liftSp X.K X.mg n sp) [] E0 t' σ w.H Q := by
  refine l σ σd w _ _ rs rl h fun vs ds w1 k1 rs1 r1 q => ?_
  rw [List.append_nil]
  exact ⟨ds, w1, Qd, rfl, rs1, r1, q.1, q.2, k.keep k1⟩
theorem de_call (F : FnD X.prog X.w X.K X.mg X.base k x n sp) (hr : Room k X.A) (hg : Gl X x) (ha : DA X (e :: es) t) (hdb : (x == ("__debug__" : Str)) = false)
    (he : starEach (e :: es) X.env = (false, eval e X.env) :: starEach es X.env) (hpl : (backTo pos (starEach es X.env)).any (·.1) = false) : DE X (.Call (.Name x p) (e :: es) [] pos) (tcall n sp t) := by
  obtain ⟨f, fd, ps, F, hm, hk, hb⟩ := F
  obtain ⟨t', pa, l⟩ := ha
  exact ⟨_, pe_call F hr hg hm hk hb .nil pass0 pa hdb he hpl, call_ok l⟩
theorem de_call0 (F : FnD X.prog X.w X.K X.mg X.base k x n sp) (hr : Room k X.A) (hg : Gl X x) (hdb : (x == ("__debug__" : Str)) = false) : DE X (.Call (.Name x p) [] [] pos) (tcall n sp tnil) := by
  obtain ⟨f, fd, ps, F, hm, hk, hb⟩ := F
  refine ⟨_, pe_call0 F hr hg hm hk hb .nil pass0 hdb, fun σ σd w Qd Q rs rl h k => ?_⟩
  exact call_ok (t' := tNil) (t := tnil) (fun σ σd w Qd Q rs rl h k => k [] [] w (.refl w) rs .nil h) σ σd w Qd Q rs rl h k
/-- a local name that holds a def -/
def tcallv (i : Nat) (Γ : Str → Option (Nat × DSp)) (t : AD) : TD := fun σ S Q => match lk σ i with
  | some (.fn x) => match Γ x with
    | some (n, sp) => t σ S fun ds S1 => ds.length = n ∧ sp ds S1 Q
    | none => False
  | _ => False
theorem de_callv {i : Nat} {Γ : Str → Option (Nat × DSp)} (F : ∀ y n sp, Γ y = some (n, sp) → FnD X.prog X.w X.K X.mg X.base k y n sp) (hr : Room k X.A) (hN : X.N[i]? = some x) (hv : Vis X.env.scope x) (ha : DA X (e :: es) t)
    (hdb : (x == ("__debug__" : Str)) = false) (hcd : (x == ("__classdict__" : Str)) = false) (he : starEach (e :: es) X.env = (false, eval e X.env) :: starEach es X.env) (hpl : (backTo pos (starEach es X.env)).any (·.1) = false) :
    DE X (.Call (.Name x p) (e :: es) [] pos) (tcallv i Γ t) := by
  obtain ⟨t', pa, l⟩ := ha
  refine ⟨fun σ H Q => ∃ f sp, tCallL i f sp [] E0 t' σ H Q ∧ ∃ y n dsp, Γ y = some (n, dsp) ∧ X.mg y = some (.ref f) ∧ sp = liftSp X.K X.mg n dsp, ⟨fun pins s σ H Q I h => ?_⟩, fun σ σd w Qd Q rs rl h k => ?_⟩
  · obtain ⟨f, sp, h, y, n, dsp, hy, hf, rfl⟩ := h
    obtain ⟨f', fd, ps, F', hm, hk, hb⟩ := F y n dsp hy
    rw [hf] at hm
    cases hm
    exact (pe_callL (i := i) F' hr hN hv hk hb .nil pass0 pa hdb hcd he hpl).run pins s σ H Q I h
  · unfold tcallv at h
    cases e1 : lk σd i with
    | none => rw [e1] at h; exact h.elim
    | some d =>
      rw [e1] at h
      cases d with
      | fn y =>
        obtain ⟨v, hv, rv⟩ := rl.get i _ (lk_get e1)
        cases rv with
        | fn hf =>
          simp only at h
          cases e2 : Γ y with
          | none => rw [e2] at h; exact h.elim
          | some nd =>
            obtain ⟨n, dsp⟩ := nd
            rw [e2] at h
            refine ⟨_, _, ⟨hv, ?_⟩, y, n, dsp, e2, hf, rfl⟩
            refine l σ σd w _ _ rs rl h fun vs ds w1 k1 rs1 r1 q => ?_
            rw [List.append_nil]
            exact ⟨ds, w1, Qd, rfl, rs1, r1, q.1, q.2, k.keep k1⟩
      | _ => exact h.elim
end
end PyD

set_option Elab.async false
set_option linter.all false
set_option maxRecDepth 100000
set_option maxHeartbeats 2000000
/-! PyDG: any and all over anything flat, calls by keywords, what a def's end hands back, the rule for a def. -/
namespace PyD
open PySem PySem.Spec PyProof.Rows L2

/-! ### any, all -/
def truV0 : V → Option Bool
  | .non => some false
  | .bl b => some b
  | .int i => some (i != 0)
  | _ => none
def truD0 : D → Option Bool
  | .non => some false
  | .bl b => some b
  | .int i => some (i != 0)
  | _ => none
def trusD : List D → Option (List Bool)
  | [] => some []
  | d :: r => match truD0 d, trusD r with
    | some k, some ks => some (k :: ks)
    | _, _ => none
theorem trusD_bl : ∀ bs : List Bool, trusD (bs.map D.bl) = some bs
  | [] => rfl
  | b :: bs => by
    show (match truD0 (D.bl b), trusD (bs.map D.bl) with | some k, some ks => some (k :: ks) | _, _ => none) = _
    rw [trusD_bl bs]; rfl
theorem trusD_ok {K : PySem.W.Frag} {mg : Str → Option Value} {H : Hp} {O : Own} : ∀ {ds : List D} {vs : List V} {ks : List Bool}, Reps K mg H O vs ds → trusD ds = some ks → vs.map truV0 = ks.map some
  | [], vs, ks, r, h => by
    cases h
    rw [r.nil_iff]; rfl
  | d :: ds, vs, ks, r, h => by
    obtain ⟨v, us, rfl, r1, r2⟩ := r.cons_iff
    rw [trusD] at h
    cases e1 : truD0 d with
    | none => rw [e1] at h; cases h
    | some k =>
      cases e2 : trusD ds with
      | none => rw [e1, e2] at h; cases h
      | some js =>
        rw [e1, e2] at h
        cases h
        rw [List.map_cons, List.map_cons, trusD_ok r2 e2]
        congr 1
        cases r1 <;> first | (cases e1; rfl) | exact e1
theorem truth_at {prog : Program} {w : World} {A : Around} {xs : List V} {its : List Value} {ks : List Bool} (r : Vals xs its) (e : xs.map truV0 = ks.map some) :
    TruthOf prog w A (fun i v => its.toArray[i]? = some v) (fun i => ks.getD i false) := fun i v s Q E hv hq => by
  have hv' : its[i]? = some v := by simpa using hv
  have hi : i < xs.length := by
    have := (List.getElem?_eq_some_iff.mp hv').1
    have := r.length
    omega
  obtain ⟨u, hu, ru⟩ := r.get (List.getElem?_eq_getElem hi)
  rw [hv'] at hu
  cases hu
  have hk : truV0 xs[i] = ks[i]? := by
    have h1 : (xs.map truV0)[i]? = (ks.map some)[i]? := by rw [e]
    rw [List.getElem?_map, List.getElem?_map, List.getElem?_eq_getElem hi] at h1
    cases h2 : ks[i]? with
    | none => rw [h2] at h1; cases h1
    | some k => rw [h2] at h1; exact Option.some.inj h1
  have hg : ∀ k, ks[i]? = some k → ks.getD i false = k := fun k h => by rw [List.getD_eq_getElem?_getD, h] <;> rfl
  have hq' : Q (ks.getD i false) s := hq
  cases hx : xs[i] with
  | non => rw [hx] at hk ru; cases ru; rw [hg _ hk.symm] at hq'; exact truthy_none hq'
  | bl b => rw [hx] at hk ru; cases ru; rw [hg _ hk.symm] at hq'; exact wpAny_truthy_bool hq'
  | int n => rw [hx] at hk ru; obtain ⟨t, rfl⟩ := ru; rw [hg _ hk.symm] at hq'; exact PySem.P.truthy_int hq'
  | _ =>
    exfalso
    rw [hx] at hk
    have hl : ks.length = xs.length := by
      have := congrArg List.length e
      rw [List.length_map, List.length_map] at this
      exact this.symm
    rw [List.getElem?_eq_getElem (by omega)] at hk
    cases hk
theorem iterX_any {prog : Program} {w : World} {A : Around} {E : Value → Shared → Prop} {s : Shared} {b : Bool} {l : Addr} {items : Array Value} {Q : Value → Shared → Prop} (hl : IsX s.heap b l items)
    (h : ∀ s₂ : Shared, s₂ = { s with heap := s.heap.push (begX b l) } → (ItrX s₂.heap b s.heap.objs.size l 0 ∧ IsX s₂.heap b l items) → l ≠ s.heap.objs.size → Q (.ref s.heap.objs.size) s₂) : wpAny (model prog w) A (pyIter (.ref l)) Q E s := by
  have hlt := hl.lt
  have B := beginsX b l items
  exact B.iter prog w A E s Q hl (h _ rfl ⟨begX_it (Heap.get?_push_size _ B.free), B.keeps _ _ hl fun c o e => Heap.get?_push_of_some _ e⟩ (Nat.ne_of_lt hlt))
section
variable {X : Cx}
def rAnyX (K : PySem.W.Frag) (f : List Bool → Bool) : List V → Hp → VK → Prop := fun vs H Q => ∃ (a : Addr) (b : Bool) (xs : List V) (ks : List Bool), vs = [V.ref a] ∧ SqX K H b a xs ∧ xs.map truV0 = ks.map some ∧ Q (.bl (f ks)) H
theorem cr_anyX (hc : X.calm = true) : CallR X (.builtin "any") (rAnyX X.K fun ks => ks.any id) := by
  intro pins s σ H vs us Q I r h
  obtain ⟨a, b, xs, ks, rfl, hs, ek, q⟩ := h
  obtain ⟨its, rv, hl, _⟩ := seqX I hs
  rw [Vals.ref1 r]
  have hlen : its.toArray.size = ks.length := by
    have h1 := congrArg List.length ek
    rw [List.length_map, List.length_map] at h1
    rw [List.size_toArray, ← rv.length, h1]
  refine call_any_walk (iterX_any hl fun s₂ e2 st hne => ?_)
  subst e2
  cases b with
  | false =>
    refine ⟨_, _, _, _, _, _, _, rfl, Walks.list (A := X.A.in1) (I.ok.hd hc) _ a hne its.toArray, st, truth_at rv ek, fun h' tk hk => ?_⟩
    refine ⟨.bl _, H, I.kept fun b o eo => hk b o (fun hmem => ?_) (Heap.get?_push_of_some _ eo), ?_, q⟩
    · rcases List.mem_cons.mp hmem with e1 | hmem
      · exact absurd (e1 ▸ Heap.lt_size eo) (Nat.lt_irrefl _)
      · cases hmem
    · show Value.bool ((List.range its.toArray.size).any fun i => ks.getD i false) = Value.bool (ks.any id)
      rw [hlen, L2.any_range]
  | true =>
    refine ⟨_, _, _, _, _, _, _, rfl, Walks.tuple (A := X.A.in1) (I.ok.hd hc) _ a hne its.toArray, st, truth_at rv ek, fun h' tk hk => ?_⟩
    refine ⟨.bl _, H, I.kept fun b o eo => hk b o (fun hmem => ?_) (Heap.get?_push_of_some _ eo), ?_, q⟩
    · rcases List.mem_cons.mp hmem with e1 | hmem
      · exact absurd (e1 ▸ Heap.lt_size eo) (Nat.lt_irrefl _)
      · cases hmem
    · show Value.bool ((List.range its.toArray.size).any fun i => ks.getD i false) = Value.bool (ks.any id)
      rw [hlen, L2.any_range]
theorem cr_allX (hc : X.calm = true) : CallR X (.builtin "all") (rAnyX X.K fun ks => ks.all id) := by
  intro pins s σ H vs us Q I r h
  obtain ⟨a, b, xs, ks, rfl, hs, ek, q⟩ := h
  obtain ⟨its, rv, hl, _⟩ := seqX I hs
  rw [Vals.ref1 r]
  have hlen : its.toArray.size = ks.length := by
    have h1 := congrArg List.length ek
    rw [List.length_map, List.length_map] at h1
    rw [List.size_toArray, ← rv.length, h1]
  refine call_all_walk (iterX_any hl fun s₂ e2 st hne => ?_)
  subst e2
  cases b with
  | false =>
    refine ⟨_, _, _, _, _, _, _, rfl, Walks.list (A := X.A.in1) (I.ok.hd hc) _ a hne its.toArray, st, truth_at rv ek, fun h' tk hk => ?_⟩
    refine ⟨.bl _, H, I.kept fun b o eo => hk b o (fun hmem => ?_) (Heap.get?_push_of_some _ eo), ?_, q⟩
    · rcases List.mem_cons.mp hmem with e1 | hmem
      · exact absurd (e1 ▸ Heap.lt_size eo) (Nat.lt_irrefl _)
      · cases hmem
    · show Value.bool ((List.range its.toArray.size).all fun i => ks.getD i false) = Value.bool (ks.all id)
      rw [hlen, L2.all_range]
  | true =>
    refine ⟨_, _, _, _, _, _, _, rfl, Walks.tuple (A := X.A.in1) (I.ok.hd hc) _ a hne its.toArray, st, truth_at rv ek, fun h' tk hk => ?_⟩
    refine ⟨.bl _, H, I.kept fun b o eo => hk b o (fun hmem => ?_) (Heap.get?_push_of_some _ eo), ?_, q⟩
    · rcases List.mem_cons.mp hmem with e1 | hmem
      · exact absurd (e1 ▸ Heap.lt_size eo) (Nat.lt_irrefl _)
      · cases hmem
    · show Value.bool ((List.range its.toArray.size).all fun i => ks.getD i false) = Value.bool (ks.all id)
      rw [hlen, L2.all_range]
@[irreducible] def dAnyX (f : List Bool → Bool) : List D → Sto → QD → Prop
  | [x], S, Q => match seqOf S x with
    | some ds => match trusD ds with
      | some ks => Q (.bl (f ks)) S
      | none => False
    | none => False
  | _, _, _ => False
theorem cd_anyX {id : String} {f : List Bool → Bool} (h : CallR X (.builtin id) (rAnyX X.K f)) : CallD X (.builtin id) (dAnyX f) := by
  refine ⟨_, h, fun xs ds w Qd Q rs rx q k => ?_⟩
  unfold dAnyX at q
  split at q
  · rename_i d S Q'
    obtain ⟨v, rfl, r⟩ := reps1 rx
    split at q
    · rename_i es e1
      split at q
      · rename_i ks e2
        obtain ⟨a, vs, rfl, r1, hk⟩ := seqKind rs r e1
        exact ⟨a, _, vs, ks, rfl, hk, trusD_ok r1 e2, k _ _ w (.refl w) rs (.bl _) q⟩
      · exact q.elim
    · exact q.elim
  · exact q.elim
/-! ### calls by keywords alone -/
def pick {α : Type} (perm : List Nat) (ws : List α) : List α := perm.filterMap fun i => ws[i]?
def gK (m : Nat) (perm : List Nat) {α : Type} (us ws : List α) : List α := match us with
  | [] => if ws.length = m then pick perm ws else []
  | _ => []
theorem pick_rel {F : V → Value → Prop} {vs : List V} {us : List Value} (r : Paired F vs us) (g : ∀ {i : Nat} {x : V}, vs[i]? = some x → ∃ u, us[i]? = some u ∧ F x u) (hl : vs.length = us.length) : ∀ perm : List Nat, Paired F (pick perm vs) (pick perm us)
  | [] => .nil
  | i :: p => by
    have ih := pick_rel r g hl p
    unfold pick at ih ⊢
    rw [List.filterMap_cons, List.filterMap_cons]
    cases e : vs[i]? with
    | none =>
      have : us[i]? = none := by
        have := List.getElem?_eq_none_iff.mp e
        exact List.getElem?_eq_none (by omega)
      rw [this]
      exact ih
    | some v =>
      obtain ⟨u, hu, ru⟩ := g e
      rw [hu]
      exact .cons ru ih
theorem gK_rel {m : Nat} {perm : List Nat} {vs : List V} {us : List Value} {zs : List V} {ws : List Value} (r : Vals vs us) (q : Vals zs ws) : Vals (gK m perm vs zs) (gK m perm us ws) := by
  cases r with
  | nil =>
    unfold gK
    simp only
    rw [q.length]
    split
    · exact pick_rel q (fun e => q.get e) q.length perm
    · exact .nil
  | cons _ _ => exact .nil
theorem kbinds_of {K : PySem.W.Frag} {fd : FuncData} {ps ks : List Str} {perm : List Nat} (hp : ps ≠ []) (h : ∀ ws : List Value, ws.length = ks.length → bindArgs fd ⟨[], ks.zip ws⟩ = pure (ps.zip (pick perm ws))) : KBinds K fd ps ks (gK ks.length perm) (gK ks.length perm) := by
  refine ⟨fun s us ws _ hl => ?_, fun r q => gK_rel r q⟩
  cases us with
  | cons u r =>
    have : (0 : Nat) = ps.length := hl
    exact absurd (List.length_eq_zero_iff.mp this.symm) hp
  | nil =>
    have e : gK ks.length perm [] ws = if ws.length = ks.length then pick perm ws else [] := rfl
    rw [e] at hl ⊢
    by_cases hw : ws.length = ks.length
    · rw [if_pos hw]
      exact .of_eq (h ws hw)
    · rw [if_neg hw] at hl
      exact absurd (List.length_eq_zero_iff.mp hl.symm) hp
/-- a def that is called by these keywords alone -/
structure FnK (P : Program) (w : World) (K : PySem.W.Frag) (mg : Str → Option Value) (base : Heap) (k : Nat) (x : Str) (n : Nat) (ks : List Str) (perm : List Nat) (sp : DSp) : Prop where
  ex : ∃ f fd ps, FnOk P w K mg base CX0 k f fd ps (liftSp K mg n sp) ∧ mg x = some (.ref f) ∧ PySem.W.keepIn K (.ref f) = true ∧ KBinds K fd ps ks (gK ks.length perm) (gK ks.length perm)
theorem FnK.mono {P : Program} {w : World} {K : PySem.W.Frag} {mg : Str → Option Value} {base : Heap} {j k : Nat} {x : Str} {n : Nat} {ks : List Str} {perm : List Nat} {sp : DSp} (F : FnK P w K mg base j x n ks perm sp) (h : j ≤ k) : FnK P w K mg base k x n ks perm sp :=
  let ⟨f, fd, ps, a, b, c, d⟩ := F.ex
  ⟨f, fd, ps, a.mono h, b, c, d⟩
structure DK (X : Cx) (kws : List Keyword) (t : AD) : Prop where
  ex : ∃ t', PK X kws t' ∧ ∀ σ σd w Qd Q, RS X.K X.mg w → RL X.K X.mg w σ σd → t σd w.S Qd → ThenA X w Qd Q → t' σ w.H Q
theorem dk_nil : DK X [] tnil := ⟨_, pk_nil, fun σ σd w Qd Q rs rl h k => k [] [] w (.refl w) rs .nil h⟩
theorem dk_cons {nm : Option Str} {e : Expr} {kpos : Pos} {kws : List Keyword} {te : TD} {t : AD} (ha : DE X e te) (hr : DK X kws t) : DK X (⟨nm, e, kpos⟩ :: kws) (tcons te t) := by
  obtain ⟨t1, p, l⟩ := ha
  obtain ⟨t2, p', l'⟩ := hr
  refine ⟨_, pk_cons p p', fun σ σd w Qd Q rs rl h k => ?_⟩
  refine l σ σd w _ _ rs rl h fun v d w1 k1 rs1 r q => ?_
  refine l' σ σd w1 _ _ rs1 (rl.keep rs k1) q fun vs ds w2 k2 rs2 r2 q2 => ?_
  exact k (v :: vs) (d :: ds) w2 (k1.trans k2) rs2 (.cons (r.keep rs1 k2) r2) q2
theorem Reps.pick {K : PySem.W.Frag} {mg : Str → Option Value} {H : Hp} {O : Own} {vs : List V} {ds : List D} (r : Reps K mg H O vs ds) : ∀ perm : List Nat, Reps K mg H O (PyD.pick perm vs) (PyD.pick perm ds)
  | [] => .nil
  | i :: p => by
    have ih := r.pick p
    unfold PyD.pick at ih ⊢
    rw [List.filterMap_cons, List.filterMap_cons]
    cases e : ds[i]? with
    | none =>
      have : vs[i]? = none := by
        have := List.getElem?_eq_none_iff.mp e
        exact List.getElem?_eq_none (by have := r.len; omega)
      rw [this]
      exact ih
    | some d =>
      obtain ⟨v, hv, rv⟩ := r.at e
      rw [hv]
      exact .cons rv ih
def tcallk (n m : Nat) (perm : List Nat) (sp : DSp) (t : AD) : TD := fun σ S Q => t σ S fun ds S1 => ds.length = m ∧ (PyD.pick perm ds).length = n ∧ sp (PyD.pick perm ds) S1 Q
theorem de_callk {k n : Nat} {x : Str} {ks : List Str} {perm : List Nat} {sp : DSp} {p pos : Pos} {kws : List Keyword} {t : AD} (F : FnK X.prog X.w X.K X.mg X.base k x n ks perm sp) (hr : Room k X.A) (hg : Gl X x) (ha : DK X kws t) (hdb : (x == ("__debug__" : Str)) = false)
    (hall : (backToKw pos (keywordEach kws X.env)).all (·.1.isSome) = true) (hks : (backToKw pos (keywordEach kws X.env)).filterMap (·.1) = ks) (hpl : ((backTo pos (starEach [] X.env)).any (·.1) || (backToKw pos (keywordEach kws X.env)).any (·.1.isNone)) = false) :
    DE X (.Call (.Name x p) [] kws pos) (tcallk n ks.length perm sp t) := by
  obtain ⟨f, fd, ps, F, hm, hk, hb⟩ := F
  obtain ⟨t', pa, l⟩ := ha
  refine ⟨fun σ H Q => t' σ H fun zs H1 => liftSp X.K X.mg n sp (gK ks.length perm [] zs) H1 Q E0, ⟨fun pins s σ H Q I h => ?_⟩, fun σ σd w Qd Q rs rl h k => ?_⟩
  · refine wpAny_Call_Name_kw (ld_glob I hg hm ?_ hdb)
    refine PySem.W.callWith_KW0 (h₀ := X.base) I.ok.mod.kin hk hall (thn (pa.run pos pins s σ H _ I h) fun ws s2 ⟨zs, H2, I2, rz, q2⟩ => ⟨I2.kIn, ?_⟩) hpl
    rw [hks]
    exact run_fnk F hr hb pass0 I2 .nil rz q2
  · refine l σ σd w _ _ rs rl h fun vs ds w1 k1 rs1 r1 q => ?_
    have e : gK ks.length perm [] vs = PyD.pick perm vs := by
      show (if vs.length = ks.length then PyD.pick perm vs else []) = _
      rw [if_pos (by rw [r1.len]; exact q.1)]
    show liftSp X.K X.mg n sp (gK ks.length perm [] vs) w1.H Q E0
    rw [e]
    exact ⟨PyD.pick perm ds, w1, Qd, rfl, rs1, r1.pick perm, q.2.1, q.2.2, k.keep k1⟩
end
/-! ### what a def's end hands back -/
inductive View : D → Sto → D → Sto → Prop
  | less {d : D} {S S' : Sto} (h : ∀ a m, S' a = some m → S a = some m) : View d S d S'
  | frz {a : Addr} {S S' : Sto} {ds : List D} (h : S a = some (.ml ds)) (hn : S' a = none) (hl : ∀ b m, S' b = some m → S b = some m) : View (.ref a) S (.lst ds) S'
def VQ (Q : QD) : QD := fun d S => ∃ d' S', View d S d' S' ∧ Q d' S'
theorem VQ.same {Q : QD} {d : D} {S : Sto} (h : Q d S) : VQ Q d S := ⟨d, S, .less fun _ _ h => h, h⟩
theorem VQ.drop {Q : QD} {d : D} {S : Sto} {a : Addr} {m : MO} (hn : S a = none) (h : Q d S) : VQ Q d (ups S a m) := ⟨d, S, .less fun b n e => by rw [ups_ne (fun z => by rw [z, hn] at e; cases e)]; exact e, h⟩
theorem VQ.frz {Q : QD} {S : Sto} {a : Addr} {ds : List D} (hn : S a = none) (h : Q (.lst ds) S) : VQ Q (.ref a) (ups S a (.ml ds)) := ⟨.lst ds, S, .frz ups_same hn fun b n e => by rw [ups_ne (fun z => by rw [z, hn] at e; cases e)]; exact e, h⟩
theorem view_ok {K : PySem.W.Frag} {mg : Str → Option Value} {w : W3} (rs : RS K mg w) {v : V} {d d' : D} {S' : Sto} (r : Rep K mg w.H w.O v d) (h : View d w.S d' S') : ∃ w', w'.H = w.H ∧ w'.S = S' ∧ Keep w w' ∧ RS K mg w' ∧ Rep K mg w'.H w'.O v d' := by
  cases h with
  | less h =>
    obtain ⟨rs', k⟩ := rs.less h
    exact ⟨⟨w.H, w.O, S'⟩, rfl, rfl, k, rs', r⟩
  | frz h hn hl =>
    cases r with
    | ref a => exact rs.freeze h hn hl
/-- what the rules for a syntax want of a context -/
structure CtxOk (k : Nat) (N : List Str) (names : List (Str × NameKind)) (tgts : List Str) (X : Cx) : Prop where
  calm : X.calm = true
  room : Room k X.A
  eN : X.N = N
  nd : N.Nodup
  kind : X.env.scope.kind = .function
  enames : X.env.scope.names = names
  xe : X.xe = fun _ _ => False
  tg : ∀ x, x ∈ tgts → X.fn x = true ∨ X.env.scope.names.lookup x = some .local
def startD (n : Nat) (ds : List D) : SD := ds.map some ++ List.replicate (n - ds.length) none
theorem start_rl {K : PySem.W.Frag} {mg : Str → Option Value} {w : W3} {N : List Str} {vs : List V} {ds : List D} (r : Reps K mg w.H w.O vs ds) : RL K mg w (L2.start N vs) (startD N.length ds) := by
  unfold L2.start startD
  rw [r.len]
  refine ⟨by simp [r.len], fun i d h => ?_⟩
  by_cases hi : i < ds.length
  · rw [List.getElem?_append_left (by simpa using hi), List.getElem?_map] at h
    cases e : ds[i]? with
    | none => rw [e] at h; cases h
    | some d' =>
      rw [e] at h
      cases h
      obtain ⟨v, hv, rv⟩ := r.at e
      refine ⟨v, ?_, rv⟩
      rw [List.getElem?_append_left (by simpa [r.len] using hi), List.getElem?_map, hv]; rfl
  · rw [List.getElem?_append_right (by simpa using Nat.le_of_not_lt hi), List.getElem?_replicate] at h
    split at h <;> cases h
/-- a def of the text that stands under its name -/
structure At (K : PySem.W.Frag) (mg : Str → Option Value) (x : Str) (st : Stmt) : Prop where
  ex : ∃ f fd, Fun K x x st f fd ∧ mg x = some (.ref f)
def endsD (Qd : QD) : EndsD := { nx := fun _ S' => VQ Qd .non S', rt := VQ Qd }
section
variable {P : Program} {w : World} {K : PySem.W.Frag} {mg : Str → Option Value} {base : Heap}
theorem fn_body {x : Str} {st : Stmt} {f : Addr} {fd : FuncData} {N ps : List Str} {k : Nat} {sp : DSp} (F : Fun K x x st f fd) (S : FnScope N ps (defScope st))
    (body : ∀ X : Cx, X.prog = P → X.w = w → X.K = K → X.mg = mg → X.base = base → CtxOk k N (defScope st).names N X → (∀ x, X.fn x = true) →
      ∃ t, DSs X (defBody st) t ∧ ∀ ds S Qd, ds.length = ps.length → sp ds S Qd → t (endsD Qd) (startD N.length ds) S) : FnOk P w K mg base CX0 (k + 1) f fd ps (liftSp K mg ps.length sp) := by
  refine F.ok S (fun vs H Q E h => liftSp_len h) (fun cdv A outer s H vs Q E hr h => ?_)
  obtain ⟨ds, w0, Qd, rfl, rs, r, hl, hs, kk⟩ := h
  obtain ⟨t, ⟨t', p, l⟩, ht⟩ := body (cxOf CX0 P w K mg base N x (defScope st) f cdv A outer s w0.H E).nox rfl rfl rfl rfl rfl ⟨rfl, hr, rfl, S.nd, S.kind, rfl, rfl, fun _ _ => .inl rfl⟩ fun _ => rfl
  refine ⟨t', p, ?_⟩
  refine l (L2.start N vs) (startD N.length ds) w0 (endsD Qd) _ rs (start_rl r) (ht ds w0.S Qd hl hs) ⟨fun σ' σd' w' k1 rs1 rl1 q => ?_, fun v d w' k1 rs1 r1 q => ?_, fun _ _ _ _ _ _ q => q, fun _ _ _ _ _ _ q => q⟩
  · obtain ⟨d', S', vw, q⟩ := q
    obtain ⟨w2, e1, e2, k2, rs2, r2⟩ := view_ok rs1 .non vw
    have := kk .non d' w2 (k1.trans k2) rs2 r2 (by rw [e2]; exact q)
    rw [e1] at this
    exact this
  · obtain ⟨d', S', vw, q⟩ := q
    obtain ⟨w2, e1, e2, k2, rs2, r2⟩ := view_ok rs1 r1 vw
    have := kk v d' w2 (k1.trans k2) rs2 r2 (by rw [e2]; exact q)
    rw [e1] at this
    exact this
end
end PyD

set_option Elab.async false
set_option linter.all false
set_option maxRecDepth 100000
set_option maxHeartbeats 2000000
/-! PyDS: sorted of a dict whose keys are tuples of ints of either sign; sorted of texts; new dicts. -/
namespace TS
open PySem PyProof.Rows
def sh (c : Int) (ns : List Int) : List Int := ns.map (· + c)
section
variable {prog : Program} {w : World} {A : Around} {E : Value → Shared → Prop} {s : Shared}
theorem lex_sh {B c : Int} {b : Bool} {Q : Bool → Shared → Prop} {xs ys : List Value} {ns ms : List Int} (i : Nat) (hx : IntsAre xs ns) (hy : IntsAre ys ms) (hl : ns.length = ms.length) (h1 : Bd B (sh c ns)) (h2 : Bd B (sh c ms))
    (h : Q (decide (code B (sh c ns) < code B (sh c ms))) s) : PySem.W.KatLex prog w A b false Q (xs.zip ys) i s := by
  induction hx generalizing ys ms i with
  | nil =>
    cases hy with
    | nil =>
      have e : decide (code B (sh c []) < code B (sh c [])) = false := decide_eq_false (Int.lt_irrefl _)
      rw [e] at h
      exact PySem.W.kat_nil h
    | cons q u hy => simp at hl
  | @cons p t xs ns hx ih =>
    cases hy with
    | nil => simp at hl
    | @cons q u ys ms hy =>
      have hl' : ns.length = ms.length := by simpa using hl
      have hl2 : (sh c ns).length = (sh c ms).length := by unfold sh; rw [List.length_map, List.length_map]; exact hl'
      have g1 : Bd B ((p + c) :: sh c ns) := h1
      have g2 : Bd B ((q + c) :: sh c ms) := h2
      have g : Q (decide (code B ((p + c) :: sh c ns) < code B ((q + c) :: sh c ms))) s := h
      show PySem.W.KatLex prog w A b false Q ((Value.int p t, Value.int q u) :: xs.zip ys) i s
      refine PySem.W.kat_cons (wpAny_eqBool_int ?_)
      by_cases e : p = q
      · subst e
        rw [beq_self_eq_true]
        have d : decide (code B ((p + c) :: sh c ns) < code B ((p + c) :: sh c ms)) = decide (code B (sh c ns) < code B (sh c ms)) := decide_eq_decide.mpr (code_same hl2)
        rw [d] at g
        refine PySem.W.kat_yes ?_
        exact ih (i + 1) hy hl' g1.tail g2.tail g
      · rw [show (p == q) = false from beq_eq_false_iff_ne.mpr e]
        refine PySem.W.kat_no (oneLt_ints _ ?_)
        have d : decide (code B ((p + c) :: sh c ns) < code B ((q + c) :: sh c ms)) = decide (p < q) := by
          refine decide_eq_decide.mpr ⟨fun x => ?_, fun x => code_lt hl2 g1.tail g2.tail (by omega)⟩
          rcases Int.lt_trichotomy p q with y | y | y
          · exact y
          · exact absurd y e
          · have := code_lt (d := q + c) (e := p + c) hl2.symm g2.tail g1.tail (by omega)
            omega
        rw [d] at g
        exact g
/-- what is sorted: tuples of d ints each -/
def TupsS (h : Heap) (d : Nat) (B c : Int) (vs : List Value) : Prop := ∀ v, v ∈ vs → ∃ ns, TupInts h v ns ∧ ns.length = d ∧ Bd B (sh c ns)
theorem TupsS.keeps {h h' : Heap} {d : Nat} {B c : Int} {vs : List Value} (x : TupsS h d B c vs) (k : ∀ b o, h.get? b = some o → o.cls = .type "tuple" → h'.get? b = some o) : TupsS h' d B c vs := fun v hv =>
  let ⟨ns, t, r⟩ := x v hv; ⟨ns, t.keeps k, r⟩
theorem firsts_sh {h : Heap} {d : Nat} {B c : Int} (hd : 1 ≤ d) : ∀ vs : List Value, TupsS h d B c vs → ∃ fs, PySem.W.KatTups h vs fs ∧ fs.length = vs.length ∧ ∀ f, f ∈ fs → ∃ n t, f = Value.int n t
  | [], _ => ⟨[], PySem.W.KatTups.nil, rfl, fun f hf => by simp at hf⟩
  | v :: vs, x => by
    obtain ⟨fs, k, hl, hi⟩ := firsts_sh hd vs fun u hu => x u (List.mem_cons_of_mem _ hu)
    obtain ⟨ns, ⟨a, xs, rfl, ⟨o, ho, hc, n, hdt⟩, i⟩, hn, _⟩ := x v (List.mem_cons_self ..)
    obtain ⟨y, ys, e⟩ : ∃ y ys, xs.toList = y :: ys := by
      cases q : xs.toList with
      | nil =>
        rw [q] at i
        have l := i.length
        rw [List.length_nil, hn] at l
        omega
      | cons y ys => exact ⟨y, ys, rfl⟩
    obtain ⟨m, t, hy⟩ := i.all y (by rw [e]; exact List.mem_cons_self ..)
    refine ⟨y :: fs, PySem.W.KatTups.cons ho hc hdt ?_ k, by simp [hl], ?_⟩
    · have z := congrArg (fun l : List Value => l[0]?) e
      simpa using z
    · intro f hf
      rcases List.mem_cons.mp hf with rfl | hf
      · exact ⟨m, t, hy⟩
      · exact hi f hf
theorem kind_sh {d : Nat} {B c : Int} {vs : List Value} (hd : 1 ≤ d) (h2 : 2 ≤ vs.length) (x : TupsS s.heap d B c vs) (r : Value → Int) (hr : ∀ v, v ∈ vs → ∀ ns, TupInts s.heap v ns → r v = code B (sh c ns)) (Q : SortKind → Shared → Prop)
    (h : ∀ κ, Cmp prog w A s κ (pairsOf vs) r → Q κ s) : wpAny (model prog w) A (keyKind' vs.toArray) Q E s := by
  obtain ⟨fs, k, hl, hi⟩ := firsts_sh hd vs x
  refine PySem.W.kat_kind (T := Value.type "int") k (by omega) (fun f hf => ?_) rfl (h _ ?_)
  · obtain ⟨n, t, rfl⟩ := hi f hf
    exact PySem.W.Looks.of_pure rfl
  · intro p q hp hq Q' E' hQ
    rw [pairsOf_toList] at hp hq
    obtain ⟨ns, tp, lp, bp⟩ := x _ (mem_zip_self hp).2
    obtain ⟨ms, tq, lq, bq⟩ := x _ (mem_zip_self hq).2
    have ep := hr _ (mem_zip_self hp).2 _ tp
    have eq2 := hr _ (mem_zip_self hq).2 _ tq
    have hQ' : Q' (decide (code B (sh c ns) < code B (sh c ms))) s := by
      have z : decide (r p.1 < r q.1) = decide (code B (sh c ns) < code B (sh c ms)) := by rw [ep, eq2]
      rw [← z]; exact hQ
    obtain ⟨a, xs, e1, ⟨o, ho, hc, n, hdt⟩, i⟩ := tp
    obtain ⟨a', ys, e2, ⟨o', ho', hc', n', hdt'⟩, i'⟩ := tq
    rw [e1, e2]
    refine PySem.W.kat_lt ho hdt ho' hdt' ?_
    have sz : decide (xs.size < ys.size) = false := by
      have l1 := i.length
      have l2 := i'.length
      rw [Array.length_toList] at l1 l2
      exact decide_eq_false (by omega)
    rw [sz]
    exact lex_sh 0 i i' (by omega) bp bq hQ'
/-- list.sort of a list of tuples of ints -/
theorem sort_sh {a : Addr} {vs : List Value} {n d : Nat} {B c : Int} {P : PySem.Fin → Shared → Prop} (ho : s.heap.get? a = some (seqObj "list" vs.toArray n)) (h64 : vs.length < 64) (hd : 1 ≤ d) (x : TupsS s.heap d B c vs)
    (h : ∀ out : Array Value, out.toList.Perm vs → P (.done (.ret .none)) { s with heap := sortedHeap s.heap a vs out }) :
    wpAny (model prog w) A (Builtin.«list.sort» ⟨[.ref a], []⟩) P E s := by
  have keep : ∀ b o, s.heap.get? b = some o → o.cls = .type "tuple" → (midHeap s.heap a vs).get? b = some o := fun b o e hc => by
    refine midHeap_old ?_ e
    rintro rfl
    rw [ho] at e
    have e' : seqObj "list" vs.toArray n = o := Option.some.inj e
    rw [← e'] at hc
    have c' : Value.type "list" = Value.type "tuple" := hc
    injection c' with c''
    exact absurd c'' (by decide)
  refine SK.plain_sort (r := fun v => code B (sh c (intsOf s.heap v))) ho h64 (fun h2 Q hQ => ?_) fun ps out h1 h2 h3 => ?_
  · refine kind_sh (s := { s with heap := midHeap s.heap a vs }) hd h2 (x.keeps keep) (fun v => code B (sh c (intsOf s.heap v))) (fun v hv ns t => ?_) Q hQ
    obtain ⟨ns0, t0, _⟩ := x v hv
    have e : ns = ns0 := t.ints.symm.trans (t0.keeps keep).ints
    rw [e]
    show code B (sh c (intsOf s.heap v)) = code B (sh c ns0)
    rw [t0.ints]
  · obtain ⟨p, o⟩ := out_rank (r := fun v => code B (sh c (intsOf s.heap v))) h1 h2 h3
    exact h out p
end
theorem bound_of : ∀ kss : List (List Int), ∃ c : Int, ∀ ns ∈ kss, Bd (2 * c + 1) (sh c ns) := by
  have one : ∀ ns : List Int, ∃ c : Int, 0 ≤ c ∧ ∀ m ∈ ns, -c ≤ m ∧ m ≤ c := fun ns => by
    induction ns with
    | nil => exact ⟨0, by omega, fun m h => by simp at h⟩
    | cons x r ih =>
      obtain ⟨c, h0, h⟩ := ih
      refine ⟨c + x.natAbs, by omega, fun m hm => ?_⟩
      rcases List.mem_cons.mp hm with rfl | hm
      · omega
      · have := h m hm; omega
  have all : ∀ kss : List (List Int), ∃ c : Int, 0 ≤ c ∧ ∀ ns ∈ kss, ∀ m ∈ ns, -c ≤ m ∧ m ≤ c := fun kss => by
    induction kss with
    | nil => exact ⟨0, by omega, fun m h => by simp at h⟩
    | cons x r ih =>
      obtain ⟨c, h0, h⟩ := ih
      obtain ⟨e, e0, g⟩ := one x
      refine ⟨c + e, by omega, fun ns hn m hm => ?_⟩
      rcases List.mem_cons.mp hn with rfl | hn
      · have := g m hm; omega
      · have := h ns hn m hm; omega
  intro kss
  obtain ⟨c, h0, h⟩ := all kss
  refine ⟨c, fun ns hn m hm => ?_⟩
  unfold sh at hm
  obtain ⟨x, hx, rfl⟩ := List.mem_map.mp hm
  have := h ns hn x hx
  omega
end TS
namespace L2
open PySem PySem.Spec PyProof.Rows
section
variable {X : Cx}
theorem paired_mem {α β : Type} {R : α → β → Prop} {xs : List α} {ys : List β} (h : Paired R xs ys) : ∀ y ∈ ys, ∃ x ∈ xs, R x y := by
  induction h with
  | nil => intro y hy; simp at hy
  | cons r t ih =>
    intro z hz
    rcases List.mem_cons.mp hz with rfl | hz
    · exact ⟨_, List.mem_cons_self .., r⟩
    · obtain ⟨x, hx, q⟩ := ih z hz
      exact ⟨x, List.mem_cons_of_mem _ hx, q⟩
/-- sorted(d), d a dict with fewer than 64 keys, tuples of n ints: a new list of the keys in some order -/
theorem cr_sortedTD (hcalm : X.calm = true) : CallR X (.builtin "sorted") (fun xs H Q => ∃ (a : Addr) (kvs : List (List Key × V)) (kss : List (List Int)) (d : Nat), xs = [.ref a] ∧ Rd H a (.dT kvs) ∧ kvs.map (·.1) = kss.map (fun is => is.map Sum.inl) ∧ kss.length < 64 ∧ 1 ≤ d ∧ (∀ is ∈ kss, is.length = d) ∧
    ∀ (bs cs : List Addr) (p : Addr), IsKeys H kvs bs → cs.Perm bs → H p = none → Q (.ref p) (upd H p (.lst (cs.map V.ref)))) := by
  intro pins s σ H xs us Q I r h
  obtain ⟨a, kvs, kss, d, rfl, hd, hks, h64, h1d, hlen, q⟩ := h
  obtain ⟨u, rfl, rx⟩ := vals1 r
  obtain rfl : u = Value.ref a := rx
  obtain ⟨z, hs, ks, pr, o, es, ep, ho, hx, hdt, he, hn⟩ := (show ObjOk X.prog X.w H s.heap a (.dT kvs) from hd.ok I.hok)
  have l1 : es.size = ks.length := size_of_entries he
  have l2 : kvs.length = ks.length := Paired.length pr
  have l3 : kvs.length = kss.length := by
    have e := congrArg List.length hks
    rw [List.length_map, List.length_map] at e
    exact e
  refine Calls.call_function_entry PyProof.Rows.kind_sorted PyProof.Rows.plain_sorted PyProof.Rows.entry_sorted (PyProof.Rows.args_sorted1 _) ?_
  unfold Builtin.«sorted»
  refine wpAny_bind (m := checkCount "sorted" 1 1 _) (wpAny_pure ?_)
  refine wpAny_bind (PySem.W.kdu_collect (A := X.A.in1) (kdl_raw hs hx hdt) (I.ok.hd hcalm) ho (by omega) fun h' tk acc' kp it => ?_)
  have ea : acc'.toList = ks.map fun x => Value.ref x.2.1 := by
    have hl : acc'.toList.length = ks.length := by rw [Array.length_toList, it.1]; exact l1
    apply List.ext_getElem?
    intro j
    rw [List.getElem?_map]
    cases hj : acc'.toList[j]? with
    | none =>
      have h1 := List.getElem?_eq_none_iff.mp hj
      rw [List.getElem?_eq_none (by omega)]
      all_goals rfl
    | some v =>
      obtain ⟨en, hen, hv⟩ := it.2 j v (by rw [← Array.getElem?_toList]; exact hj)
      have qe := entry_at he j
      rw [hen] at qe
      cases hb : ks[j]? with
      | none =>
        rw [hb] at qe
        exact nomatch (show some en = none from qe)
      | some b =>
        rw [hb] at qe
        have e2 : en = entryOfKey (tupleKind (mixKind X.prog X.w)) b := Option.some.inj qe
        rw [hv, e2]
        all_goals rfl
  have eb : acc'.toList = (ks.map fun x => x.2.1).map Value.ref := by rw [ea, List.map_map]; all_goals rfl
  have hk0 : IsKeys H kvs (ks.map fun x => x.2.1) := isKeys_of pr
  have hal : acc'.toList.length < 64 := by rw [ea, List.length_map]; omega
  have I1 : Inv X pins σ H { s with heap := h', toks := tk } := I.kept kp
  refine wpAny_bind (wpAny_newList ?_ (by rw [sizeLine_eq]; omega))
  have hoL : (h'.push (seqObj "list" acc'.toList.toArray 0)).get? h'.objs.size = some (seqObj "list" acc'.toList.toArray 0) := Heap.get?_push_size _ rfl
  show wpAny _ _ _ _ _ { s with heap := h'.push (seqObj "list" acc'.toList.toArray 0), toks := tk }
  obtain ⟨c, hb⟩ := TS.bound_of kss
  have tups : TS.TupsS (h'.push (seqObj "list" acc'.toList.toArray 0)) d (2 * c + 1) c acc'.toList := fun v hv => by
    rw [eb] at hv
    obtain ⟨b, hbm, rfl⟩ := List.mem_map.mp hv
    obtain ⟨p, hp, hH⟩ := paired_mem hk0 b hbm
    have hm : p.1 ∈ kss.map (fun is => is.map Sum.inl) := by rw [← hks]; exact List.mem_map.mpr ⟨p, hp, rfl⟩
    obtain ⟨ns, hns, ens⟩ := List.mem_map.mp hm
    have e1 : p.1.map kV = ns.map V.int := by rw [← ens, List.map_map]; rfl
    rw [e1] at hH
    have t := (tupI_raw I1 (t := b) (ns := ns) (.inl (.inl hH)))
    exact ⟨ns, t.keeps fun b' o' e _ => Heap.get?_push_of_some _ e, hlen ns hns, hb ns hns⟩
  refine wpAny_bind (wpAny_holding (wpAny_call_entry PyProof.Rows.slot_list_sort ⟨_, hoL, rfl⟩ PyProof.Rows.entry_list_sort
    (TS.sort_sh (s := { s with heap := h'.push (seqObj "list" acc'.toList.toArray 0), toks := tk }) hoL hal h1d tups fun out g1 => ⟨_, rfl, ?_⟩) (PyProof.Rows.args_list_sort _)))
  obtain ⟨e', he'⟩ := PyProof.Rows.sortedHeap_at (vs := acc'.toList) (out := out) hoL
  have h3 : ∀ u ∈ out.toList, ∃ a, u = Value.ref a := fun u hu => by
    have := g1.mem_iff.mp hu
    rw [eb] at this
    obtain ⟨b, _, e⟩ := List.mem_map.mp this
    exact ⟨b, e.symm⟩
  have cs : ∃ cs : List Addr, out.toList = cs.map Value.ref ∧ cs.Perm (ks.map fun x => x.2.1) := by
    refine ⟨out.toList.map fun u => match u with | .ref a => a | _ => 0, ?_, ?_⟩
    · rw [List.map_map]
      conv => lhs; rw [← List.map_id out.toList]
      refine List.map_congr_left fun u hu => ?_
      obtain ⟨b, rfl⟩ := h3 u hu
      rfl
    · have g2 := g1.map fun u => match u with | .ref a => a | _ => 0
      rw [eb, List.map_map] at g2
      have e5 : (List.map ((fun u => match u with | Value.ref a => a | _ => 0) ∘ Value.ref) (List.map (fun x => x.2.1) ks)) = List.map (fun x => x.2.1) ks := by
        conv => rhs; rw [← List.map_id (List.map (fun x => x.2.1) ks)]
        rfl
      rw [e5] at g2
      exact g2
  obtain ⟨cs, ec, pc⟩ := cs
  have hlen2 : (cs.map V.ref).length ≤ sizeLine := by
    rw [List.length_map, pc.length_eq, List.length_map]
    have : (64 : Nat) ≤ sizeLine := by decide
    omega
  refine wpAny_pure ⟨_, rfl, .ref h'.objs.size, upd H h'.objs.size (.lst (cs.map V.ref)), I1.laid (t' := tk) (fun b u e => ?_) (Nat.le_refl _)
    (show ObjOk X.prog X.w _ _ _ (.lst (cs.map V.ref)) from ⟨hlen2, out.toList, e', by rw [ec]; exact vals_refs cs, by rw [Array.toArray_toList]; exact he'⟩), rfl, q _ cs _ hk0 pc (I1.hok.fresh (Nat.le_refl _))⟩
  have hb : b < h'.objs.size := Heap.lt_size e
  rw [PyProof.Rows.sortedHeap_old (Nat.ne_of_lt hb) (by rw [size_push']; exact Nat.lt_succ_of_lt hb)]
  exact Heap.get?_push_of_some _ e
end
end L2
namespace PyD
open PySem PySem.Spec PyProof.Rows L2
theorem perm_lift {α β : Type} {f : α → β} {x y : List β} (h : x.Perm y) : ∀ {l : List α}, y = l.map f → ∃ m : List α, m.Perm l ∧ m.map f = x := by
  induction h with
  | nil => intro l e; cases l with
    | nil => exact ⟨[], .nil, rfl⟩
    | cons _ _ => cases e
  | cons a _ ih => intro l e; cases l with
    | nil => cases e
    | cons b r =>
      rw [List.map_cons] at e
      injection e with e1 e2
      obtain ⟨m, p, q⟩ := ih e2
      exact ⟨b :: m, p.cons b, by rw [List.map_cons, q, e1]⟩
  | swap a b r => intro l e; match l, e with
    | [], e => cases e
    | [_], e => simp at e
    | c :: d :: l, e =>
      rw [List.map_cons, List.map_cons] at e
      injection e with e1 e
      injection e with e2 e3
      exact ⟨d :: c :: l, .swap c d l, by rw [List.map_cons, List.map_cons, e1, e2, e3]⟩
  | trans _ _ ih1 ih2 => intro l e
                         obtain ⟨m, p, q⟩ := ih2 e
                         obtain ⟨m', p', q'⟩ := ih1 q.symm
                         exact ⟨m', p'.trans p, q'⟩
/-- a tuple of ints -/
def tiD (is : List Int) : D := .tup (is.map .int)
/-- the keys, laid in some order -/
theorem keys_rep {K : PySem.W.Frag} {mg : Str → Option Value} {H : Hp} {O : Own} {us : List (List Key × V)} {kss : List (List Int)} {bs cs : List Addr} (hk : us.map (·.1) = kss.map fun is => is.map Sum.inl) (hb : IsKeys H us bs) (hc : cs.Perm bs) :
    ∃ ys : List (List Int), ys.Perm kss ∧ Reps K mg H O (cs.map V.ref) (ys.map tiD) := by
  have pz : ∀ {us : List (List Key × V)} {kss : List (List Int)} {bs : List Addr}, us.map (·.1) = (kss.map fun is => is.map Sum.inl) → IsKeys H us bs → ∃ zs : List (List Int × Addr), zs.map (·.1) = kss ∧ zs.map (·.2) = bs ∧ ∀ z ∈ zs, H z.2 = some (.tup (z.1.map V.int)) := fun {us kss bs} hk hb => by
    unfold IsKeys at hb
    induction hb generalizing kss with
    | nil => cases kss with
      | nil => exact ⟨[], rfl, rfl, fun z h => by simp at h⟩
      | cons _ _ => cases hk
    | @cons p b us bs h t ih => cases kss with
      | nil => cases hk
      | cons is kss =>
        rw [List.map_cons, List.map_cons] at hk
        injection hk with h1 h2
        obtain ⟨zs, a1, a2, a3⟩ := ih h2
        refine ⟨(is, b) :: zs, by rw [List.map_cons, a1], by rw [List.map_cons, a2], fun z hz => ?_⟩
        rcases List.mem_cons.mp hz with rfl | hz
        · have e : p.1.map kV = is.map V.int := by rw [h1, List.map_map]; rfl
          rw [← e]; exact h
        · exact a3 z hz
  obtain ⟨zs, a1, a2, a3⟩ := pz hk hb
  rw [← a2] at hc
  obtain ⟨ms, p, e⟩ := perm_lift hc rfl
  refine ⟨ms.map (·.1), ?_, ?_⟩
  · rw [← a1]; exact p.map _
  · rw [← e]
    have a4 : ∀ z ∈ ms, H z.2 = some (.tup (z.1.map V.int)) := fun z hz => a3 z (p.mem_iff.mp hz)
    clear p e
    induction ms with
    | nil => exact .nil
    | cons z ms ih =>
      refine .cons ?_ (ih fun y hy => a4 y (List.mem_cons_of_mem _ hy))
      refine .tup (a4 z (List.mem_cons_self ..)) (by simp) fun i v d h1 h2 => ?_
      rw [List.getElem?_map] at h1 h2
      cases e3 : z.1[i]? with
      | none => rw [e3] at h1; cases h1
      | some n => rw [e3] at h1 h2; cases h1; cases h2; exact .int n
section
variable {X : Cx} {pos : Pos}
def dSortG (fin : List D → Sto → QD → Prop) : List D → Sto → QD → Prop
  | [.ref a], S, Q => mtW S a fun kvs => kvs.length < 64 ∧ (∃ d, 1 ≤ d ∧ ∀ p ∈ kvs, p.1.length = d) ∧ ∀ ys : List (List Int), ys.Perm (kvs.map (·.1)) → fin (ys.map tiD) S Q
  | _, _, _ => False
def finL (ds : List D) (S : Sto) (Q : QD) : Prop := Q (.lst ds) S
def finO (ds : List D) (S : Sto) (Q : QD) : Prop := ∀ a, S a = none → Q (.ref a) (ups S a (.ml ds))
theorem cd_sortG (hc : X.calm = true) {fin : List D → Sto → QD → Prop} (hf : ∀ {w : W3} {Qd : QD} {Q : VK} {vs : List V} {ds : List D}, RS X.K X.mg w → Reps X.K X.mg w.H w.O vs ds → ThenE X w Qd Q → fin ds w.S Qd → ∀ p, w.H p = none → Q (.ref p) (upd w.H p (.lst vs))) :
    CallD X (.builtin "sorted") (dSortG fin) := by
  refine ⟨_, cr_sortedTD hc, fun xs ds w Qd Q rs rx q k => ?_⟩
  unfold dSortG at q
  split at q
  · rename_i a
    obtain ⟨v, rfl, r⟩ := reps1 rx
    cases r
    obtain ⟨kvs, e, h64, ⟨d, h1, hd⟩, q⟩ := mtW_iff q
    obtain ⟨_, us, e2, hk, rr⟩ := rs.mt e
    have hk2 : us.map (·.1) = (kvs.map (·.1)).map fun is => is.map Sum.inl := by rw [hk, List.map_map]; rfl
    refine ⟨a, us, kvs.map (·.1), d, rfl, .inl e2, hk2, by rw [List.length_map]; exact h64, h1, fun is h => ?_, fun bs cs p hb hc' hp => ?_⟩
    · obtain ⟨p, hp, rfl⟩ := List.mem_map.mp h
      exact hd p hp
    · obtain ⟨ys, p1, r2⟩ := keys_rep (K := X.K) (mg := X.mg) (O := w.O) hk2 hb hc'
      exact hf rs r2 k (q ys p1) p hp
  · exact q.elim
theorem cd_sorted (hc : X.calm = true) : CallD X (.builtin "sorted") (dSortG finL) := cd_sortG hc fun rs r k q => then_lst rs r k q
theorem cd_sortedO (hc : X.calm = true) : CallD X (.builtin "sorted") (dSortG finO) := cd_sortG hc fun rs r k q => then_own rs r k q
/-! a new dict -/
def tdnew : TD := fun _ S Q => (∀ a, S a = none → Q (.ref a) (ups S a (.mt []))) ∨ ∀ a, S a = none → Q (.ref a) (ups S a (.mk []))
theorem de_dnew : DE X (.Dict [] [] pos) tdnew := by
  refine ⟨fun σ H Q => tDNewT σ H Q ∨ tDNewK σ H Q, ⟨fun pins s σ H Q I h => ?_⟩, fun σ σd w Qd Q rs rl h k => ?_⟩
  · rcases h with h | h
    · exact pe_dnewT.run pins s σ H Q I h
    · exact pe_dnewK.run pins s σ H Q I h
  · rcases h with h | h
    · refine .inl fun p hp => ?_
      obtain ⟨hs, w', e1, e2, k1, rs1⟩ := new_own rs hp (.mt (us := []) (kvs := []) rfl .nil)
      rw [← e1]
      exact k _ _ w' k1 rs1 (.ref p) (by rw [e2]; exact h p hs)
    · refine .inr fun p hp => ?_
      obtain ⟨hs, w', e1, e2, k1, rs1⟩ := new_own rs hp (.mk (us := []) (kvs := []) rfl .nil)
      rw [← e1]
      exact k _ _ w' k1 rs1 (.ref p) (by rw [e2]; exact h p hs)
/-! a star in a tuple -/
def tstar (ta : TD) (tr : AD) : AD := fun σ S Q => ta σ S fun x S1 => seqW S1 x fun xs => tr σ S1 fun ys S2 => Q (xs ++ ys) S2
theorem da_star {a : Expr} {es : List Expr} {ta : TD} {tr : AD} {p : Pos} (ha : DE X a ta) (hr : DA X es tr) : DA X (.Starred a p :: es) (tstar ta tr) := by
  obtain ⟨t, q, l⟩ := ha
  obtain ⟨t', q', l'⟩ := hr
  refine ⟨_, StX.pa_star q q', fun σ σd w Qd Q rs rl h k => ?_⟩
  refine l σ σd w _ _ rs rl h fun v d w1 k1 rs1 r h1 => ?_
  obtain ⟨ds, e1, h2⟩ := seqW_iff h1
  obtain ⟨b, vs, rfl, r1, hk⟩ := seqOf_ok rs1 r e1
  refine ⟨b, vs, rfl, hk.elim (fun z => .inr z.1) (fun z => .inl z.1), ?_⟩
  refine l' σ σd w1 _ _ rs1 (rl.keep rs k1) h2 fun us es w2 k2 rs2 r2 h3 => ?_
  exact k _ _ w2 (k1.trans k2) rs2 ((r1.keep rs1 k2).append r2) h3
end
end PyD

set_option Elab.async false
set_option linter.all false
set_option maxRecDepth 100000
set_option maxHeartbeats 2000000
/-! PyDR: a tuple turned round by a slice; a comprehension of two clauses. -/
namespace HT
open PySem PySem.Spec PyProof.Rows
section
variable {prog : Program} {w : World} {A : Around} {E : Value → Shared → Prop} {s : Shared}
theorem sliceApplied_rev {sl : Addr} {vl vu vs : Value} {n : Nat} {Q : Int × Int × Nat → Shared → Prop} (hs : s.heap.IsSliceOf sl vl vu vs) (pl : IsPart vl none) (pu : IsPart vu none) (ps : IsPart vs (some (-1)))
    (h : Q ((n : Int) - 1, -1, n) s) : wpAny (model prog w) A (Builtin.Slice.sliceApplied (.ref sl) (pure (n : Int))) Q E s := by
  obtain ⟨os, hos, hcs, hds⟩ := id hs
  unfold Builtin.Slice.sliceApplied Builtin.Slice.sliceFields
  refine wpAny_bind (wpAny_bind (wpAny_field hos hds (x := vl) rfl (wpAny_bind (wpAny_field hos hds (x := vu) rfl (wpAny_bind (wpAny_field hos hds (x := vs) rfl (wpAny_pure ?_)))))))
  refine wpAny_bind (slicePart_ ps ?_)
  show wpAny _ _ (if ((-1 : Int) == 0) = true then _ else _) _ _ s
  rw [if_neg (by decide)]
  refine wpAny_bind (slicePart_ pl (wpAny_bind (slicePart_ pu (wpAny_bind (wpAny_pure ?_)))))
  show wpAny _ _ (pure ((n : Int) - 1, (-1 : Int), Builtin.Slice.slicePlaces ((n : Int) - 1) (-1) (-1))) _ _ s
  have e : Builtin.Slice.slicePlaces ((n : Int) - 1) (-1) (-1) = n := by
    unfold Builtin.Slice.slicePlaces
    rw [if_neg (by decide)]
    have h1 : (-(-1) : Int) = 1 := by decide
    rw [h1, Int.ediv_one]
    split <;> omega
  rw [e]
  exact wpAny_pure h
theorem pick_rev (items : Array Value) : ((List.range items.size).filterMap fun (m : Nat) => items[(((items.size : Int) - 1) + (m : Int) * -1).toNat]?).toArray = items.toList.reverse.toArray := by
  have e : (List.range items.size).filterMap (fun (m : Nat) => items[(((items.size : Int) - 1) + (m : Int) * -1).toNat]?) = ((List.range items.size).map (fun k => items.size - 1 - k)).filterMap (items[·]?) := by
    rw [List.filterMap_map]
    have h : ∀ l : List Nat, l.filterMap (fun (m : Nat) => items[(((items.size : Int) - 1) + (m : Int) * -1).toNat]?) = l.filterMap ((fun x => items[x]?) ∘ fun k => items.size - 1 - k) ∨ ∃ k ∈ l, items.size ≤ k := fun l => by
      induction l with
      | nil => exact .inl rfl
      | cons k r ih =>
        by_cases hk : items.size ≤ k
        · exact .inr ⟨k, List.mem_cons_self .., hk⟩
        · rcases ih with ih | ⟨k', h1, h2⟩
          · left
            have e1 : (((items.size : Int) - 1) + (k : Int) * -1).toNat = items.size - 1 - k := by omega
            simp only [List.filterMap_cons, Function.comp, e1, ih]
          · exact .inr ⟨k', List.mem_cons_of_mem _ h1, h2⟩
    rcases h (List.range items.size) with h | ⟨k, h1, h2⟩
    · exact h
    · have := List.mem_range.mp h1
      omega
  rw [e, PySem.W.krv_range, List.filterMap_reverse, PySem.W.krv_all]
theorem getItem_tuple_rev {t sl : Addr} {items : Array Value} {vl vu vs : Value} {Q : Value → Shared → Prop} (ht : IsTup s.heap t items) (hs : s.heap.IsSliceOf sl vl vu vs) (pl : IsPart vl none) (pu : IsPart vu none) (ps : IsPart vs (some (-1)))
    (h : Q (.ref s.heap.objs.size) { s with heap := s.heap.push { cls := .type "tuple", data := .seq items.toList.reverse.toArray } })
    (hsz : items.size ≤ sizeLine) : wpAny (model prog w) A (getItem (.ref t) (.ref sl)) Q E s := by
  have htake : sizeOk (.seq items.toList.reverse.toArray) := by
    show items.toList.reverse.toArray.size ≤ sizeLine
    rw [List.size_toArray, List.length_reverse, Array.length_toList]
    exact hsz
  obtain ⟨os, hos, hcs, hds⟩ := id hs
  have hTs : s.TypeIs (.ref sl) "slice" := ⟨os, hos, hcs⟩
  unfold getItem
  try with_reducible refine wpAny_holding ?_
  first | refine wpAny_bind (wpAny_pure ?_) | skip
  refine wpAny_bind (wpAny_sequenceKey ht.typeIs (by decide) ?_)
  refine wpAny_bind (wpAny_callSpecial?_slot (name := Str.ofString "__getitem__") ht.typeIs PyProof.Rows.slot_tuple_getitem
    (wpAny_call_entry PyProof.Rows.slot_tuple_getitem ht.typeIs entry_tuple_getitem ?_ (args_tuple_getitem _ _)))
  show wpAny _ _ (Builtin.Tuple.tupleItemsOf (.ref t) >>= _) _ _ s
  refine wpAny_bind (tupleItemsOf_ ht ?_)
  refine wpAny_bind (wpAny_typeOf hTs ?_)
  rw [if_pos (by decide)]
  refine wpAny_bind (sliceApplied_rev hs pl pu ps ?_)
  have hno : ¬ ((((items.size : Int) - 1) == 0 && (-1 : Int) == 1 && items.size == items.size) = true) := by
    intro q
    rw [Bool.and_eq_true, Bool.and_eq_true] at q
    exact absurd (eq_of_beq q.1.2) (by decide)
  show wpAny _ _ (if (((items.size : Int) - 1) == 0 && (-1 : Int) == 1 && items.size == items.size) = true then _ else _) _ _ s
  rw [if_neg hno, pick_rev]
  first
    | exact wpAny_bind (m := Builtin.Tuple.tupleExact _) (wpAny_newObj_type (wpAny_pure ⟨_, rfl, wpAny_pure h⟩) htake)
    | exact wpAny_bind (m := Builtin.Tuple.tupleExact _) (wpAny_newObj_type (wpAny_bind (wpAny_pure (wpAny_pure ⟨_, rfl, wpAny_pure h⟩))) htake)
    | exact wpAny_bind (wpAny_bind (m := Builtin.Tuple.tupleExact _) (wpAny_newObj_type (wpAny_pure (wpAny_pure ⟨_, rfl, wpAny_pure h⟩)) htake))
    | exact wpAny_bind (wpAny_bind (m := Builtin.Tuple.tupleExact _) (wpAny_newObj_type (wpAny_pure ⟨_, rfl, wpAny_pure h⟩) htake))
end
end HT
namespace PyD
open PySem PySem.Spec PyProof.Rows L2
def tRevT (K : PySem.W.Frag) (te : TE) : TE := fun σ H Q => te σ H fun x H1 => ∃ a xs, x = .ref a ∧ SqT K H1 a xs ∧ ∀ p, H1 p = none → Q (.ref p) (upd H1 p (.tup xs.reverse))
section
variable {X : Cx}
theorem pe_revT {e : Expr} {te : TE} {k : Nat} {p1 p2 p3 pos : Pos} (he : PE X e te) : PE X (.Subscript e (.Slice none none (some (.UnaryOp .USub (.Constant (.int 1) k p1) p2)) p3) pos) (tRevT X.K te) := by
  refine ⟨fun pins s σ H Q I h => ?_⟩
  refine Subscript_ (thn (he.run pins s σ H _ I h) fun v s1 ⟨x, H1, I1, r1, q1⟩ => ?_)
  obtain ⟨a, xs, ex, hx, q⟩ := q1
  subst ex
  cases r1
  have hst : PO X (some (.UnaryOp .USub (.Constant (.int 1) k p1) p2)) (tPart (tUn (rU fun i => .int (-i)) (L2.tC (.int 1)))) := po_some (pe_un un_neg pe_int)
  refine wpAny_Slice (thn (po_none.run pins s1 σ H1 (fun o H2 => o = none ∧ H2 = H1) I1 ⟨rfl, rfl⟩) fun vl s2 ⟨l, H2, I2, pl, el, e2⟩ => ?_)
  subst el e2
  refine thn (po_none.run pins s2 σ H2 (fun o H3 => o = none ∧ H3 = H2) I2 ⟨rfl, rfl⟩) fun vu s3 ⟨u, H3, I3, pu, eu, e3⟩ => ?_
  subst eu e3
  refine thn (hst.run pins s3 σ H3 (fun o H4 => o = some (-1) ∧ H4 = H3) I3 ⟨1, rfl, -1, rfl, rfl, rfl⟩) fun vs s4 ⟨o, H4, I4, ps, eo, e4⟩ => ?_
  subst eo e4
  have I5 : Inv X pins σ H4 { s4 with heap := s4.heap.push { cls := .type "slice", data := .fields #[vl, vu, vs] } } := I4.kept (t' := s4.toks) fun b ob q => Heap.get?_push_of_some _ q
  obtain ⟨its, r, ht, hz⟩ := I5.tuple hx
  have hlen := r.length
  show wpAny (model X.prog X.w) X.A (subscriptTail e (.Slice none none (some (.UnaryOp .USub (.Constant (.int 1) k p1) p2)) p3) (.ref a) (.ref s4.heap.objs.size)) (EP X pins σ Q) X.xe { s4 with heap := s4.heap.push { cls := .type "slice", data := .fields #[vl, vu, vs] } }
  refine tail_any (ops := [.ref a, .ref s4.heap.objs.size]) ht.typeIs (PyProof.Rows.slot_tuple_getitem.lookup) ?_ (by with_unfolding_all rfl)
  refine HT.getItem_tuple_rev ht (Heap.IsSliceOf.new _ vl vu vs) pl pu ps ?_ (by rw [List.size_toArray]; omega)
  refine ⟨.ref _, _, I5.laid (t' := s4.toks) (o := .tup xs.reverse) (fun b ob q => Heap.get?_push_of_some _ q) (Nat.le_refl _) ?_, rfl, q _ (I5.hok.fresh (Nat.le_refl _))⟩
  exact ⟨by rw [List.length_reverse]; exact hz, _, r.reverse, IsTup.new _ _⟩
def dRev (x : D) (S : Sto) (Q : QD) : Prop := match x with
  | .tup ds => Q (.tup ds.reverse) S
  | _ => False
def trev (te : TD) : TD := fun σ S Q => te σ S fun x S1 => dRev x S1 Q
theorem Reps.reverse {K : PySem.W.Frag} {mg : Str → Option Value} {H : Hp} {O : Own} {vs : List V} {ds : List D} (r : Reps K mg H O vs ds) : Reps K mg H O vs.reverse ds.reverse := by
  refine ⟨by simp [r.len], fun i v d h1 h2 => ?_⟩
  have hv : i < vs.length := by have := (List.getElem?_eq_some_iff.mp h1).1; simpa using this
  have hd : i < ds.length := by rw [← r.len]; exact hv
  rw [List.getElem?_reverse hv] at h1
  rw [List.getElem?_reverse hd, ← r.len] at h2
  exact r.get _ v d h1 h2
theorem de_rev {e : Expr} {te : TD} {k : Nat} {p1 p2 p3 pos : Pos} (he : DE X e te) : DE X (.Subscript e (.Slice none none (some (.UnaryOp .USub (.Constant (.int 1) k p1) p2)) p3) pos) (trev te) := by
  obtain ⟨t, p, l⟩ := he
  refine ⟨_, pe_revT p, fun σ σd w Qd Q rs rl h k => ?_⟩
  refine l σ σd w _ _ rs rl h fun v d w1 k1 rs1 r q => ?_
  have k' := k.keep k1
  cases d with
  | tup ds =>
    cases r with
    | tup h1 hl1 hr1 =>
      rename_i a vs
      have r1 : Reps X.K X.mg w1.H w1.O vs ds := ⟨hl1, hr1⟩
      exact ⟨a, vs, rfl, .inl (.inl h1), then_tup rs1 r1.reverse k' q⟩
  | _ => exact False.elim q
/-! ### two clauses -/
/-- the inner clause's walk, the list said at p -/
def tinn0 (g1 : GD) (tt1 : BD) (te : TD) (chk1 : Sto → Prop) (σ : SD) (p : Addr) (fin : List D → Sto → Prop) : List D → List D → Sto → Prop
  | [], acc, S => chk1 S ∧ fin acc S
  | y :: r, acc, S => chk1 S ∧ g1 y σ S fun σ3 S5 => tt1 σ3 S5 fun b S6 => if b = true then te σ3 S6 fun z S7 => S7 p = some (.ml acc) ∧ acc.length < sizeLine ∧ tinn0 g1 tt1 te chk1 σ p fin r (acc ++ [z]) (ups S7 p (.ml (acc ++ [z])))
    else S6 p = some (.ml acc) ∧ tinn0 g1 tt1 te chk1 σ p fin r acc S6
@[irreducible] def tinn (g1 : GD) (tt1 : BD) (te : TD) (chk1 : Sto → Prop) (σ : SD) (p : Addr) (fin : List D → Sto → Prop) : List D → List D → Sto → Prop := tinn0 g1 tt1 te chk1 σ p fin
section
variable {g1 : GD} {tt1 : BD} {te : TD} {chk1 : Sto → Prop} {σ : SD} {p : Addr} {fin : List D → Sto → Prop} {acc : List D} {S : Sto} {y : D} {r : List D}
theorem tinn_nil : tinn g1 tt1 te chk1 σ p fin [] acc S = (chk1 S ∧ fin acc S) := by unfold tinn; rfl
theorem tinn_cons : tinn g1 tt1 te chk1 σ p fin (y :: r) acc S = (chk1 S ∧ g1 y σ S fun σ3 S5 => tt1 σ3 S5 fun b S6 => if b = true then te σ3 S6 fun z S7 => S7 p = some (.ml acc) ∧ acc.length < sizeLine ∧ tinn g1 tt1 te chk1 σ p fin r (acc ++ [z]) (ups S7 p (.ml (acc ++ [z])))
    else S6 p = some (.ml acc) ∧ tinn g1 tt1 te chk1 σ p fin r acc S6) := by unfold tinn; rfl
theorem tinn_chk {ys : List D} (h : tinn g1 tt1 te chk1 σ p fin ys acc S) : chk1 S := by
  cases ys with
  | nil => rw [tinn_nil] at h; exact h.1
  | cons x r => rw [tinn_cons] at h; exact h.1
end
/-- as it was ahead of the inner walk, but for what is unsaid -/
def Unsaid (p : Addr) (f : Sto → Prop) (S : Sto) : Prop := ∃ S', S' p = none ∧ (∀ a, a ≠ p → S' a = S a) ∧ f S'
def tco2 (g : GD) (tt : BD) (wi1 : ID) (vs1 : List Nat) (g1 : GD) (tt1 : BD) (te : TD) (chk : Sto → Prop) (σ : SD) (Q : List D → Sto → Prop) : List D → List D → Sto → Prop
  | [], acc, S => chk S ∧ Q acc S
  | x :: r, acc, S => chk S ∧ g x σ S fun σ2 S2 => tt σ2 S2 fun b S3 => if b = true then (∀ p, S3 p = none → wi1 σ2 (ups S3 p (.ml acc)) fun ys chk1 S4 => S4 p = some (.ml acc) ∧
      tinn g1 tt1 te chk1 (wipeD σ2 vs1) p (fun acc' S' => Unsaid p (tco2 g tt wi1 vs1 g1 tt1 te chk σ Q r acc') S') ys acc S4) else tco2 g tt wi1 vs1 g1 tt1 te chk σ Q r acc S3
@[irreducible] def tcomp2 (g : GD) (tt : BD) (wi1 : ID) (vs1 : List Nat) (g1 : GD) (tt1 : BD) (te : TD) (chk : Sto → Prop) (σ : SD) (Q : List D → Sto → Prop) : List D → List D → Sto → Prop := tco2 g tt wi1 vs1 g1 tt1 te chk σ Q
section
variable {g : GD} {tt : BD} {wi1 : ID} {vs1 : List Nat} {g1 : GD} {tt1 : BD} {te : TD} {chk : Sto → Prop} {σ : SD} {Q : List D → Sto → Prop} {acc : List D} {S : Sto} {x : D} {r : List D}
theorem tcomp2_nil : tcomp2 g tt wi1 vs1 g1 tt1 te chk σ Q [] acc S = (chk S ∧ Q acc S) := by unfold tcomp2; rfl
theorem tcomp2_cons : tcomp2 g tt wi1 vs1 g1 tt1 te chk σ Q (x :: r) acc S = (chk S ∧ g x σ S fun σ2 S2 => tt σ2 S2 fun b S3 => if b = true then (∀ p, S3 p = none → wi1 σ2 (ups S3 p (.ml acc)) fun ys chk1 S4 => S4 p = some (.ml acc) ∧
      tinn g1 tt1 te chk1 (wipeD σ2 vs1) p (fun acc' S' => Unsaid p (tcomp2 g tt wi1 vs1 g1 tt1 te chk σ Q r acc') S') ys acc S4) else tcomp2 g tt wi1 vs1 g1 tt1 te chk σ Q r acc S3) := by unfold tcomp2; rfl
theorem tcomp2_chk {xs : List D} (h : tcomp2 g tt wi1 vs1 g1 tt1 te chk σ Q xs acc S) : chk S := by
  cases xs with
  | nil => rw [tcomp2_nil] at h; exact h.1
  | cons x r => rw [tcomp2_cons] at h; exact h.1
end
def tlc2 (wi : ID) (vs : List Nat) (g : GD) (tt : BD) (wi1 : ID) (vs1 : List Nat) (g1 : GD) (tt1 : BD) (te : TD) : TD := fun σ S Q => wi σ S fun xs chk S1 => tcomp2 g tt wi1 vs1 g1 tt1 te chk (wipeD σ vs) (fun acc S2 => Q (.lst acc) S2) xs [] S1
def liftI (X : Cx) (wi : ID) : TI := fun σ H R => ∃ (σd : SD) (w : W3) (Rd : List D → (Sto → Prop) → Sto → Prop), w.H = H ∧ RS X.K X.mg w ∧ RL X.K X.mg w σ σd ∧ wi σd w.S Rd ∧
  ∀ J w' xs chk, Keep w w' → RS X.K X.mg w' → JOk X w' J xs chk → Rd xs chk w'.S → R J w'.H
theorem DI.pi {tg iter : Expr} {wi : ID} (h : DI X tg iter wi) : PI X tg iter (liftI X wi) := by
  obtain ⟨t', p, l⟩ := h
  refine ⟨fun pins s σ H R I hw => ?_⟩
  obtain ⟨σd, w, Rd, rfl, rs, rl, h, k⟩ := hw
  exact p.run pins s σ w.H R I (l σ σd w Rd R rs rl h k)
theorem lc2_ok {is is1 vs vs1 : List Nat} {wi wi1 : ID} {g g1 : GD} {tt tt1 : BD} {te : TD} {wi' : TI} (his : ∀ i ∈ is, i ∈ vs) (his1 : ∀ i ∈ is1, i ∈ vs1) (li : ∀ σ σd w (Rd : List D → (Sto → Prop) → Sto → Prop) (R : It → Hp → Prop), RS X.K X.mg w → RL X.K X.mg w σ σd → wi σd w.S Rd →
    (∀ J w' xs chk, Keep w w' → RS X.K X.mg w' → JOk X w' J xs chk → Rd xs chk w'.S → R J w'.H) → wi' σ w.H R)
    (σ σd w Qd Q) (rs : RS X.K X.mg w) (rl : RL X.K X.mg w σ σd) (h : tlc2 wi vs g tt wi1 vs1 g1 tt1 te σd w.S Qd) (k : ThenE X w Qd Q) :
    tLc2 wi' (liftG X.K X.mg is g) (liftT X.K X.mg tt) (liftI X wi1) (liftG X.K X.mg is1 g1) (liftT X.K X.mg tt1) (liftE X.K X.mg te) vs vs1 σ w.H Q := by
  refine li σ σd w _ _ rs rl h fun J w1 xs chk k1 rs1 J1 q => ?_
  intro p hp
  have rlw := (rl.keep rs k1).wipe vs
  have hOw : ∀ a, a ≠ p → ((w1.O a ∨ a = p) ↔ w1.O a) := fun a h => ⟨fun z => z.elim (fun y => y) fun y => absurd y h, .inl⟩
  have hsp : w1.S p = none := by
    cases e : w1.S p with
    | none => rfl
    | some m =>
      obtain ⟨_, u, e2, _⟩ := rs1 p m e
      rw [hp] at e2; cases e2
  refine ⟨fun i m H' => ∃ w' us acc, w'.H = H' ∧ Keep w1 w' ∧ RS X.K X.mg w' ∧ RL X.K X.mg w' (L2.wipe σ vs) (wipeD σd vs) ∧ w'.H p = some (.lst us) ∧ w'.O p ∧ w'.S p = none ∧ Reps X.K X.mg w'.H w'.O us acc ∧ i + m = xs.length ∧
      tcomp2 g tt wi1 vs1 g1 tt1 te chk (wipeD σd vs) (fun acc S2 => Qd (.lst acc) S2) (xs.drop i) acc w'.S,
    ⟨xs.length, ⟨upd w1.H p (.lst []), fun a => w1.O a ∨ a = p, w1.S⟩, [], [], rfl, Keep.new hp hOw, rs1.new hp hOw, rlw.keep rs1 (Keep.new hp hOw), upd_same, .inr rfl, hsp, .nil, by omega, q⟩, ?_⟩
  rintro i m _ ⟨w2, us, acc, rfl, k2, rs2, rl2, hp2, ho2, hs2, ra2, em, q2⟩
  obtain ⟨j1, j2⟩ := J1 i w2 k2 rs2 (tcomp2_chk q2)
  by_cases hi : i < xs.length
  · obtain ⟨go, jy⟩ := j1 hi
    refine .inr ⟨go, fun H' => ∃ w' us acc, w'.H = H' ∧ Keep w1 w' ∧ RS X.K X.mg w' ∧ RL X.K X.mg w' (L2.wipe σ vs) (wipeD σd vs) ∧ w'.H p = some (.lst us) ∧ w'.O p ∧ w'.S p = none ∧ Reps X.K X.mg w'.H w'.O us acc ∧
      tcomp2 g tt wi1 vs1 g1 tt1 te chk (wipeD σd vs) (fun acc S2 => Qd (.lst acc) S2) (xs.drop (i + 1)) acc w'.S, fun H' ⟨w', us, acc, e, a1, a2, a3, a4, a5, a6, a7, a8⟩ => ⟨m - 1, by omega, w', us, acc, e, a1, a2, a3, a4, a5, a6, a7, by omega, a8⟩, fun x H' y => ?_⟩
    obtain ⟨w3, rfl, e3, k3, rs3, d, ed, rd⟩ := jy x H' y
    have ed' : xs.drop i = d :: xs.drop (i + 1) := by
      have hd : xs[i] = d := by
        rw [List.getElem?_eq_getElem hi] at ed
        exact Option.some.inj ed
      rw [← hd]
      exact List.drop_eq_getElem_cons hi
    rw [ed', tcomp2_cons] at q2
    obtain ⟨_, q3⟩ := q2
    rw [← e3] at q3
    refine ⟨wipeD σd vs, d, w3, _, rfl, rs3, rl2.keep rs2 k3, rd, q3, fun σ4 σd4 w4 k4 rs4 rl4 a4 q4 => ?_⟩
    refine ⟨wipe_agr a4 his, σd4, w4, _, rfl, rs4, rl4, q4, fun b w5 k5 rs5 q5 => ?_⟩
    have k25 := k3.trans (k4.trans k5)
    obtain ⟨b1, b2, b3⟩ := k25 p _ hp2 hs2
    cases b with
    | false =>
      refine iteF ?_
      rw [if_neg Bool.false_ne_true] at q5
      exact ⟨w5, us, acc, rfl, k2.trans k25, rs5, rl2.keep rs2 k25, b1, b3.mpr ho2, b2, ra2.keep rs2 k25, q5⟩
    | true =>
      refine iteT ?_
      rw [if_pos rfl] at q5
      have k15 : Keep w1 ⟨w5.H, w5.O, ups w5.S p (.ml acc)⟩ := fun a o e hs => by
        obtain ⟨c1, c2, c3⟩ := (k2.trans k25) a o e hs
        have hne : a ≠ p := ne_of_none e hp
        exact ⟨c1, by show ups w5.S p _ a = none; rw [ups_ne hne]; exact c2, c3⟩
      have rs5' : RS X.K X.mg ⟨w5.H, w5.O, ups w5.S p (.ml acc)⟩ := fun a m e => by
        by_cases hne : a = p
        · subst hne
          have e' : ups w5.S a (.ml acc) a = some m := e
          rw [ups_same] at e'
          cases e'
          have ra5 : Reps X.K X.mg w5.H w5.O us acc := ra2.keep rs2 k25
          exact ⟨b3.mpr ho2, .lst us, b1, .ml ra5⟩
        · have e' : ups w5.S p (.ml acc) a = some m := e
          rw [ups_ne hne] at e'
          exact rs5 a m e'
      have rl5 := rl2.keep rs2 k25
      have rl5' : RL X.K X.mg ⟨w5.H, w5.O, ups w5.S p (.ml acc)⟩ (L2.wipe σ vs) (wipeD σd vs) := ⟨rl5.len, rl5.get⟩
      have rl45 := rl4.keep rs4 k5
      have rl45' : RL X.K X.mg ⟨w5.H, w5.O, ups w5.S p (.ml acc)⟩ σ4 σd4 := ⟨rl45.len, rl45.get⟩
      refine ⟨σd4, ⟨w5.H, w5.O, ups w5.S p (.ml acc)⟩, _, rfl, rs5', rl45', q5 p b2, fun J1' w6 ys chk1 k6 rs6 J6 q6 => ?_⟩
      obtain ⟨sp6, q6⟩ := q6
      have rl6 := rl5'.keep rs5' k6
      have rl46 := (rl45'.keep rs5' k6).wipe vs1
      refine ⟨fun j k H' => ∃ w' acc', w'.H = H' ∧ Keep w6 w' ∧ RS X.K X.mg w' ∧ w'.S p = some (.ml acc') ∧ j + k = ys.length ∧ tinn g1 tt1 te chk1 (wipeD σd4 vs1) p (fun acc' S' => Unsaid p (tcomp2 g tt wi1 vs1 g1 tt1 te chk (wipeD σd vs) (fun acc S2 => Qd (.lst acc) S2) (xs.drop (i + 1)) acc') S') (ys.drop j) acc' w'.S,
        ⟨ys.length, w6, acc, rfl, .refl w6, rs6, sp6, by omega, q6⟩, ?_⟩
      rintro j kk _ ⟨w7, acc7, rfl, k7, rs7, sp7, ej, q7⟩
      obtain ⟨i1, i2⟩ := J6 j w7 k7 rs7 (tinn_chk q7)
      by_cases hj : j < ys.length
      · obtain ⟨go1, jy1⟩ := i1 hj
        refine .inr ⟨go1, fun H' => ∃ w' acc', w'.H = H' ∧ Keep w6 w' ∧ RS X.K X.mg w' ∧ w'.S p = some (.ml acc') ∧ tinn g1 tt1 te chk1 (wipeD σd4 vs1) p (fun acc' S' => Unsaid p (tcomp2 g tt wi1 vs1 g1 tt1 te chk (wipeD σd vs) (fun acc S2 => Qd (.lst acc) S2) (xs.drop (i + 1)) acc') S') (ys.drop (j + 1)) acc' w'.S,
          fun H' ⟨w', acc', e, a1, a2, a3, a4⟩ => ⟨kk - 1, by omega, w', acc', e, a1, a2, a3, by omega, a4⟩, fun x H' y => ?_⟩
        obtain ⟨w8, rfl, e8, k8, rs8, d8, ed8, rd8⟩ := jy1 x H' y
        have ed8' : ys.drop j = d8 :: ys.drop (j + 1) := by
          have hd : ys[j] = d8 := by
            rw [List.getElem?_eq_getElem hj] at ed8
            exact Option.some.inj ed8
          rw [← hd]
          exact List.drop_eq_getElem_cons hj
        rw [ed8', tinn_cons] at q7
        obtain ⟨_, q8⟩ := q7
        rw [← e8] at q8
        refine ⟨wipeD σd4 vs1, d8, w8, _, rfl, rs8, rl46.keep rs6 (k7.trans k8), rd8, q8, fun σ9 σd9 w9 k9 rs9 rl9 a9 q9 => ?_⟩
        refine ⟨wipe_agr a9 his1, σd9, w9, _, rfl, rs9, rl9, q9, fun b w10 k10 rs10 q10 => ?_⟩
        have k610 := k7.trans (k8.trans (k9.trans k10))
        cases b with
        | false =>
          refine iteF ?_
          rw [if_neg Bool.false_ne_true] at q10
          exact ⟨w10, acc7, rfl, k610, rs10, q10.1, q10.2⟩
        | true =>
          refine iteT ?_
          rw [if_pos rfl] at q10
          refine ⟨σd9, w10, _, rfl, rs10, rl9.keep rs9 k10, q10, fun yv yd w11 k11 rs11 ry q11 => ?_⟩
          obtain ⟨s11, l11, t11⟩ := q11
          obtain ⟨_, us11, h11, ra11⟩ := rs11.ml s11
          refine ⟨us11, h11, by rw [ra11.len]; exact l11, ?_⟩
          obtain ⟨w12, e1, e2, k12, rs12⟩ := own_put rs11 s11 (.ml (ra11.append (.cons ry .nil)))
          exact ⟨w12, acc7 ++ [yd], e1, k610.trans (k11.trans k12), rs12, by rw [e2]; exact ups_same, by rw [e2]; exact t11⟩
      · have e0 : ys.drop j = [] := List.drop_eq_nil_iff.mpr (by omega)
        rw [e0, tinn_nil] at q7
        obtain ⟨_, S', hn, hs', q8⟩ := q7
        refine .inl ⟨i2 (by omega), ?_⟩
        obtain ⟨o7, us7, h7, ra7⟩ := rs7.ml sp7
        obtain ⟨rs8, k8⟩ := rs7.less (S' := S') fun a m e => by
          have hne : a ≠ p := fun z => by rw [z, hn] at e; cases e
          rw [← hs' a hne]; exact e
        have k68 := k7.trans k8
        exact ⟨⟨w7.H, w7.O, S'⟩, us7, acc7, rfl, k15.trans (k6.trans k68), rs8, rl6.keep rs6 k68, h7, o7, hn, ra7, q8⟩
  · have e0 : xs.drop i = [] := List.drop_eq_nil_iff.mpr (by omega)
    rw [e0, tcomp2_nil] at q2
    exact .inl ⟨j2 (by omega), fin_lst w1 w2 p us acc Qd Q hp k2 rs2 hp2 ho2 hs2 ra2 q2.2 (k.keep k1)⟩
variable {elt tg iter tg1 iter1 : Expr} {ifs ifs1 : List Expr} {scope : Scope} {own : List (Str × Nat)} {is is1 : List Nat} {pos : Pos} {wi wi1 : ID} {g g1 : GD} {tt tt1 : BD} {te : TD}
theorem de_lc2 (hc : X.calm = true) (hN : X.N.Nodup) (hi : DI X tg iter wi) (ok : BlkOk X.N X.env.scope scope own) (his : ∀ i ∈ is, i ∈ own.map (·.2)) (his1 : ∀ i ∈ is1, i ∈ own.map (·.2))
    (hg : ∀ (s : Shared) (H : Hp) (C : Addr) (cl : List (Str × Addr)) (fp : List Addr), DG (X.blk s H scope (compEnvC scope cl C X.env) fp) tg is g) (ht : ∀ (s : Shared) (H : Hp) (C : Addr) (cl : List (Str × Addr)) (fp : List Addr), DTs (X.blk s H scope (compEnvC scope cl C X.env) fp) ifs tt)
    (hi1 : ∀ (s : Shared) (H : Hp) (C : Addr) (cl : List (Str × Addr)) (fp : List Addr), DI (X.blk s H scope (compEnvC scope cl C X.env) fp) tg1 iter1 wi1)
    (hg1 : ∀ (s : Shared) (H : Hp) (C : Addr) (cl : List (Str × Addr)) (fp : List Addr), DG (X.blk s H scope (compEnvC scope cl C X.env) fp) tg1 is1 g1) (ht1 : ∀ (s : Shared) (H : Hp) (C : Addr) (cl : List (Str × Addr)) (fp : List Addr), DTs (X.blk s H scope (compEnvC scope cl C X.env) fp) ifs1 tt1)
    (he : ∀ (s : Shared) (H : Hp) (C : Addr) (cl : List (Str × Addr)) (fp : List Addr), DE (X.blk s H scope (compEnvC scope cl C X.env) fp) elt te) (hs : ∀ x, foldedSetIterable iter X.env x = pure x) (hs1 : ∀ env x, foldedSetIterable iter1 env x = pure x) :
    DE X (.ListComp elt [⟨tg, iter, ifs, 0⟩, ⟨tg1, iter1, ifs1, 0⟩] scope pos) (tlc2 wi (own.map (·.2)) g tt wi1 is1 g1 tt1 te) := by
  obtain ⟨wi', pi, li⟩ := hi
  refine ⟨_, pe_lc2 (vs1 := is1) (g := liftG X.K X.mg is g) (tt := liftT X.K X.mg tt) (wi1 := liftI X wi1) (g1 := liftG X.K X.mg is1 g1) (tt1 := liftT X.K X.mg tt1) (te := liftE X.K X.mg te) hc hN pi ok his1 (fun s H C cl fp => (hg s H C cl fp).pg) (fun s H C cl fp => (ht s H C cl fp).pt)
    (fun s H C cl fp => (hi1 s H C cl fp).pi) (fun s H C cl fp => (hg1 s H C cl fp).pg) (fun s H C cl fp => (ht1 s H C cl fp).pt) (fun s H C cl fp => (he s H C cl fp).pe) hs hs1, fun σ σd w Qd Q rs rl h k => ?_⟩
  exact lc2_ok his (fun i hi => hi) li σ σd w Qd Q rs rl h k
end
end PyD

set_option Elab.async false
set_option linter.all false
set_option maxRecDepth 100000
set_option maxHeartbeats 2000000
/-! PyDU: a comprehension of any number of clauses, by the clauses one after another. -/
namespace PyD
open PySem PySem.Spec PyProof.Rows L2
section
variable {elt t0 i0 t1 i1 : Expr} {ifs0 ifs1 : List Expr} {gens : List Comprehension} {scope : Scope} {pos : Pos} {ci : Nat} {it acc : Value} {env : Env}
theorem turn_mid (h : gens[ci]? = some ⟨t0, i0, ifs0, 0⟩) (h1 : gens[ci + 1]? = some ⟨t1, i1, ifs1, 0⟩) :
    compTurn (.ListComp elt gens scope pos) ci it acc env = (do
      standAt i0.pos
      match ← pyNext it with
      | none => pure (.done .next)
      | some v =>
        letOwnedTupleGo t0 it v
        assign t0 env v
        let mut ok := true
        for c in ifs0 do
          if ok then ok ← isTrue c env (eval c env)
        if ok then
          let x ← eval i1 env
          standAt i1.pos
          let x ← foldedSetIterable i1 env x
          let _ ← runOwn (.compStart (.ListComp elt gens scope pos) (ci + 1) (← holding [x] (pyIter x)) acc env) env
        again (.compLoop (.ListComp elt gens scope pos) ci it acc env)) := by
  unfold compTurn
  simp only [h, h1]
  rfl
theorem turn_last (h : gens[ci]? = some ⟨t0, i0, ifs0, 0⟩) (h1 : gens[ci + 1]? = none) :
    compTurn (.ListComp elt gens scope pos) ci it acc env = (do
      standAt i0.pos
      match ← pyNext it with
      | none => pure (.done .next)
      | some v =>
        letOwnedTupleGo t0 it v
        assign t0 env v
        let mut ok := true
        for c in ifs0 do
          if ok then ok ← isTrue c env (eval c env)
        if ok then
          (do let _ ← call (.builtin "list.append") [acc, ← eval elt env])
        again (.compLoop (.ListComp elt gens scope pos) ci it acc env)) := by
  unfold compTurn
  simp only [h, h1]
  rfl
end
section
variable {prog : Program} {w : World} {A : Around} {R : Result → Shared → Prop} {s : Shared} {elt t0 i0 : Expr} {ifs0 : List Expr} {gens : List Comprehension} {scope : Scope} {pos : Pos} {ci : Nat} {it acc : Value} {env : Env}
/-- what stands behind a turn's tests -/
def Rest (prog : Program) (w : World) (A : Around) (R : Result → Shared → Prop) (elt : Expr) (gens : List Comprehension) (scope : Scope) (pos : Pos) (ci : Nat) (acc : Value) (env : Env) (Post : Shared → Prop) (s : Shared) : Prop := match gens[ci + 1]? with
  | some g' => wpAny (model prog w) A (eval g'.iter env) (fun x s₄ => wpAny (model prog w) A (pyIter x) (fun it1 s₅ =>
      codeAny (model prog w) A (.compStart (.ListComp elt gens scope pos) (ci + 1) it1 acc env) (fun r s' => match r with
        | .ok _ => Post s'
        | .error _ => False) s₅) (notedBy (model prog w) A env fun e s' => R (.error e) s') s₄) (notedBy (model prog w) A env fun e s' => R (.error e) s') s
  | none => wpAny (model prog w) A (eval elt env) (fun x s₄ =>
      wpAny (model prog w) A (call (.builtin "list.append") [acc, x]) (fun _ s₅ => Post s₅) (notedBy (model prog w) A env fun e s' => R (.error e) s') s₄) (notedBy (model prog w) A env fun e s' => R (.error e) s') s
/-- the loop of a clause -/
theorem loop_gen (h : gens[ci]? = some ⟨t0, i0, ifs0, 0⟩) (hz : ∀ g', gens[ci + 1]? = some g' → g'.is_async = 0 ∧ ∀ x, foldedSetIterable g'.iter env x = pure x) (I : Nat → Shared → Prop)
    (turn : ∀ n s, I n s → wpAny (model prog w) A (pyNext it) (fun r s₁ => match r with
      | none => R (.ok .next) s₁
      | some v => wpAny (model prog w) A (letOwnedTupleGo t0 it v) (fun _ s₁' => wpAny (model prog w) A (assign t0 env v) (fun _ s₂ =>
          wpAny (model prog w) A (forIn ifs0 true fun c r => if r = true then do let ok ← isTrue c env (eval c env); pure (ForInStep.yield ok) else pure (ForInStep.yield r)) (fun ok s₃ =>
            if ok = true then Rest prog w A R elt gens scope pos ci acc env (fun s' => ∃ m, m < n ∧ I m s') s₃
            else ∃ m, m < n ∧ I m s₃) (notedBy (model prog w) A env fun e s' => R (.error e) s') s₂) (notedBy (model prog w) A env fun e s' => R (.error e) s') s₁') (notedBy (model prog w) A env fun e s' => R (.error e) s') s₁) (notedBy (model prog w) A env fun e s' => R (.error e) s') s)
    (n : Nat) (hI : I n s) : codeAny (model prog w) A (.compLoop (.ListComp elt gens scope pos) ci it acc env) R s := by
  refine codeAny_loop rfl I (fun n s hI => ?_) n hI
  show wpAny _ A ((compTurn (.ListComp elt gens scope pos) ci it acc env).onRaise (fun x => do noteFrame x env; theTreesLotGoes x)) _ _ s
  refine wpAny_noted ?_
  cases e : gens[ci + 1]? with
  | none =>
    rw [turn_last h e]
    refine wpAny_bind (wpAny_standAt (wpAny_bind (wpAny_mono (turn n s hI) (fun r s₁ h₁ => ?_) fun _ _ h' => h')))
    cases r with
    | none => exact wpAny_pure h₁
    | some v =>
      refine wpAny_bind (wpAny_mono h₁ (fun _ s₁' h₁' => ?_) fun _ _ h' => h')
      refine wpAny_bind (wpAny_mono h₁' (fun _ s₂ h₂ => wpAny_bind (wpAny_mono h₂ (fun ok s₃ h₃ => ?_) fun _ _ h' => h')) fun _ _ h' => h')
      cases ok with
      | false => exact wpAny_pure ⟨rfl, h₃⟩
      | true =>
        simp only [if_true, Rest, e] at h₃
        exact wpAny_bind (wpAny_bind (wpAny_mono h₃ (fun x s₄ h₄ => wpAny_bind (wpAny_mono h₄ (fun _ s₅ h₅ => wpAny_pure (wpAny_pure ⟨rfl, h₅⟩)) fun _ _ h' => h')) fun _ _ h' => h'))
  | some g' =>
    obtain ⟨ha, hf⟩ := hz g' e
    obtain ⟨t1, i1, ifs1, asy⟩ := g'
    simp only at ha hf
    subst ha
    rw [turn_mid h e]
    refine wpAny_bind (wpAny_standAt (wpAny_bind (wpAny_mono (turn n s hI) (fun r s₁ h₁ => ?_) fun _ _ h' => h')))
    cases r with
    | none => exact wpAny_pure h₁
    | some v =>
      refine wpAny_bind (wpAny_mono h₁ (fun _ s₁' h₁' => ?_) fun _ _ h' => h')
      refine wpAny_bind (wpAny_mono h₁' (fun _ s₂ h₂ => wpAny_bind (wpAny_mono h₂ (fun ok s₃ h₃ => ?_) fun _ _ h' => h')) fun _ _ h' => h')
      cases ok with
      | false => exact wpAny_pure ⟨rfl, h₃⟩
      | true =>
        simp only [if_true, Rest, e] at h₃
        refine wpAny_bind (wpAny_mono h₃ (fun x s₄ h₄ => ?_) fun _ _ h' => h')
        refine wpAny_bind (wpAny_standAt (wpAny_bind (wpAny_of_eq (hf x) (wpAny_bind (wpAny_holding (wpAny_mono h₄ (fun it1 s₅ h₅ => ?_) fun _ _ h' => h'))))))
        refine wpAny_bind (wpAny_runOwn ?_)
        rw [Around.mark_none]
        refine codeAny_mono h₅ fun r s' hr => ?_
        cases r with
        | ok f =>
          first
            | exact wpAny_pure ⟨rfl, hr⟩
            | exact wpAny_bind (wpAny_pure (wpAny_pure ⟨rfl, hr⟩))
        | error e => exact hr.elim
/-- a clause's start -/
theorem start_gen (hg : gens[ci]? = some ⟨t0, i0, ifs0, 0⟩) (h0 : codeAny (model prog w) A (.compLoop (.ListComp elt gens scope pos) ci it acc env) R s)
    (h : wpAny (model prog w) A (pyIter it) (fun it' s' => codeAny (model prog w) A (.compLoop (.ListComp elt gens scope pos) ci it' acc env) R s')
      (notedBy (model prog w) A env fun x s' => R (.error x) s') s) :
    codeAny (model prog w) A (.compStart (.ListComp elt gens scope pos) ci it acc env) R s := by
  refine codeAny_of_tree ?_
  show wpAny _ _ ((compStart (.ListComp elt gens scope pos) ci it acc env).onRaise (fun x => do noteFrame x env; standAt theWindowsPlace)) _ _ s
  refine wpAny_notedAt ?_
  have hc : clausesOf (.ListComp elt gens scope pos) = gens := rfl
  unfold compStart
  simp only [hc, hg]
  show wpAny _ _ (ask >>= _) _ _ s
  refine wpAny_bind (wpAny_askSetting (wpAny_ite ?_))
  split
  · first
      | exact wpAny_bind (wpAny_pure (wpAny_pure (And.intro rfl h0)))
      | exact wpAny_pure (And.intro rfl h0)
  · first
      | exact wpAny_bind (wpAny_rule (wpAny_bind (wpAny_standAt (wpAny_bind (wpAny_mono h (fun it' s' h' => wpAny_pure (And.intro rfl h')) fun _ _ x => x)))))
      | (refine wpAny_bind (wpAny_rule ?_); show wpAny _ _ (standAt i0.pos >>= _) _ _ s; exact wpAny_bind (wpAny_standAt (wpAny_bind (wpAny_mono h (fun it' s' h' => wpAny_pure (And.intro rfl h')) fun _ _ x => x))))
end
/-! ### the clauses behind the first one -/
structure Cl where
  tg : Expr
  iter : Expr
  ifs : List Expr
  wi : TI
  g : TG
  tt : L2.TT
  vs : List Nat
def Cl.gen (c : Cl) : Comprehension := ⟨c.tg, c.iter, c.ifs, 0⟩
structure ClOk (Y : Cx) (c : Cl) : Prop where
  pi : PI Y c.tg c.iter c.wi
  pg : PG Y c.tg c.g
  pt : PTs Y c.ifs c.tt
  fold : ∀ x, foldedSetIterable c.iter Y.env x = pure x
def tCls (te : TE) (D : Addr) : List Cl → L2.St → Hp → (Hp → Prop) → Prop
  | [], σ, H, Nx => te σ H fun y H' => ∃ acc, H' D = some (.lst acc) ∧ acc.length < sizeLine ∧ Nx (upd H' D (.lst (acc ++ [y])))
  | c :: cs, σ, H, Nx => c.wi σ H fun J H1 => ∃ W : Nat → Nat → Hp → Prop, (∃ m, W 0 m H1) ∧ ∀ j k H, W j k H → (J.stop j H ∧ Nx H) ∨ (J.go j H ∧ ∃ Nx1 : Hp → Prop, (∀ H', Nx1 H' → ∃ k', k' < k ∧ W (j + 1) k' H') ∧
      ∀ x H', J.yld j H x H' → c.g x (L2.wipe σ c.vs) H' fun σ3 H5 => L2.wipe σ3 c.vs = L2.wipe σ c.vs ∧ c.tt σ3 H5 fun b H6 => if b = true then tCls te D cs σ3 H6 Nx1 else Nx1 H6)
def headVs : List Cl → List Nat
  | [] => []
  | c :: _ => c.vs
def Nested : List Cl → Prop
  | [] => True
  | c :: cs => (∀ i ∈ headVs cs, i ∈ c.vs) ∧ Nested cs
theorem thnY {Y : Cx} (hxe : Y.xe = fun _ _ => False) {α : Type} {t : Sem α} {Q Q' : α → Shared → Prop} {M : Model} {A : Around} {E : Value → Shared → Prop} {s : Shared} (h : wpAny M A t Q Y.xe s) (hQ : ∀ a s, Q a s → Q' a s) : wpAny M A t Q' E s := by
  rw [hxe] at h
  exact thnF h hQ
section
variable {Y : Cx} {elt : Expr} {te : TE} {gens : List Comprehension} {scope : Scope} {pos : Pos} {D : Addr}
theorem rest_ok (hc : Y.calm = true) (hxe : Y.xe = fun _ _ => False) (pe : PE Y elt te) : ∀ (cs : List Cl) (pre : List Comprehension) (ci : Nat), gens = pre ++ cs.map Cl.gen → ci + 1 = pre.length → (∀ c ∈ cs, ClOk Y c) → Nested cs →
    ∀ (R : Result → Shared → Prop) (P : List (Addr × Obj)) (σ : L2.St) (H : Hp) (s : Shared) (Nx : Hp → Prop) (Post : Shared → Prop), Inv Y P σ H s → tCls te D cs σ H Nx →
      (∀ σ' H' s', Inv Y P σ' H' s' → σ'.length = σ.length → (∀ (j : Nat) v, j ∉ headVs cs → σ[j]? = some (some v) → σ'[j]? = some (some v)) → Nx H' → Post s') →
      Rest Y.prog Y.w Y.A R elt gens scope pos ci (.ref D) Y.env Post s
  | [], pre, ci, hg, hci, _, _, R, P, σ, H, s, Nx, Post, I, h, hP => by
    have hn : gens[ci + 1]? = none := by rw [hg, hci]; simp
    simp only [Rest, hn]
    refine thnY hxe (pe.run P s σ H _ I h) fun z s17 ⟨yv, H17, I17, r17, acc, hD17, hz17, nx⟩ => ?_
    exact app_ok (X := Y) I17 hD17 hz17 r17 fun s18 I18 => hP σ _ s18 I18 rfl (fun _ _ _ e => e) nx
  | c :: cs, pre, ci, hg, hci, hok, hnest, R, P, σ, H, s, Nx, Post, I, h, hP => by
    have hs : gens[ci + 1]? = some c.gen := by rw [hg, hci]; simp
    have C := hok c (List.mem_cons_self ..)
    simp only [Rest, hs]
    refine thnY hxe (C.pi.run P s σ H _ I h) fun xv s10 hx => thnY hxe hx fun itv s11 h11 => ?_
    obtain ⟨it1, fp1, tn1, J1, H11, e1, I11, T1, st11, f11, W1, ⟨m1, w1⟩, turn1⟩ := h11
    subst e1
    have stat1 : ∀ {H' : Hp}, (∀ b ∈ fp1, H' b = none) → ∀ b ∈ fp1, FpOk Y P H' b := fun hn b hb => ⟨hn b hb, (f11 b hb).2⟩
    have hz : ∀ g', gens[ci + 1 + 1]? = some g' → g'.is_async = 0 ∧ ∀ x, foldedSetIterable g'.iter Y.env x = pure x := fun g' e => by
      cases cs with
      | nil => rw [hg, hci] at e; simp at e
      | cons c' cs' =>
        rw [hg, hci, List.getElem?_append_right (by omega)] at e
        simp at e
        subst e
        exact ⟨rfl, (hok c' (by simp)).fold⟩
    have loop1 : codeAny (model Y.prog Y.w) Y.A (.compLoop (.ListComp elt gens scope pos) (ci + 1) (.ref it1) (.ref D) Y.env)
        (fun r s' => match r with
          | .ok _ => Post s'
          | .error _ => False) s11 := by
      refine loop_gen (h := hs) hz (fun k s' => ∃ j H', Inv Y P (L2.wipe σ c.vs) H' s' ∧ tn1 j s'.heap ∧ (∀ b ∈ fp1, H' b = none) ∧ W1 j k H') ?_ m1 ⟨0, H11, I11.weak (wipe_length _ _) (fun j v e => (wipe_some e).1), st11, fun b hb => (f11 b hb).1, w1⟩
      rintro k s12 ⟨j, H12, I12, st12, n12, w12⟩
      rcases turn1 j k H12 w12 with ⟨stop1, nx1⟩ | ⟨go1, Nx1, hNx1, step1⟩
      · refine thnF (T1.done Y rfl rfl rfl hc j _ s12 (L2.wipe σ c.vs) H12 (fun _ _ => False) I12 (stat1 n12) st12 stop1) fun r s13 ⟨hr, I13⟩ => ?_
        subst hr
        exact hP _ H12 s13 I13 (wipe_length _ _) (fun j v hj e => (wipe_out (vs := c.vs) hj).trans e) nx1
      · refine thnF (T1.item Y rfl rfl rfl hc j _ s12 (L2.wipe σ c.vs) H12 (fun _ _ => False) I12 (stat1 n12) st12 go1) fun r s13 ⟨u1, hr, h13⟩ => ?_
        subst hr
        refine thnF h13 fun _ s14 ⟨x1, H14, I14, r14, y14, st14, n14⟩ => ?_
        have I14' := I14.pinned (stat1 n14) (T1.obj _ _ st14)
        refine thnY hxe (C.pg.run _ s14 (L2.wipe σ c.vs) H14 x1 u1 _ I14' r14 (step1 x1 H14 y14)) fun _ s15 ⟨σ15, H15, I15, hw15, q15⟩ => ?_
        refine thnY hxe (C.pt.run _ s15 σ15 H15 _ I15 q15) fun b1 s16 ⟨H16, I16, q16⟩ => ?_
        have fin1 : ∀ {σ' : L2.St} {s' : Shared} {H' : Hp}, Inv Y (P ++ pinsAt fp1 s14.heap) σ' H' s' → (L2.wipe σ c.vs).length = σ'.length → (∀ (j : Nat) v, (L2.wipe σ c.vs)[j]? = some (some v) → σ'[j]? = some (some v)) → Nx1 H' →
            ∃ m, m < k ∧ ∃ j H', Inv Y P (L2.wipe σ c.vs) H' s' ∧ tn1 j s'.heap ∧ (∀ b ∈ fp1, H' b = none) ∧ W1 j m H' := fun {σ' s' H'} I' hl hk nx => by
          obtain ⟨m', hm, w'⟩ := hNx1 H' nx
          have pin' : ∀ b ∈ fp1, ∀ o, s14.heap.get? b = some o → s'.heap.get? b = some o ∧ H' b = none := fun b hb o e =>
            let z := I'.pin (b, o) (List.mem_append_right _ (List.mem_append_right _ (mem_pinsAt hb e)))
            ⟨z.1, z.2.1⟩
          refine ⟨m', hm, j + 1, H', I'.unpinned.weak hl hk, T1.keep _ _ _ st14 fun b hb o e => (pin' b hb o e).1, fun b hb => ?_, w'⟩
          obtain ⟨o, e, _⟩ := T1.obj _ _ st14 b hb
          exact (pin' b hb o e).2
        have hl15 : (L2.wipe σ c.vs).length = σ15.length := by rw [← hw15, wipe_length]
        cases b1 with
        | false =>
          simp only [Bool.false_eq_true, if_false] at q16 ⊢
          exact fin1 I16 hl15 (fun j v e => by rw [← hw15] at e; exact (wipe_some e).1) q16
        | true =>
          simp only [if_true] at q16 ⊢
          refine rest_ok hc hxe pe cs (pre ++ [c.gen]) (ci + 1) (by rw [hg]; simp) (by simp [hci]) (fun c' h' => hok c' (List.mem_cons_of_mem _ h')) hnest.2 _ _ σ15 H16 s16 Nx1 _ I16 q16 fun σ' H' s' I' hl hk nx => ?_
          refine fin1 I' (hl15.trans hl.symm) (fun j v e => ?_) nx
          rw [← hw15] at e
          obtain ⟨e1, e2⟩ := wipe_some e
          exact hk j v (fun z => e2 (hnest.1 j z)) e1
    exact start_gen hs loop1 (T1.self Y.A 0 _ _ _ st11 loop1)
end
/-! ### the first clause -/
def tLcN (wi : TI) (g : TG) (tt : L2.TT) (te : TE) (vs : List Nat) (cs : List Cl) : TE := fun σ H Q => wi σ H fun J H1 => ∀ D, H1 D = none → ∃ W : Nat → Nat → Hp → Prop, (∃ m, W 0 m (upd H1 D (.lst []))) ∧ ∀ i m H, W i m H →
  (J.stop i H ∧ Q (.ref D) H) ∨ (J.go i H ∧ ∃ Nx : Hp → Prop, (∀ H', Nx H' → ∃ m', m' < m ∧ W (i + 1) m' H') ∧ ∀ x H', J.yld i H x H' → g x (L2.wipe σ vs) H' fun σ2 H2 => L2.wipe σ2 vs = L2.wipe σ vs ∧ tt σ2 H2 fun b H3 =>
    if b = true then tCls te D cs σ2 H3 Nx else Nx H3)
section
variable {X : Cx}
theorem lcN_core {pins : List (Addr × Obj)} {s : Shared} {σ : L2.St} {H : Hp} {Q : VK} {elt tg iter : Expr} {ifs : List Expr} {cs : List Cl} {scope : Scope} {own : List (Str × Nat)} {pos pos' : Pos} {wi : TI} {g : TG} {tt : L2.TT} {te : TE} {use : Option (Value → Sem Unit)} {Qf : Value → Shared → Prop}
    (hc : X.calm = true) (hN : X.N.Nodup) (I : Inv X pins σ H s) (hi : PI X tg iter wi) (ok : BlkOk X.N X.env.scope scope own) (hv : ∀ i ∈ headVs cs, i ∈ own.map (·.2)) (hn : Nested cs)
    (hg : ∀ (s : Shared) (H : Hp) (C : Addr) (cl : List (Str × Addr)) (fp : List Addr), PG (X.blk s H scope (compEnvC scope cl C X.env) fp) tg g) (ht : ∀ (s : Shared) (H : Hp) (C : Addr) (cl : List (Str × Addr)) (fp : List Addr), PTs (X.blk s H scope (compEnvC scope cl C X.env) fp) ifs tt)
    (he : ∀ (s : Shared) (H : Hp) (C : Addr) (cl : List (Str × Addr)) (fp : List Addr), PE (X.blk s H scope (compEnvC scope cl C X.env) fp) elt te) (hs : ∀ x, foldedSetIterable iter X.env x = pure x)
    (hcs : ∀ (s : Shared) (H : Hp) (C : Addr) (cl : List (Str × Addr)) (fp : List Addr), ∀ c ∈ cs, ClOk (X.blk s H scope (compEnvC scope cl C X.env) fp) c)
    (h : tLcN wi g tt te (own.map (·.2)) cs σ H Q)
    (hRR : ∀ D C s' m H', Inv X pins σ H' s' → Q (.ref D) H' → s'.heap.Ns C m → FpOk X pins H' C → compPost (model X.prog X.w) X.A X.xe use Qf (.ref D) C (.ok .next) s') :
    wpAny (model X.prog X.w) X.A (comprehension (.ListComp elt (⟨tg, iter, ifs, 0⟩ :: cs.map Cl.gen) scope pos) scope X.env pos' (newList []) false (eval iter X.env) use) Qf X.xe s := by
  have hfree : ∀ y ∈ scope.names, y.2 = .free → ∃ c, X.env.cells.lookup y.1 = some c := fun y hy e => by
    rcases ok.free y hy e with k | k
    · exact I.ok.has _ (.inl k)
    · exact I.ok.has _ (.inr k)
  refine wpAny_comprehension_free (use := use) rfl hs (closure_ok hfree) ok.kind (fun y hy e => by rw [ok.uniq y hy, e])
    (thn (hi.run pins s σ H _ I h) fun xv s1 hx => thn hx fun itv s2 h2 => ?_)
  obtain ⟨it, fp, tn, J, H2, e, I2, T, st2, f2, q⟩ := h2
  subst e
  refine wpAny_newObj_type (newEnv_comp ?_) (by show 0 ≤ sizeLine; decide)
  generalize hD : s2.heap.objs.size = D
  have hDn : H2 D = none := I2.hok.fresh (Nat.le_of_eq hD)
  obtain ⟨W, ⟨m0, w0⟩, turn⟩ := q D hDn
  generalize hs3 : ({ s2 with heap := s2.heap.push { cls := .type "list", data := .seq ([] : List Value).toArray } } : Shared) = s3
  have I3 : Inv X pins σ (upd H2 D (.lst [])) s3 := by
    rw [← hs3]
    refine I2.laid (t' := s2.toks) (fun b o e => Heap.get?_push_of_some _ e) (Nat.le_of_eq hD) ⟨Nat.zero_le _, [], 0, .nil, ?_⟩
    rw [← hD]
    exact Heap.get?_push_size _ rfl
  have h3 : s3.heap = s2.heap.push { cls := .type "list", data := .seq ([] : List Value).toArray } := by rw [← hs3]
  have sz : ∀ b ∈ fp, b < s2.heap.objs.size := fun b hb => by
    obtain ⟨o, e, _⟩ := T.obj _ _ st2 b hb
    exact Heap.lt_size e
  have f3 : ∀ b ∈ fp, FpOk X pins (upd H2 D (.lst [])) b ∧ b < s3.heap.objs.size := fun b hb => by
    have hlt := sz b hb
    refine ⟨⟨?_, (f2 b hb).2⟩, by rw [h3, Heap.size_push]; exact Nat.lt_succ_of_lt hlt⟩
    rw [upd_ne (by rw [← hD]; exact Nat.ne_of_lt hlt)]
    exact (f2 b hb).1
  have st3 : tn 0 s3.heap := T.keep _ _ _ st2 fun b _ o e => by rw [h3]; exact Heap.get?_push_of_some _ e
  have I4 := block_start I3 ok hN f3
  have pg := hg s3 (upd H2 D (.lst [])) s3.heap.objs.size (cellsFrom (s3.heap.objs.size + 1) scope.names (cloFrom X.env.cells scope.names [])) fp
  have pt := ht s3 (upd H2 D (.lst [])) s3.heap.objs.size (cellsFrom (s3.heap.objs.size + 1) scope.names (cloFrom X.env.cells scope.names [])) fp
  have pe := he s3 (upd H2 D (.lst [])) s3.heap.objs.size (cellsFrom (s3.heap.objs.size + 1) scope.names (cloFrom X.env.cells scope.names [])) fp
  have pcs := hcs s3 (upd H2 D (.lst [])) s3.heap.objs.size (cellsFrom (s3.heap.objs.size + 1) scope.names (cloFrom X.env.cells scope.names [])) fp
  show codeAny _ _ (.compStart (.ListComp elt (⟨tg, iter, ifs, 0⟩ :: cs.map Cl.gen) scope pos) 0 (.ref it) (.ref D) (compEnvC scope (cellsFrom (s3.heap.objs.size + 1) scope.names (cloFrom X.env.cells scope.names [])) s3.heap.objs.size X.env)) (compPost (model X.prog X.w) X.A X.xe use Qf (.ref D) s3.heap.objs.size) { s3 with heap := pushCells (s3.heap.push { cls := .type "dict", data := .dict #[] }) scope.names }
  have nfp : ∀ b ∈ fp, (upd H2 D (.lst [])) b = none := fun b hb => (f3 b hb).1.1
  generalize hce : compEnvC scope (cellsFrom (s3.heap.objs.size + 1) scope.names (cloFrom X.env.cells scope.names [])) s3.heap.objs.size X.env = ce at I4 pg pt pe pcs ⊢
  have cL : ce.locals = s3.heap.objs.size := by subst hce; rfl
  generalize hH3 : upd H2 D (.lst []) = H3 at I3 I4 pg pt pe pcs w0 nfp f3
  generalize hs4 : ({ s3 with heap := pushCells (s3.heap.push { cls := .type "dict", data := .dict #[] }) scope.names } : Shared) = s4 at I4 ⊢
  have st4 : tn 0 s4.heap := T.keep _ _ _ st3 fun b _ o e => by rw [← hs4]; exact pushCells_keeps _ _ _ _ (Heap.get?_push_of_some _ e)
  have stat : ∀ {σ' : L2.St} {H' : Hp} {s' : Shared}, Inv (X.blk s3 H3 scope ce fp) [] σ' H' s' → (∀ b ∈ fp, H' b = none) → ∀ b ∈ fp, FpOk (X.blk s3 H3 scope ce fp) [] H' b := fun {σ' H' s'} I' hn b hb =>
    ⟨hn b hb, (I'.ok.exf b hb).1, I'.ok.exfs b hb, .inl hb, fun x c e => (I'.ok.exf b hb).2 x c e, fun p hp => absurd (show p ∈ ([] : List (Addr × Obj)) ++ [] from hp) (by simp)⟩
  have hz : ∀ g', (⟨tg, iter, ifs, 0⟩ :: cs.map Cl.gen)[0 + 1]? = some g' → g'.is_async = 0 ∧ ∀ x, foldedSetIterable g'.iter ce x = pure x := fun g' e => by
    cases cs with
    | nil => simp at e
    | cons c' cs' =>
      simp at e
      subst e
      exact ⟨rfl, (pcs c' (by simp)).fold⟩
  have loop : codeAny (model X.prog X.w) X.A (.compLoop (.ListComp elt (⟨tg, iter, ifs, 0⟩ :: cs.map Cl.gen) scope pos) 0 (.ref it) (.ref D) ce) (compPost (model X.prog X.w) X.A X.xe use Qf (.ref D) s3.heap.objs.size) s4 := by
    refine loop_gen (h := rfl) hz (fun n s' => ∃ i H', Inv (X.blk s3 H3 scope ce fp) [] (L2.wipe σ (own.map (·.2))) H' s' ∧ tn i s'.heap ∧ (∀ b ∈ fp, H' b = none) ∧ W i n H') ?_ m0 ⟨0, H3, I4, st4, nfp, w0⟩
    rintro n s5 ⟨i, H5, I5, st5, n5, w5⟩
    rcases turn i n H5 w5 with ⟨stop, qq⟩ | ⟨go, Nx, hNx, step⟩
    · have td := T.done (X.blk s3 H3 scope ce fp) rfl rfl rfl hc i [] s5 _ H5 (fun _ _ => False) I5 (stat I5 n5) st5 stop
      refine thnF td fun r s6 ⟨hr, I6⟩ => ?_
      subst hr
      have I7 : Inv X pins σ H5 s6 := I3.call' (ch := fp) I6.os I6.base I6.hok I6.bare fun b hb => ⟨(f3 b hb).1.2.2.2.1, (f3 b hb).1.2.1, (f3 b hb).1.2.2.2.2.1, (f3 b hb).1.2.2.2.2.2⟩
      have nC : H5 s3.heap.objs.size = none := by
        have z : H5 ce.locals = none := I6.free
        rw [cL] at z
        exact z
      obtain ⟨m, hn, _⟩ := I6.loc
      have hn : s6.heap.Ns ce.locals m := hn
      rw [cL] at hn
      exact hRR D s3.heap.objs.size s6 m H5 I7 qq hn (I3.fpOk (Nat.le_refl _) nC)
    · have ti := T.item (X.blk s3 H3 scope ce fp) rfl rfl rfl hc i [] s5 _ H5 (fun _ _ => False) I5 (stat I5 n5) st5 go
      refine thnF ti fun r s6 ⟨u, hr, h6⟩ => ?_
      subst hr
      refine thnF h6 fun _ s7 ⟨x, H7, I7, r7, y7, st7, n7⟩ => ?_
      have I7' := I7.pinned (stat I7 n7) (T.obj _ _ st7)
      refine thnF (pg.run _ s7 _ H7 x u _ I7' r7 (step x H7 y7)) fun _ s8 ⟨σ8, H8, I8, hw8, q8⟩ => ?_
      refine thnF (pt.run _ s8 σ8 H8 _ I8 q8) fun b s9 ⟨H9, I9, q9⟩ => ?_
      have fin : ∀ {σ9 : L2.St} {s' : Shared} {H' : Hp}, Inv (X.blk s3 H3 scope ce fp) ([] ++ pinsAt fp s7.heap) σ9 H' s' → (L2.wipe σ (own.map (·.2))).length = σ9.length → (∀ (j : Nat) v, (L2.wipe σ (own.map (·.2)))[j]? = some (some v) → σ9[j]? = some (some v)) → Nx H' →
          ∃ m, m < n ∧ ∃ i H', Inv (X.blk s3 H3 scope ce fp) [] (L2.wipe σ (own.map (·.2))) H' s' ∧ tn i s'.heap ∧ (∀ b ∈ fp, H' b = none) ∧ W i m H' := fun {σ9 s' H'} I' hl hk nx => by
        obtain ⟨m', hm, w'⟩ := hNx H' nx
        have pin' : ∀ b ∈ fp, ∀ o, s7.heap.get? b = some o → s'.heap.get? b = some o ∧ H' b = none := fun b hb o e =>
          let z := I'.pin (b, o) (List.mem_append_right _ (List.mem_append_right _ (mem_pinsAt hb e)))
          ⟨z.1, z.2.1⟩
        refine ⟨m', hm, i + 1, H', (I'.unpinned (pins := [])).weak hl hk, T.keep _ _ _ st7 fun b hb o e => (pin' b hb o e).1, fun b hb => ?_, w'⟩
        obtain ⟨o, e, _⟩ := T.obj _ _ st7 b hb
        exact (pin' b hb o e).2
      have hl8 : (L2.wipe σ (own.map (·.2))).length = σ8.length := by rw [← hw8, wipe_length]
      cases b with
      | false =>
        simp only [Bool.false_eq_true, if_false] at q9 ⊢
        exact fin I9 hl8 (fun j v e => by rw [← hw8] at e; exact (wipe_some e).1) q9
      | true =>
        simp only [if_true] at q9 ⊢
        refine rest_ok (Y := X.blk s3 H3 scope ce fp) hc rfl pe cs [⟨tg, iter, ifs, 0⟩] 0 rfl rfl pcs hn _ _ σ8 H9 s9 Nx _ I9 q9 fun σ' H' s' I' hl hk nx => ?_
        refine fin I' (hl8.trans hl.symm) (fun j v e => ?_) nx
        rw [← hw8] at e
        obtain ⟨e1, e2⟩ := wipe_some e
        exact hk j v (fun z => e2 (hv j z)) e1
  exact codeAny_compStart_list loop (T.self X.A 0 _ _ _ st4 loop)
theorem pe_lcN {elt tg iter : Expr} {ifs : List Expr} {cs : List Cl} {scope : Scope} {own : List (Str × Nat)} {pos : Pos} {wi : TI} {g : TG} {tt : L2.TT} {te : TE} (hc : X.calm = true) (hN : X.N.Nodup) (hi : PI X tg iter wi) (ok : BlkOk X.N X.env.scope scope own) (hv : ∀ i ∈ headVs cs, i ∈ own.map (·.2)) (hn : Nested cs)
    (hg : ∀ (s : Shared) (H : Hp) (C : Addr) (cl : List (Str × Addr)) (fp : List Addr), PG (X.blk s H scope (compEnvC scope cl C X.env) fp) tg g) (ht : ∀ (s : Shared) (H : Hp) (C : Addr) (cl : List (Str × Addr)) (fp : List Addr), PTs (X.blk s H scope (compEnvC scope cl C X.env) fp) ifs tt)
    (he : ∀ (s : Shared) (H : Hp) (C : Addr) (cl : List (Str × Addr)) (fp : List Addr), PE (X.blk s H scope (compEnvC scope cl C X.env) fp) elt te) (hs : ∀ x, foldedSetIterable iter X.env x = pure x)
    (hcs : ∀ (s : Shared) (H : Hp) (C : Addr) (cl : List (Str × Addr)) (fp : List Addr), ∀ c ∈ cs, ClOk (X.blk s H scope (compEnvC scope cl C X.env) fp) c) :
    PE X (.ListComp elt (⟨tg, iter, ifs, 0⟩ :: cs.map Cl.gen) scope pos) (tLcN wi g tt te (own.map (·.2)) cs) := by
  refine ⟨fun pins s σ H Q I h => ?_⟩
  rw [eval_ListComp]
  refine lcN_core hc hN I hi ok hv hn hg ht he hs hcs h fun D C s' m H' I' q hn f => ⟨m, hn, fun h'' sb => ?_⟩
  obtain ⟨f0, f1, f2, f3, f4, f5⟩ := f
  exact ⟨.ref D, H', I'.turned (t' := s'.toks) (fun b o hb e => (sb.2 b hb).trans e) f0 f1 f3 f4 f5, rfl, q⟩
theorem ps_setLcN {i : Nat} {y : Str} {py : Pos} {elt tg iter : Expr} {ifs : List Expr} {cs : List Cl} {scope : Scope} {own : List (Str × Nat)} {pos spos : Pos} {wi : TI} {g : TG} {tt : L2.TT} {te : TE} (hc : X.calm = true) (hN : X.N.Nodup) (hy : X.N[i]? = some y) (hyl : X.env.scope.names.lookup y = some .local)
    (hsw : swapsWith (.ListComp elt (⟨tg, iter, ifs, 0⟩ :: cs.map Cl.gen) scope pos) (some (.Name y py)) spos.line X.env = pure true) (hi : PI X tg iter wi) (ok : BlkOk X.N X.env.scope scope own) (hv : ∀ i ∈ headVs cs, i ∈ own.map (·.2)) (hn : Nested cs)
    (hg : ∀ (s : Shared) (H : Hp) (C : Addr) (cl : List (Str × Addr)) (fp : List Addr), PG (X.blk s H scope (compEnvC scope cl C X.env) fp) tg g) (ht : ∀ (s : Shared) (H : Hp) (C : Addr) (cl : List (Str × Addr)) (fp : List Addr), PTs (X.blk s H scope (compEnvC scope cl C X.env) fp) ifs tt)
    (he : ∀ (s : Shared) (H : Hp) (C : Addr) (cl : List (Str × Addr)) (fp : List Addr), PE (X.blk s H scope (compEnvC scope cl C X.env) fp) elt te) (hs : ∀ x, foldedSetIterable iter X.env x = pure x)
    (hcs : ∀ (s : Shared) (H : Hp) (C : Addr) (cl : List (Str × Addr)) (fp : List Addr), ∀ c ∈ cs, ClOk (X.blk s H scope (compEnvC scope cl C X.env) fp) c) :
    PS X (.Assign [.Name y py] (.ListComp elt (⟨tg, iter, ifs, 0⟩ :: cs.map Cl.gen) scope pos) spos) (tAsg (tLcN wi g tt te (own.map (·.2)) cs) (gName i)) := by
  refine ⟨fun pins s σ H D I h => ?_⟩
  rw [exec_Assign_Name_used _ _ _ _ hsw]
  refine wpAny_bind (wpAny_standAt (wpAny_bind ?_))
  show wpAny _ X.A (do let _ ← comprehension (.ListComp elt (⟨tg, iter, ifs, 0⟩ :: cs.map Cl.gen) scope pos) scope X.env (firstIterPos (⟨tg, iter, ifs, 0⟩ :: cs.map Cl.gen) pos) (newList []) false (eval iter X.env) (some (assign (.Name y py) X.env))) _ _ s
  have h : tLcN wi g tt te (own.map (·.2)) cs σ H (fun x H1 => gName i x σ H1 D.nx) := h
  refine wpAny_bind (thn (lcN_core (Qf := fun _ s' => SP X pins D .next s') hc hN I hi ok hv hn hg ht he hs hcs h fun L C s' m H' I' q hn f => ?_) fun _ s' hq => wpAny_pure (wpAny_pure hq))
  show wpAny _ _ (assign (.Name y py) X.env (.ref L)) _ _ _
  refine wpAny_assign_Name (store_ok2 (v := V.ref L) I' hN hy (.inl hyl) rfl (fun s2 I2 ⟨a, sb, ha⟩ => ?_) (.inr hyl))
  obtain ⟨f0, f1, f2, f3, f4, f5⟩ := f
  have haC : C ≠ a := by
    rcases ha with z | z
    · rw [z]; exact f1
    · exact fun e => f4 y a z e.symm
  refine ⟨m, hn.sameBut sb haC, fun h3 sb3 => ?_⟩
  exact ⟨_, H', I2.turned (t' := s2.toks) (fun b o hb e => (sb3.2 b hb).trans e) f0 f1 f3 f4 f5, q⟩
end
end PyD

set_option Elab.async false
set_option linter.all false
set_option maxRecDepth 100000
set_option maxHeartbeats 2000000
/-! PyDW: readings of comprehensions of any number of clauses. -/
namespace PyD
open PySem PySem.Spec PyProof.Rows L2
structure DCl where
  wi : ID
  vs : List Nat
  is : List Nat
  g : GD
  tt : BD
def dloop0 (g : GD) (tt : BD) (chk : Sto → Prop) (σ : SD) (p : Addr) (body : SD → Sto → List D → (List D → Sto → Prop) → Prop) (fin : List D → Sto → Prop) : List D → List D → Sto → Prop
  | [], acc, S => chk S ∧ fin acc S
  | y :: r, acc, S => chk S ∧ g y σ S fun σ3 S5 => tt σ3 S5 fun b S6 => S6 p = some (.ml acc) ∧ (if b = true then body σ3 S6 acc (dloop0 g tt chk σ p body fin r) else dloop0 g tt chk σ p body fin r acc S6)
@[irreducible] def dloop (g : GD) (tt : BD) (chk : Sto → Prop) (σ : SD) (p : Addr) (body : SD → Sto → List D → (List D → Sto → Prop) → Prop) (fin : List D → Sto → Prop) : List D → List D → Sto → Prop := dloop0 g tt chk σ p body fin
section
variable {g : GD} {tt : BD} {chk : Sto → Prop} {σ : SD} {p : Addr} {body : SD → Sto → List D → (List D → Sto → Prop) → Prop} {fin : List D → Sto → Prop} {acc : List D} {S : Sto} {y : D} {r : List D}
theorem dloop_nil : dloop g tt chk σ p body fin [] acc S = (chk S ∧ fin acc S) := by unfold dloop; rfl
theorem dloop_cons : dloop g tt chk σ p body fin (y :: r) acc S = (chk S ∧ g y σ S fun σ3 S5 => tt σ3 S5 fun b S6 => S6 p = some (.ml acc) ∧ (if b = true then body σ3 S6 acc (dloop g tt chk σ p body fin r) else dloop g tt chk σ p body fin r acc S6)) := by unfold dloop; rfl
theorem dloop_chk {ys : List D} (h : dloop g tt chk σ p body fin ys acc S) : chk S := by
  cases ys with
  | nil => rw [dloop_nil] at h; exact h.1
  | cons x r => rw [dloop_cons] at h; exact h.1
end
def tclsD (te : TD) (p : Addr) : List DCl → SD → Sto → List D → (List D → Sto → Prop) → Prop
  | [], σ, S, acc, fin => te σ S fun z S7 => S7 p = some (.ml acc) ∧ acc.length < sizeLine ∧ fin (acc ++ [z]) (ups S7 p (.ml (acc ++ [z])))
  | c :: cs, σ, S, acc, fin => c.wi σ S fun ys chk1 S4 => S4 p = some (.ml acc) ∧ dloop c.g c.tt chk1 (wipeD σ c.vs) p (tclsD te p cs) fin ys acc S4
def tcoN (g : GD) (tt : BD) (cs : List DCl) (te : TD) (chk : Sto → Prop) (σ : SD) (Q : List D → Sto → Prop) : List D → List D → Sto → Prop
  | [], acc, S => chk S ∧ Q acc S
  | x :: r, acc, S => chk S ∧ g x σ S fun σ2 S2 => tt σ2 S2 fun b S3 => if b = true then (∀ p, S3 p = none → tclsD te p cs σ2 (ups S3 p (.ml acc)) acc (fun acc' S' => Unsaid p (tcoN g tt cs te chk σ Q r acc') S')) else tcoN g tt cs te chk σ Q r acc S3
@[irreducible] def tcompN (g : GD) (tt : BD) (cs : List DCl) (te : TD) (chk : Sto → Prop) (σ : SD) (Q : List D → Sto → Prop) : List D → List D → Sto → Prop := tcoN g tt cs te chk σ Q
section
variable {g : GD} {tt : BD} {cs : List DCl} {te : TD} {chk : Sto → Prop} {σ : SD} {Q : List D → Sto → Prop} {acc : List D} {S : Sto} {x : D} {r : List D}
theorem tcompN_nil : tcompN g tt cs te chk σ Q [] acc S = (chk S ∧ Q acc S) := by unfold tcompN; rfl
theorem tcompN_cons : tcompN g tt cs te chk σ Q (x :: r) acc S = (chk S ∧ g x σ S fun σ2 S2 => tt σ2 S2 fun b S3 => if b = true then (∀ p, S3 p = none → tclsD te p cs σ2 (ups S3 p (.ml acc)) acc (fun acc' S' => Unsaid p (tcompN g tt cs te chk σ Q r acc') S')) else tcompN g tt cs te chk σ Q r acc S3) := by unfold tcompN; rfl
theorem tcompN_chk {xs : List D} (h : tcompN g tt cs te chk σ Q xs acc S) : chk S := by
  cases xs with
  | nil => rw [tcompN_nil] at h; exact h.1
  | cons x r => rw [tcompN_cons] at h; exact h.1
end
def tlcN (wi : ID) (vs : List Nat) (g : GD) (tt : BD) (cs : List DCl) (te : TD) : TD := fun σ S Q => wi σ S fun xs chk S1 => tcompN g tt cs te chk (wipeD σ vs) (fun acc S2 => Q (.lst acc) S2) xs [] S1
/-- a clause's reading with its trees -/
structure TCl where
  tg : Expr
  iter : Expr
  ifs : List Expr
  d : DCl
section
variable {X : Cx}
def TCl.cl (X : Cx) (c : TCl) : Cl := ⟨c.tg, c.iter, c.ifs, liftI X c.d.wi, liftG X.K X.mg c.d.is c.d.g, liftT X.K X.mg c.d.tt, c.d.vs⟩
theorem cls_ok {te : TD} {p : Addr} : ∀ (cs : List TCl), (∀ c ∈ cs, ∀ i ∈ c.d.is, i ∈ c.d.vs) → ∀ (w : W3) (σ : L2.St) (σd : SD) (acc : List D) (fin : List D → Sto → Prop) (Nx : Hp → Prop), RS X.K X.mg w → RL X.K X.mg w σ σd → w.S p = some (.ml acc) → tclsD te p (cs.map (·.d)) σd w.S acc fin →
    (∀ w' acc', Keep w w' → RS X.K X.mg w' → w'.S p = some (.ml acc') → fin acc' w'.S → Nx w'.H) → tCls (liftE X.K X.mg te) p (cs.map (TCl.cl X)) σ w.H Nx
  | [], _, w, σ, σd, acc, fin, Nx, rs, rl, sp, h, hN => by
    refine ⟨σd, w, _, rfl, rs, rl, h, fun yv yd w11 k11 rs11 ry q11 => ?_⟩
    obtain ⟨s11, l11, t11⟩ := q11
    obtain ⟨_, us11, h11, ra11⟩ := rs11.ml s11
    refine ⟨us11, h11, by rw [ra11.len]; exact l11, ?_⟩
    obtain ⟨w12, e1, e2, k12, rs12⟩ := own_put rs11 s11 (.ml (ra11.append (.cons ry .nil)))
    rw [← e1]
    exact hN w12 (acc ++ [yd]) (k11.trans k12) rs12 (by rw [e2]; exact ups_same) (by rw [e2]; exact t11)
  | c :: cs, his, w, σ, σd, acc, fin, Nx, rs, rl, sp, h, hN => by
    refine ⟨σd, w, _, rfl, rs, rl, h, fun J1 w6 ys chk1 k6 rs6 J6 q6 => ?_⟩
    obtain ⟨sp6, q6⟩ := q6
    have rl6 := (rl.keep rs k6).wipe c.d.vs
    refine ⟨fun j k H' => ∃ w' acc', w'.H = H' ∧ Keep w6 w' ∧ RS X.K X.mg w' ∧ w'.S p = some (.ml acc') ∧ j + k = ys.length ∧ dloop c.d.g c.d.tt chk1 (wipeD σd c.d.vs) p (tclsD te p (cs.map (·.d))) fin (ys.drop j) acc' w'.S,
      ⟨ys.length, w6, acc, rfl, .refl w6, rs6, sp6, by omega, q6⟩, ?_⟩
    rintro j kk _ ⟨w7, acc7, rfl, k7, rs7, sp7, ej, q7⟩
    obtain ⟨i1, i2⟩ := J6 j w7 k7 rs7 (dloop_chk q7)
    by_cases hj : j < ys.length
    · obtain ⟨go1, jy1⟩ := i1 hj
      refine .inr ⟨go1, fun H' => ∃ w' acc', w'.H = H' ∧ Keep w6 w' ∧ RS X.K X.mg w' ∧ w'.S p = some (.ml acc') ∧ dloop c.d.g c.d.tt chk1 (wipeD σd c.d.vs) p (tclsD te p (cs.map (·.d))) fin (ys.drop (j + 1)) acc' w'.S,
        fun H' ⟨w', acc', e, a1, a2, a3, a4⟩ => ⟨kk - 1, by omega, w', acc', e, a1, a2, a3, by omega, a4⟩, fun x H' y => ?_⟩
      obtain ⟨w8, rfl, e8, k8, rs8, d8, ed8, rd8⟩ := jy1 x H' y
      have ed8' : ys.drop j = d8 :: ys.drop (j + 1) := by
        have hd : ys[j] = d8 := by
          rw [List.getElem?_eq_getElem hj] at ed8
          exact Option.some.inj ed8
        rw [← hd]
        exact List.drop_eq_getElem_cons hj
      rw [ed8', dloop_cons] at q7
      obtain ⟨_, q8⟩ := q7
      rw [← e8] at q8
      refine ⟨wipeD σd c.d.vs, d8, w8, _, rfl, rs8, rl6.keep rs6 (k7.trans k8), rd8, q8, fun σ9 σd9 w9 k9 rs9 rl9 a9 q9 => ?_⟩
      refine ⟨wipe_agr a9 (his c (List.mem_cons_self ..)), σd9, w9, _, rfl, rs9, rl9, q9, fun b w10 k10 rs10 q10 => ?_⟩
      have k610 := k7.trans (k8.trans (k9.trans k10))
      obtain ⟨s10, q10⟩ := q10
      cases b with
      | false =>
        refine iteF ?_
        rw [if_neg Bool.false_ne_true] at q10
        exact ⟨w10, acc7, rfl, k610, rs10, s10, q10⟩
      | true =>
        refine iteT ?_
        rw [if_pos rfl] at q10
        exact cls_ok cs (fun c' h' => his c' (List.mem_cons_of_mem _ h')) w10 σ9 σd9 acc7 _ _ rs10 (rl9.keep rs9 k10) s10 q10 fun w' acc' kw rsw sw qw => ⟨w', acc', rfl, k610.trans kw, rsw, sw, qw⟩
    · have e0 : ys.drop j = [] := List.drop_eq_nil_iff.mpr (by omega)
      rw [e0, dloop_nil] at q7
      exact .inl ⟨i2 (by omega), hN w7 acc7 (k6.trans k7) rs7 sp7 q7.2⟩
theorem lcN_ok {is vs : List Nat} {wi : ID} {g : GD} {tt : BD} {cs : List TCl} {te : TD} {wi' : TI} (his : ∀ i ∈ is, i ∈ vs) (hcs : ∀ c ∈ cs, ∀ i ∈ c.d.is, i ∈ c.d.vs) (li : ∀ σ σd w (Rd : List D → (Sto → Prop) → Sto → Prop) (R : It → Hp → Prop), RS X.K X.mg w → RL X.K X.mg w σ σd → wi σd w.S Rd →
    (∀ J w' xs chk, Keep w w' → RS X.K X.mg w' → JOk X w' J xs chk → Rd xs chk w'.S → R J w'.H) → wi' σ w.H R)
    (σ σd w Qd Q) (rs : RS X.K X.mg w) (rl : RL X.K X.mg w σ σd) (h : tlcN wi vs g tt (cs.map (·.d)) te σd w.S Qd) (k : ThenE X w Qd Q) :
    tLcN wi' (liftG X.K X.mg is g) (liftT X.K X.mg tt) (liftE X.K X.mg te) vs (cs.map (TCl.cl X)) σ w.H Q := by
  refine li σ σd w _ _ rs rl h fun J w1 xs chk k1 rs1 J1 q => ?_
  intro p hp
  have rlw := (rl.keep rs k1).wipe vs
  have hOw : ∀ a, a ≠ p → ((w1.O a ∨ a = p) ↔ w1.O a) := fun a h => ⟨fun z => z.elim (fun y => y) fun y => absurd y h, .inl⟩
  have hsp : w1.S p = none := by
    cases e : w1.S p with
    | none => rfl
    | some m =>
      obtain ⟨_, u, e2, _⟩ := rs1 p m e
      rw [hp] at e2; cases e2
  refine ⟨fun i m H' => ∃ w' us acc, w'.H = H' ∧ Keep w1 w' ∧ RS X.K X.mg w' ∧ RL X.K X.mg w' (L2.wipe σ vs) (wipeD σd vs) ∧ w'.H p = some (.lst us) ∧ w'.O p ∧ w'.S p = none ∧ Reps X.K X.mg w'.H w'.O us acc ∧ i + m = xs.length ∧
      tcompN g tt (cs.map (·.d)) te chk (wipeD σd vs) (fun acc S2 => Qd (.lst acc) S2) (xs.drop i) acc w'.S,
    ⟨xs.length, ⟨upd w1.H p (.lst []), fun a => w1.O a ∨ a = p, w1.S⟩, [], [], rfl, Keep.new hp hOw, rs1.new hp hOw, rlw.keep rs1 (Keep.new hp hOw), upd_same, .inr rfl, hsp, .nil, by omega, q⟩, ?_⟩
  rintro i m _ ⟨w2, us, acc, rfl, k2, rs2, rl2, hp2, ho2, hs2, ra2, em, q2⟩
  obtain ⟨j1, j2⟩ := J1 i w2 k2 rs2 (tcompN_chk q2)
  by_cases hi : i < xs.length
  · obtain ⟨go, jy⟩ := j1 hi
    refine .inr ⟨go, fun H' => ∃ w' us acc, w'.H = H' ∧ Keep w1 w' ∧ RS X.K X.mg w' ∧ RL X.K X.mg w' (L2.wipe σ vs) (wipeD σd vs) ∧ w'.H p = some (.lst us) ∧ w'.O p ∧ w'.S p = none ∧ Reps X.K X.mg w'.H w'.O us acc ∧
      tcompN g tt (cs.map (·.d)) te chk (wipeD σd vs) (fun acc S2 => Qd (.lst acc) S2) (xs.drop (i + 1)) acc w'.S, fun H' ⟨w', us, acc, e, a1, a2, a3, a4, a5, a6, a7, a8⟩ => ⟨m - 1, by omega, w', us, acc, e, a1, a2, a3, a4, a5, a6, a7, by omega, a8⟩, fun x H' y => ?_⟩
    obtain ⟨w3, rfl, e3, k3, rs3, d, ed, rd⟩ := jy x H' y
    have ed' : xs.drop i = d :: xs.drop (i + 1) := by
      have hd : xs[i] = d := by
        rw [List.getElem?_eq_getElem hi] at ed
        exact Option.some.inj ed
      rw [← hd]
      exact List.drop_eq_getElem_cons hi
    rw [ed', tcompN_cons] at q2
    obtain ⟨_, q3⟩ := q2
    rw [← e3] at q3
    refine ⟨wipeD σd vs, d, w3, _, rfl, rs3, rl2.keep rs2 k3, rd, q3, fun σ4 σd4 w4 k4 rs4 rl4 a4 q4 => ?_⟩
    refine ⟨wipe_agr a4 his, σd4, w4, _, rfl, rs4, rl4, q4, fun b w5 k5 rs5 q5 => ?_⟩
    have k25 := k3.trans (k4.trans k5)
    obtain ⟨b1, b2, b3⟩ := k25 p _ hp2 hs2
    cases b with
    | false =>
      refine iteF ?_
      rw [if_neg Bool.false_ne_true] at q5
      exact ⟨w5, us, acc, rfl, k2.trans k25, rs5, rl2.keep rs2 k25, b1, b3.mpr ho2, b2, ra2.keep rs2 k25, q5⟩
    | true =>
      refine iteT ?_
      rw [if_pos rfl] at q5
      have k15 : Keep w1 ⟨w5.H, w5.O, ups w5.S p (.ml acc)⟩ := fun a o e hs => by
        obtain ⟨c1, c2, c3⟩ := (k2.trans k25) a o e hs
        have hne : a ≠ p := ne_of_none e hp
        exact ⟨c1, by show ups w5.S p _ a = none; rw [ups_ne hne]; exact c2, c3⟩
      have ra5 : Reps X.K X.mg w5.H w5.O us acc := ra2.keep rs2 k25
      have rs5' : RS X.K X.mg ⟨w5.H, w5.O, ups w5.S p (.ml acc)⟩ := fun a m e => by
        by_cases hne : a = p
        · subst hne
          have e' : ups w5.S a (.ml acc) a = some m := e
          rw [ups_same] at e'
          cases e'
          exact ⟨b3.mpr ho2, .lst us, b1, .ml ra5⟩
        · have e' : ups w5.S p (.ml acc) a = some m := e
          rw [ups_ne hne] at e'
          exact rs5 a m e'
      have rl5 := rl2.keep rs2 k25
      have rl5' : RL X.K X.mg ⟨w5.H, w5.O, ups w5.S p (.ml acc)⟩ (L2.wipe σ vs) (wipeD σd vs) := ⟨rl5.len, rl5.get⟩
      have rl45 := rl4.keep rs4 k5
      have rl45' : RL X.K X.mg ⟨w5.H, w5.O, ups w5.S p (.ml acc)⟩ σ4 σd4 := ⟨rl45.len, rl45.get⟩
      refine cls_ok cs hcs ⟨w5.H, w5.O, ups w5.S p (.ml acc)⟩ σ4 σd4 acc _ _ rs5' rl45' ups_same (q5 p b2) fun w7 acc7 k7 rs7 sp7 q7 => ?_
      obtain ⟨S', hn, hs', q8⟩ := q7
      obtain ⟨o7, us7, h7, ra7⟩ := rs7.ml sp7
      obtain ⟨rs8, k8⟩ := rs7.less (S' := S') fun a m e => by
        have hne : a ≠ p := fun z => by rw [z, hn] at e; cases e
        rw [← hs' a hne]; exact e
      have k78 := k7.trans k8
      exact ⟨⟨w7.H, w7.O, S'⟩, us7, acc7, rfl, k15.trans k78, rs8, rl5'.keep rs5' k78, h7, o7, hn, ra7, q8⟩
  · have e0 : xs.drop i = [] := List.drop_eq_nil_iff.mpr (by omega)
    rw [e0, tcompN_nil] at q2
    exact .inl ⟨j2 (by omega), fin_lst w1 w2 p us acc Qd Q hp k2 rs2 hp2 ho2 hs2 ra2 q2.2 (k.keep k1)⟩
structure TClOk (Y : Cx) (c : TCl) : Prop where
  di : DI Y c.tg c.iter c.d.wi
  dg : DG Y c.tg c.d.is c.d.g
  dt : DTs Y c.ifs c.d.tt
  fold : ∀ env x, foldedSetIterable c.iter env x = pure x
theorem de_lcN {elt tg iter : Expr} {ifs : List Expr} {cs : List TCl} {scope : Scope} {own : List (Str × Nat)} {is : List Nat} {pos : Pos} {wi : ID} {g : GD} {tt : BD} {te : TD} (hc : X.calm = true) (hN : X.N.Nodup) (hi : DI X tg iter wi) (ok : BlkOk X.N X.env.scope scope own) (his : ∀ i ∈ is, i ∈ own.map (·.2))
    (hv : ∀ i ∈ headVs (cs.map (TCl.cl X)), i ∈ own.map (·.2)) (hn : Nested (cs.map (TCl.cl X))) (hcs : ∀ c ∈ cs, ∀ i ∈ c.d.is, i ∈ c.d.vs)
    (hg : ∀ (s : Shared) (H : Hp) (C : Addr) (cl : List (Str × Addr)) (fp : List Addr), DG (X.blk s H scope (compEnvC scope cl C X.env) fp) tg is g) (ht : ∀ (s : Shared) (H : Hp) (C : Addr) (cl : List (Str × Addr)) (fp : List Addr), DTs (X.blk s H scope (compEnvC scope cl C X.env) fp) ifs tt)
    (he : ∀ (s : Shared) (H : Hp) (C : Addr) (cl : List (Str × Addr)) (fp : List Addr), DE (X.blk s H scope (compEnvC scope cl C X.env) fp) elt te) (hs : ∀ x, foldedSetIterable iter X.env x = pure x)
    (hk : ∀ (s : Shared) (H : Hp) (C : Addr) (cl : List (Str × Addr)) (fp : List Addr), ∀ c ∈ cs, TClOk (X.blk s H scope (compEnvC scope cl C X.env) fp) c) :
    DE X (.ListComp elt (⟨tg, iter, ifs, 0⟩ :: cs.map fun c => ⟨c.tg, c.iter, c.ifs, 0⟩) scope pos) (tlcN wi (own.map (·.2)) g tt (cs.map (·.d)) te) := by
  obtain ⟨wi', pi, li⟩ := hi
  have e : (cs.map fun c => (⟨c.tg, c.iter, c.ifs, 0⟩ : Comprehension)) = (cs.map (TCl.cl X)).map Cl.gen := by rw [List.map_map]; rfl
  rw [e]
  refine ⟨_, pe_lcN (g := liftG X.K X.mg is g) (tt := liftT X.K X.mg tt) (te := liftE X.K X.mg te) hc hN pi ok hv hn (fun s H C cl fp => (hg s H C cl fp).pg) (fun s H C cl fp => (ht s H C cl fp).pt) (fun s H C cl fp => (he s H C cl fp).pe) hs
    (fun s H C cl fp c hc => ?_), fun σ σd w Qd Q rs rl h k => lcN_ok his hcs li σ σd w Qd Q rs rl h k⟩
  obtain ⟨t, ht', rfl⟩ := List.mem_map.mp hc
  obtain ⟨d1, d2, d3, d4⟩ := hk s H C cl fp t ht'
  exact ⟨d1.pi, d2.pg, d3.pt, d4 _⟩
theorem ds_setLcN {i : Nat} {y : Str} {py spos : Pos} {elt tg iter : Expr} {ifs : List Expr} {cs : List TCl} {scope : Scope} {own : List (Str × Nat)} {is : List Nat} {pos : Pos} {wi : ID} {g : GD} {tt : BD} {te : TD} (hc : X.calm = true) (hN : X.N.Nodup) (hy : X.N[i]? = some y) (hyl : X.env.scope.names.lookup y = some .local)
    (hsw : swapsWith (.ListComp elt (⟨tg, iter, ifs, 0⟩ :: cs.map fun c => ⟨c.tg, c.iter, c.ifs, 0⟩) scope pos) (some (.Name y py)) spos.line X.env = pure true) (hi : DI X tg iter wi) (ok : BlkOk X.N X.env.scope scope own) (his : ∀ i ∈ is, i ∈ own.map (·.2))
    (hv : ∀ i ∈ headVs (cs.map (TCl.cl X)), i ∈ own.map (·.2)) (hn : Nested (cs.map (TCl.cl X))) (hcs : ∀ c ∈ cs, ∀ i ∈ c.d.is, i ∈ c.d.vs)
    (hg : ∀ (s : Shared) (H : Hp) (C : Addr) (cl : List (Str × Addr)) (fp : List Addr), DG (X.blk s H scope (compEnvC scope cl C X.env) fp) tg is g) (ht : ∀ (s : Shared) (H : Hp) (C : Addr) (cl : List (Str × Addr)) (fp : List Addr), DTs (X.blk s H scope (compEnvC scope cl C X.env) fp) ifs tt)
    (he : ∀ (s : Shared) (H : Hp) (C : Addr) (cl : List (Str × Addr)) (fp : List Addr), DE (X.blk s H scope (compEnvC scope cl C X.env) fp) elt te) (hs : ∀ x, foldedSetIterable iter X.env x = pure x)
    (hk : ∀ (s : Shared) (H : Hp) (C : Addr) (cl : List (Str × Addr)) (fp : List Addr), ∀ c ∈ cs, TClOk (X.blk s H scope (compEnvC scope cl C X.env) fp) c) :
    DS X (.Assign [.Name y py] (.ListComp elt (⟨tg, iter, ifs, 0⟩ :: cs.map fun c => ⟨c.tg, c.iter, c.ifs, 0⟩) scope pos) spos) (sasg (tlcN wi (own.map (·.2)) g tt (cs.map (·.d)) te) (gname i)) := by
  obtain ⟨wi', pi, li⟩ := hi
  have e : (cs.map fun c => (⟨c.tg, c.iter, c.ifs, 0⟩ : Comprehension)) = (cs.map (TCl.cl X)).map Cl.gen := by rw [List.map_map]; rfl
  rw [e] at hsw ⊢
  refine ⟨_, ps_setLcN (g := liftG X.K X.mg is g) (tt := liftT X.K X.mg tt) (te := liftE X.K X.mg te) hc hN hy hyl hsw pi ok hv hn (fun s H C cl fp => (hg s H C cl fp).pg) (fun s H C cl fp => (ht s H C cl fp).pt) (fun s H C cl fp => (he s H C cl fp).pe) hs
    (fun s H C cl fp c hc => ?_), fun σ σd w Dd D rs rl h k => ?_⟩
  · obtain ⟨t, ht', rfl⟩ := List.mem_map.mp hc
    obtain ⟨d1, d2, d3, d4⟩ := hk s H C cl fp t ht'
    exact ⟨d1.pi, d2.pg, d3.pt, d4 _⟩
  · refine lcN_ok (Qd := fun d S1 => gname i d σd S1 Dd.nx) (Q := fun x H1 => L2.gName i x σ H1 D.nx) his hcs li σ σd w rs rl h fun v d w1 k1 rs1 r q => ?_
    exact k.nx _ _ w1 k1 rs1 ((rl.keep rs k1).set r i) q
/-! ### list(range(n)) -/
def tlrg (ta : TD) : TD := fun σ S Q => ta σ S fun x S1 => ∃ n : Int, x = .int n ∧ 0 ≤ n ∧ n ≤ 1000000 ∧ Q (.lst (rngD 0 n.toNat)) S1
theorem reps_rg {K : PySem.W.Frag} {mg : Str → Option Value} {H : Hp} {O : Own} {n : Int} : Reps K mg H O (L2.rgV 0 n) (rngD 0 n.toNat) := by
  refine ⟨by rw [L2.rgV_length, rngD_len, Int.sub_zero], fun i v d h1 h2 => ?_⟩
  have hi : i < n.toNat := by
    have := (List.getElem?_eq_some_iff.mp h2).1
    rwa [rngD_len] at this
  unfold L2.rgV at h1
  rw [List.getElem?_map, List.getElem?_range (by omega)] at h1
  rw [rngD_get _ _ _ hi] at h2
  cases h1
  cases h2
  exact .int _
theorem de_lrg {a : Expr} {ta : TD} {p p2 pos pos2 : Pos} (hc : X.calm = true) (hg1 : Gl X "list") (hm1 : X.mg "list" = none) (hg2 : Gl X "range") (hm2 : X.mg "range" = none) (ha : DE X a ta) (hst : starEach [a] X.env = (false, eval a X.env) :: starEach [] X.env) :
    DE X (.Call (.Name "list" p) [.Call (.Name "range" p2) [a] [] pos2] [] pos) (tlrg ta) := by
  obtain ⟨ta', pa, la⟩ := ha
  refine ⟨_, pe_listRg hc hg1 hm1 (prg_1 hg2 hm2 pa hst), fun σ σd w Qd Q rs rl h k => ?_⟩
  refine la σ σd w _ _ rs rl h fun v d w1 k1 rs1 r q => ?_
  obtain ⟨n, rfl, h0, h1, q⟩ := q
  cases r
  exact ⟨n, rfl, RgOk.of_le (by omega) (by omega) (by omega) h0, then_lst rs1 reps_rg (k.keep k1) q⟩
end
end PyD

set_option Elab.async false
set_option linter.all false
set_option maxRecDepth 100000
set_option maxHeartbeats 2000000
/-! PyDH: a small syntax for what the rules reach, its readings, the compiler from the program's trees into it. -/
namespace PyD
open PySem PySem.Spec PyProof.Rows L2

inductive BI where
  | abs | len | sum | min | max | divmod | any | all | int | tuple | list | listO | gcd | sorted | sortedO
  deriving DecidableEq, Repr
inductive Lit where
  | non | bl (b : Bool) | int (i : Int) | str (x : Str)
mutual
inductive CE where
  | var (i : Nat) | lit (l : Lit) | glo (x : Str)
  | bin (op : Operator) (a b : CE) | cmp (op : CmpOp) (a b : CE) | chain (o1 o2 : CmpOp) (a b c : CE)
  | neg (a : CE) | land (a b : CE) | lor (a b : CE) | lnot (a : CE) | ifx (c : CB) (a b : CE)
  | idx (a b : CE) | sl (a : CE) (lo hi : CP)
  | tup (as : CA) | lst (as : CA) | own (as : CA) | newD
  | bi (b : BI) (as : CA) | isi (T : Ty) (a : CE)
  | call (x : Str) (as : CA) | callk (x : Str) (ks : List Str) (as : CA) | callv (i : Nat) (as : CA)
  | app (o : CE) (as : CA) | pop (o : CE) (as : CA)
  | lc (o : Bool) (it : CI) (vs : List Nat) (g : CG) (c : CB) (e : CE)
  | rev (a : CE) | lc2 (it : CI) (vs : List Nat) (g : CG) (c : CB) (it1 : CI) (vs1 : List Nat) (g1 : CG) (c1 : CB) (e : CE)
  | lcn (it : CI) (vs : List Nat) (g : CG) (c : CB) (cs : CCs) (e : CE)
  | lrg (a : CE)
inductive CCs where
  | nil | cons (it : CI) (vs is : List Nat) (g : CG) (c : CB) (r : CCs)
inductive CB where
  | bl (e : CE) | tru (e : CE) | and (a b : CB) | or (a b : CB) | not (a : CB) | yes
inductive CP where
  | no | at (e : CE)
inductive CA where
  | nil | cons (e : CE) (r : CA) | star (e : CE) (r : CA)
inductive CI where
  | seq (e : CE) | rng1 (as : CA) | rng2 (as : CA) | enum (as : CA) | zip (as : CA)
inductive CG where
  | name (i : Nat) | tup (n : Nat) (gs : CGs) | sub (o i : CE)
inductive CGs where
  | nil | cons (g : CG) (r : CGs)
end
inductive CS where
  | next | brk | cnt | never | expr (e : CE) | ret (e : CE) | retN | iff (c : CB) (a b : CS) | asg (e : CE) (g : CG)
  | par2 (i j : Nat) (as : CA) | par3 (i j m : Nat) (as : CA) | whil (c : CB) (b : CS) | forr (it : CI) (g : CG) (b : CS) | seq (a b : CS)

/-- what is known of the module: the defs' promises, by position and by keywords; the constants -/
structure Gam where
  f : Str → Option (Nat × DSp)
  fk : Str → List Str → Option (Nat × List Nat × DSp)
  g : Str → Option D
def rdLit : Lit → D
  | .non => .non
  | .bl b => .bl b
  | .int i => .int i
  | .str x => .str x
def rdOp : Operator → D → D → Sto → QD → Prop
  | .Add => dAdd
  | .Sub => dSub
  | .Mult => dMul
  | .FloorDiv => dFdiv
  | .Mod => dMod
  | .Pow => dPow
  | _ => fun _ _ _ _ => False
def rdCmp : CmpOp → D → D → Sto → QD → Prop
  | .Eq => dEq false
  | .NotEq => dEq true
  | .Lt => dCmpI fun i j => decide (i < j)
  | .LtE => dCmpI fun i j => decide (i ≤ j)
  | .Gt => dCmpI fun i j => decide (j < i)
  | .GtE => dCmpI fun i j => decide (j ≤ i)
  | .Is => dIs false
  | .IsNot => dIs true
  | .In => dIn false
  | .NotIn => dIn true
def rdBI : BI → List D → Sto → QD → Prop
  | .abs => dAbs
  | .len => dLen
  | .sum => dSum
  | .min => dMin
  | .max => dMax
  | .divmod => dDivmod
  | .any => dAnyX fun ks => ks.any id
  | .all => dAnyX fun ks => ks.all id
  | .int => dInt
  | .tuple => dTuple
  | .list => dList
  | .listO => dListO
  | .gcd => dGcd
  | .sorted => dSortG finL
  | .sortedO => dSortG finO
def tfail : TD := fun _ _ _ => False
def tglo (Γ : Gam) (x : Str) : TD := match Γ.g x with
  | some d => tcon d
  | none => tfail
def tcl (Γ : Gam) (x : Str) (t : AD) : TD := match Γ.f x with
  | some (n, sp) => tcall n sp t
  | none => tfail
def tclk (Γ : Gam) (x : Str) (ks : List Str) (t : AD) : TD := match Γ.fk x ks with
  | some (n, perm, sp) => tcallk n ks.length perm sp t
  | none => tfail
mutual
def evE (Γ : Gam) : CE → TD
  | .var i => tvar i
  | .lit l => tcon (rdLit l)
  | .glo x => tglo Γ x
  | .bin op a b => tbin (rdOp op) (evE Γ a) (evE Γ b)
  | .cmp op a b => tbin (rdCmp op) (evE Γ a) (evE Γ b)
  | .chain o1 o2 a b c => tchain (rdCmp o1) (rdCmp o2) (evE Γ a) (evE Γ b) (evE Γ c)
  | .neg a => tneg (evE Γ a)
  | .land a b => tandV (evE Γ a) (evE Γ b)
  | .lor a b => torV (evE Γ a) (evE Γ b)
  | .lnot a => tnotV (evE Γ a)
  | .ifx c a b => tifx (evB Γ c) (evE Γ a) (evE Γ b)
  | .idx a b => tbin dIdx (evE Γ a) (evE Γ b)
  | .sl a lo hi => tsl (evE Γ a) (evP Γ lo) (evP Γ hi)
  | .tup as => ttup (evA Γ as)
  | .lst as => tlst (evA Γ as)
  | .own as => town (evA Γ as)
  | .newD => tdnew
  | .bi b as => tcb (rdBI b) (evA Γ as)
  | .isi T a => tisi T (evE Γ a)
  | .call x as => tcl Γ x (evA Γ as)
  | .callk x ks as => tclk Γ x ks (evA Γ as)
  | .callv i as => tcallv i Γ.f (evA Γ as)
  | .app o as => tmeth dAppend (evE Γ o) (evA Γ as)
  | .pop o as => tmeth dPop (evE Γ o) (evA Γ as)
  | .lc o it vs g c e => match o with
    | true => tlcO (evI Γ it) vs (evG Γ g) (evB Γ c) (evE Γ e)
    | false => tlc (evI Γ it) vs (evG Γ g) (evB Γ c) (evE Γ e)
  | .rev a => trev (evE Γ a)
  | .lc2 it vs g c it1 vs1 g1 c1 e => tlc2 (evI Γ it) vs (evG Γ g) (evB Γ c) (evI Γ it1) vs1 (evG Γ g1) (evB Γ c1) (evE Γ e)
  | .lcn it vs g c cs e => tlcN (evI Γ it) vs (evG Γ g) (evB Γ c) (evCs Γ cs) (evE Γ e)
  | .lrg a => tlrg (evE Γ a)
def evCs (Γ : Gam) : CCs → List DCl
  | .nil => []
  | .cons it vs is g c r => ⟨evI Γ it, vs, is, evG Γ g, evB Γ c⟩ :: evCs Γ r
def evB (Γ : Gam) : CB → BD
  | .bl e => tbl (evE Γ e)
  | .tru e => ttru (evE Γ e)
  | .and a b => tandB (evB Γ a) (evB Γ b)
  | .or a b => torB (evB Γ a) (evB Γ b)
  | .not a => tnotB (evB Γ a)
  | .yes => tyes
def evP (Γ : Gam) : CP → PD
  | .no => tno
  | .at e => tpart (evE Γ e)
def evA (Γ : Gam) : CA → AD
  | .nil => tnil
  | .cons e r => tcons (evE Γ e) (evA Γ r)
  | .star e r => tstar (evE Γ e) (evA Γ r)
def evI (Γ : Gam) : CI → ID
  | .seq e => iseq (evE Γ e)
  | .rng1 as => irng1 (evA Γ as)
  | .rng2 as => irng2 (evA Γ as)
  | .enum as => ienum (evA Γ as)
  | .zip as => izip (evA Γ as)
def evG (Γ : Gam) : CG → GD
  | .name i => gname i
  | .tup n gs => gtup n (evGs Γ gs)
  | .sub o i => gsub (evE Γ o) (evE Γ i)
def evGs (Γ : Gam) : CGs → GsD
  | .nil => gnil
  | .cons g r => gcons (evG Γ g) (evGs Γ r)
end
def evS (Γ : Gam) : CS → SSD
  | .next => snext
  | .brk => sbreak
  | .cnt => scont
  | .never => snever
  | .expr e => sexpr (evE Γ e)
  | .ret e => sret (evE Γ e)
  | .retN => sretN
  | .iff c a b => sif (evB Γ c) (evS Γ a) (evS Γ b)
  | .asg e g => sasg (evE Γ e) (evG Γ g)
  | .par2 i j as => spar2 i j (evA Γ as)
  | .par3 i j m as => spar3 i j m (evA Γ as)
  | .whil c b => swhile (evB Γ c) (evS Γ b)
  | .forr it g b => sfor (evI Γ it) (evG Γ g) (evS Γ b)
  | .seq a b => sseq (evS Γ a) (evS Γ b)
mutual
def slG : CG → List Nat
  | .name i => [i]
  | .tup _ gs => slGs gs
  | .sub _ _ => []
def slGs : CGs → List Nat
  | .nil => []
  | .cons g r => slG g ++ slGs r
end
/-! ### the compiler -/
structure CT where
  N : List Str
  names : List (Str × NameKind)
  blk : Option (List (Str × NameKind))
  owns : List Str
  retO : Bool
  blts : List Str
  gcd : Bool
def ixOf (x : Str) : List Str → Nat → Option Nat
  | [], _ => none
  | y :: r, i => if y = x then some i else ixOf x r (i + 1)
def special (x : Str) : Bool := x == "__debug__" || x == "__classdict__" || x == "__name__"
def isVis : Option NameKind → Bool
  | some .local => true
  | some .cell => true
  | some .free => true
  | _ => false
def isLoc : Option NameKind → Bool
  | some .local => true
  | some .cell => true
  | _ => false
def CT.gl (ct : CT) (x : Str) : Bool := decide (ct.names.lookup x = some .globalImplicit)
def CT.slot (ct : CT) (x : Str) : Option Nat := ixOf x ct.N 0
/-- may be bound here -/
def CT.tgt (ct : CT) (x : Str) : Bool := isLoc (ct.names.lookup x) && match ct.blk with
  | none => true
  | some ns => decide (ns.lookup x = some .cell) || decide (ct.names.lookup x = some .local)
def litOf : Const → Option Lit
  | .none => some .non
  | .bool b => some (.bl b)
  | .int i => some (.int i)
  | .str x => some (.str x)
  | _ => none
def okOp : Operator → Bool
  | .Add => true
  | .Sub => true
  | .Mult => true
  | .FloorDiv => true
  | .Mod => true
  | .Pow => true
  | _ => false
def biOf (x : Str) (o : Bool) : Option BI :=
  if x = "len" then some .len else if x = "int" then some .int else if x = "tuple" then some .tuple else if x = "all" then some .all else if x = "any" then some .any
  else if x = "list" then some (if o then .listO else .list) else if x = "abs" then some .abs else if x = "sum" then some .sum else if x = "min" then some .min else if x = "max" then some .max
  else if x = "divmod" then some .divmod else if x = "sorted" then some (if o then .sortedO else .sorted) else none
def tyOf (x : Str) : Option Ty :=
  if x = "int" then some .int else if x = "bool" then some .bool else if x = "str" then some .str else if x = "tuple" then some .tuple else if x = "list" then some .list else if x = "dict" then some .dict else none
/-- not of the kinds that the rules treat apart -/
def flatE : Expr → Bool
  | .Starred .. => false
  | .ListComp .. => false
  | .SetComp .. => false
  | .DictComp .. => false
  | .Set .. => false
  | .Slice .. => false
  | _ => true
def isStar : Expr → Bool
  | .Starred .. => true
  | _ => false
def isComp : Expr → Bool
  | .ListComp .. => true
  | .SetComp .. => true
  | .DictComp .. => true
  | _ => false
def isSet : Expr → Bool
  | .Set .. => true
  | _ => false
def isSlice : Expr → Bool
  | .Slice .. => true
  | _ => false
def isCall : Expr → Bool
  | .Call .. => true
  | _ => false
def plainT : Expr → Bool
  | .UnaryOp .. => false
  | .BoolOp .. => false
  | .IfExp .. => false
  | .Compare .. => false
  | _ => true
/-- compE, compB, compW, compG for trees less high -/
structure Comp where
  E : CT → Bool → Expr → Option CE
  B : CT → Expr → Option CB
  W : CT → Expr → Option CB
  G : CT → Expr → Option CG
def stepA (c : Comp) (ct : CT) (o : Bool) : List Expr → Option CA
  | [] => some .nil
  | e :: r => if isStar e then none else match c.E ct o e, stepA c ct o r with
    | some a, some as => some (.cons a as)
    | _, _ => none
/-- what a tuple is made of, stars among it -/
def stepT (c : Comp) (ct : CT) (o : Bool) : List Expr → Option CA
  | [] => some .nil
  | .Starred e _ :: r => match c.E ct false e, stepT c ct o r with
    | some a, some as => some (.star a as)
    | _, _ => none
  | e :: r => if isStar e then none else match c.E ct o e, stepT c ct o r with
    | some a, some as => some (.cons a as)
    | _, _ => none
def stepK (c : Comp) (ct : CT) : List Keyword → Option (List Str × CA)
  | [] => some ([], .nil)
  | ⟨some nm, e, _⟩ :: r => match c.E ct false e, stepK c ct r with
    | some a, some (ks, as) => some (nm :: ks, .cons a as)
    | _, _ => none
  | _ :: _ => none
def stepP (c : Comp) (ct : CT) : Option Expr → Option CP
  | none => some .no
  | some e => match c.E ct false e with
    | some a => some (.at a)
    | none => none
def isTupT : Expr → Bool
  | .Tuple .. => true
  | _ => false
def stepI (c : Comp) (ct : CT) (tg : Expr) (e : Expr) : Option CI := match e with
  | .Call (.Name x _) [a] [] _ =>
    if x = "range" then (if ct.gl x && decide (x ∈ ct.blts) && !isStar a then match stepA c ct false [a] with
      | some as => some (.rng1 as)
      | none => none
      else none)
    else if x = "enumerate" then (if ct.gl x && decide (x ∈ ct.blts) && !isStar a && isTupT tg then match stepA c ct false [a] with
      | some as => some (.enum as)
      | none => none
      else none)
    else match c.E ct false e with
      | some a => some (.seq a)
      | none => none
  | .Call (.Name x _) [a, b] [] _ =>
    if x = "range" then (if ct.gl x && decide (x ∈ ct.blts) && !isStar a && !isStar b then match stepA c ct false [a, b] with
      | some as => some (.rng2 as)
      | none => none
      else none)
    else if x = "zip" then (if ct.gl x && decide (x ∈ ct.blts) && !isStar a && !isStar b && isTupT tg then match stepA c ct false [a, b] with
      | some as => some (.zip as)
      | none => none
      else none)
    else match c.E ct false e with
      | some a => some (.seq a)
      | none => none
  | e => if isSet e then none else match c.E ct false e with
      | some a => some (.seq a)
      | none => none
def ownOf (N : List Str) : List (Str × NameKind) → List (Str × Nat)
  | [] => []
  | (x, k) :: r => if isLoc (some k) then match ixOf x N 0 with
      | some i => (x, i) :: ownOf N r
      | none => ownOf N r
    else ownOf N r
def relab (names inner : List (Str × NameKind)) : List (Str × NameKind) := inner.map fun (n, k) => if (k == NameKind.free && names.lookup n == some .cell) then (n, NameKind.cell) else (n, k)
def CT.inner (ct : CT) (sc : Scope) : CT := { ct with names := relab ct.names sc.names, blk := some sc.names }
/-- PySem's blkC, by names alone -/
def blkN (ct : CT) (scope : Scope) (own : List (Str × Nat)) : Bool :=
  (match scope.kind with | .function => true | _ => false) && (scope.names.all fun y => decide (scope.names.lookup y.1 = some y.2)) && (own.all fun p => decide (ct.N[p.2]? = some p.1)) &&
    (scope.names.all fun y => match y.2 with
      | .free => (match ct.names.lookup y.1 with | some .cell => true | some .free => true | _ => false)
      | .local => decide (y.1 ∈ own.map (·.1)) || decide (y.1 ∉ ct.N)
      | .cell => decide (y.1 ∈ own.map (·.1)) || decide (y.1 ∉ ct.N)
      | _ => true)
def stepIfs (c : Comp) (ct : CT) : List Expr → Option CB
  | [] => some .yes
  | [e] => c.B ct e
  | _ => none
/-- the parts of a comprehension: the walk, the slots that are its own, target, test, element -/
def stepLC (c : Comp) (ct : CT) (elt : Expr) (tg iter : Expr) (ifs : List Expr) (scope : Scope) : Option (CI × List (Str × Nat) × CG × CB × CE) :=
  let own := ownOf ct.N scope.names
  let ct' := ct.inner scope
  if blkN ct scope own && !isSet iter then match stepI c ct tg iter, c.G ct' tg, stepIfs c ct' ifs, c.E ct' false elt with
    | some it, some g, some b, some e => if (slG g).all fun i => decide (i ∈ own.map (·.2)) then some (it, own, g, b, e) else none
    | _, _, _, _ => none
  else none
def stepLC2 (c : Comp) (ct : CT) (elt : Expr) (tg iter : Expr) (ifs : List Expr) (tg1 iter1 : Expr) (ifs1 : List Expr) (scope : Scope) : Option CE :=
  let own := ownOf ct.N scope.names
  let ct' := ct.inner scope
  if blkN ct scope own && (!isSet iter && !isSet iter1) then match stepI c ct tg iter, c.G ct' tg, stepIfs c ct' ifs, c.E ct' false elt with
    | some it, some g, some b, some e => (match stepI c ct' tg1 iter1, c.G ct' tg1, stepIfs c ct' ifs1 with
      | some it1, some g1, some b1 => if ((slG g).all fun i => decide (i ∈ own.map (·.2))) && ((slG g1).all fun i => decide (i ∈ own.map (·.2))) then some (.lc2 it (own.map (·.2)) g b it1 (slG g1) g1 b1 e) else none
      | _, _, _ => none)
    | _, _, _, _ => none
  else none
def CCs.hv : CCs → List Nat
  | .nil => []
  | .cons _ vs _ _ _ _ => vs
/-- the clauses behind the first one -/
def stepRest (c : Comp) (ct' : CT) (own : List Nat) : List Comprehension → Option CCs
  | [] => some .nil
  | ⟨tg, iter, ifs, a⟩ :: r => if a ≠ 0 || isSet iter then none else match stepI c ct' tg iter, c.G ct' tg, stepIfs c ct' ifs, stepRest c ct' own r with
    | some it, some g, some b, some cs => if (slG g).all fun i => decide (i ∈ own) then some (.cons it (slG g ++ cs.hv) (slG g) g b cs) else none
    | _, _, _, _ => none
def stepLCN (c : Comp) (ct : CT) (elt : Expr) (tg iter : Expr) (ifs : List Expr) (gs : List Comprehension) (scope : Scope) : Option CE :=
  let own := ownOf ct.N scope.names
  let ct' := ct.inner scope
  if blkN ct scope own && !isSet iter then match stepI c ct tg iter, c.G ct' tg, stepIfs c ct' ifs, c.E ct' false elt with
    | some it, some g, some b, some e => (match stepRest c ct' (own.map (·.2)) gs with
      | some cs => if (slG g).all fun i => decide (i ∈ own.map (·.2)) then some (.lcn it (own.map (·.2)) g b cs e) else none
      | none => none)
    | _, _, _, _ => none
  else none
def stepCall (c : Comp) (ct : CT) (o : Bool) (x : Str) (args : List Expr) (kws : List Keyword) : Option CE :=
  if special x then none else
  if ct.gl x then (match kws with
    | [] => if x ∈ ct.blts then (match args with
        | [] => none
        | [a, .Name y _] => if x = "isinstance" then (match tyOf y, c.E ct false a with
            | some T, some a' => if ct.gl y && decide (y ∈ ct.blts) && !special y && !isStar a then some (.isi T a') else none
            | _, _ => none)
            else (match biOf x o, stepA c ct false args with
              | some b, some as => some (.bi b as)
              | _, _ => none)
        | _ => match biOf x o, stepA c ct false args with
          | some b, some as => some (.bi b as)
          | _, _ => none)
      else if x = "gcd" && ct.gcd then (match args with
        | [] => none
        | _ => match stepA c ct false args with
          | some as => some (.bi .gcd as)
          | none => none)
      else match stepA c ct false args with
        | some as => some (.call x as)
        | none => none
    | _ => match args, stepK c ct kws with
      | [], some (ks, as) => some (.callk x ks as)
      | _, _ => none)
  else if isVis (ct.names.lookup x) then (match kws, args with
    | [], _ :: _ => match ct.slot x, stepA c ct false args with
      | some i, some as => some (.callv i as)
      | _, _ => none
    | _, _ => none)
  else none
def stepE (c : Comp) (ct : CT) (o : Bool) (e : Expr) : Option CE := match e with
  | .Name x _ => if special x then none else if isVis (ct.names.lookup x) then (match ct.slot x with
      | some i => some (.var i)
      | none => none)
    else if ct.gl x then some (.glo x) else none
  | .Constant k _ _ => match litOf k with
    | some l => some (.lit l)
    | none => none
  | .BinOp a op b _ => if okOp op then (match c.E ct false a, c.E ct false b with
    | some a, some b => some (.bin op a b)
    | _, _ => none) else none
  | .Compare a [op] [b] _ => if isSet b then none else match c.E ct false a, c.E ct false b with
    | some a, some b => some (.cmp op a b)
    | _, _ => none
  | .Compare a [o1, o2] [b, d] _ => if isSet d then none else match c.E ct false a, c.E ct false b, c.E ct false d with
    | some a, some b, some d => some (.chain o1 o2 a b d)
    | _, _, _ => none
  | .UnaryOp .USub a _ => match c.E ct false a with
    | some a => some (.neg a)
    | none => none
  | .UnaryOp .Not a _ => match c.E ct false a with
    | some a => some (.lnot a)
    | none => none
  | .BoolOp _ [a] _ => c.E ct false a
  | .BoolOp op (a :: b :: r) pos => match c.E ct false a, c.E ct false (.BoolOp op (b :: r) pos) with
    | some a, some b => some (match op with | .And => .land a b | .Or => .lor a b)
    | _, _ => none
  | .IfExp t a b _ => match c.B ct t, c.E ct o a, c.E ct o b with
    | some t, some a, some b => some (.ifx t a b)
    | _, _, _ => none
  | .Subscript a (.Slice lo hi none _) _ => match c.E ct false a, stepP c ct lo, stepP c ct hi with
    | some a, some l, some h => some (.sl a l h)
    | _, _, _ => none
  | .Subscript a (.Slice none none (some (.UnaryOp .USub (.Constant (.int i) _ _) _)) _) _ => if i = 1 then (match c.E ct false a with
    | some a => some (.rev a)
    | none => none) else none
  | .Subscript a b _ => if isSlice b then none else match c.E ct false a, c.E ct false b with
    | some a, some b => some (.idx a b)
    | _, _ => none
  | .Tuple es _ _ => match stepT c ct o es with
    | some as => some (.tup as)
    | none => none
  | .Dict [] [] _ => if o then some .newD else none
  | .List es _ => match stepA c ct o es with
    | some as => some (if o then .own as else .lst as)
    | none => none
  | .Call (.Name x _) [.Call (.Name y yp) [a] [] cp] [] _ => if x = "list" && y = "range" && !o && ct.gl "list" && ct.gl "range" && decide (("list" : Str) ∈ ct.blts) && decide (("range" : Str) ∈ ct.blts) && !isStar a then (match c.E ct false a with
      | some a => some (.lrg a)
      | none => none)
    else stepCall c ct o x [.Call (.Name y yp) [a] [] cp] []
  | .Call (.Name x _) args kws _ => stepCall c ct o x args kws
  | .Call (.Attribute ob nm apos) [a] [] cpos => if (apos.endLine == cpos.line) && !isCall ob && !isStar a then (match c.E ct false ob, stepA c ct false [a] with
      | some ob, some as => if nm = "append" then some (.app ob as) else if nm = "pop" then some (.pop ob as) else none
      | _, _ => none) else none
  | .ListComp elt [⟨tg, iter, ifs, 0⟩] scope _ => match stepLC c ct elt tg iter ifs scope with
    | some (it, own, g, b, e) => some (.lc o it (own.map (·.2)) g b e)
    | none => none
  | .ListComp elt [⟨tg, iter, ifs, 0⟩, ⟨tg1, iter1, ifs1, 0⟩] scope _ => if o then none else stepLC2 c ct elt tg iter ifs tg1 iter1 ifs1 scope
  | _ => none
def stepW (c : Comp) (ct : CT) (e : Expr) : Option CB := match e with
  | .BoolOp _ [a] _ => c.B ct a
  | .BoolOp op (a :: b :: r) pos => match c.B ct a, c.W ct (.BoolOp op (b :: r) pos) with
    | some a, some b => some (match op with | .And => .and a b | .Or => .or a b)
    | _, _ => none
  | _ => none
def stepB (c : Comp) (ct : CT) (e : Expr) : Option CB := match e with
  | .BoolOp op vs pos => stepW c ct (.BoolOp op vs pos)
  | .UnaryOp .Not a _ => match c.B ct a with
    | some a => some (.not a)
    | none => none
  | .Compare a [op] [b] _ => if isSet b then none else match c.E ct false a, c.E ct false b with
    | some a, some b => some (.bl (.cmp op a b))
    | _, _ => none
  | .Compare a [o1, o2] [b, d] _ => if isSet d then none else match c.E ct false a, c.E ct false b, c.E ct false d with
    | some a, some b, some d => some (.bl (.chain o1 o2 a b d))
    | _, _, _ => none
  | e => if plainT e then (match c.E ct false e with
    | some a => some (.tru a)
    | none => none) else none
def stepGs (c : Comp) (ct : CT) : List Expr → Option CGs
  | [] => some .nil
  | e :: r => if isStar e then none else match c.G ct e, stepGs c ct r with
    | some g, some gs => some (.cons g gs)
    | _, _ => none
def stepG (c : Comp) (ct : CT) (e : Expr) : Option CG := match e with
  | .Name x _ => if ct.tgt x then (match ct.slot x with
    | some i => some (.name i)
    | none => none) else none
  | .Tuple es _ _ => match stepGs c ct es with
    | some gs => some (.tup es.length gs)
    | none => none
  | .Subscript o i _ => if isSlice i then none else match c.E ct false o, c.E ct false i with
    | some o, some i => some (.sub o i)
    | _, _ => none
  | _ => none
def comp : Nat → Comp
  | 0 => ⟨fun _ _ _ => none, fun _ _ => none, fun _ _ => none, fun _ _ => none⟩
  | n + 1 => ⟨stepE (comp n), stepB (comp n), stepW (comp n), stepG (comp n)⟩
/-! statements -/
def isOwn (ct : CT) : Expr → Bool
  | .Name x _ => decide (x ∈ ct.owns)
  | _ => false
def swNames (ct : CT) (ts : List Expr) : List Str := ts.filterMap fun
    | .Name id pos => if ct.names.lookup id == some .local && pos.line == (ts.head?.map (·.pos.line)).getD 0 then some id else none
    | _ => none
/-- the names that the stores of one line bind from behind; none where they are bound one by one -/
def swapN (ct : CT) (ts vs : List Expr) : Option (Option (List Str)) :=
  if !(ts.length == 2 || ts.length == 3) || vs.length != ts.length then some none else
  if vs.any (fun | .Starred .. => true | _ => false) then some none else
  if (swNames ct ts).length != ts.length || (swNames ct ts).eraseDups.length != (swNames ct ts).length then some none else
  if vs.all (foldedForSure 8) then some none else
  if vs.all (constantsAlone 8) then none else
  some (some (swNames ct ts))
/-- a comprehension whose list the name takes at once -/
def swLC (ct : CT) (scope : Scope) (t : Str) (pl vl : Nat) : Bool :=
  ct.names.lookup t == some .local && pl == vl && !(scope.names.any fun (n, k) => n == t && (k == .local || k == .cell))
/-- one target, a value -/
def stepAsg (c : Comp) (ct : CT) (t e : Expr) : Option CS := match t, e with
  | .Name y py, .ListComp elt [⟨tg, iter, ifs, 0⟩] scope pos =>
    if swLC ct scope y py.line pos.line then (match stepLC c ct elt tg iter ifs scope, ct.slot y with
      | some (it, own, g, b, e'), some i => some (.asg (.lc (decide (y ∈ ct.owns)) it (own.map (·.2)) g b e') (.name i))
      | _, _ => none)
    else (match c.E ct (decide (y ∈ ct.owns)) e, c.G ct t with
      | some e', some g => some (.asg e' g)
      | _, _ => none)
  | .Name y py, .ListComp elt (⟨tg, iter, ifs, 0⟩ :: g1 :: gs) scope pos => if swLC ct scope y py.line pos.line && !decide (y ∈ ct.owns) then (match stepLCN c ct elt tg iter ifs (g1 :: gs) scope, ct.slot y with
      | some e', some i => some (.asg e' (.name i))
      | _, _ => none)
    else none
  | .Tuple [.Name x px, .Name y py] kt pt, .Tuple [a, b] k2 pt2 => match swapN ct [.Name x px, .Name y py] [a, b] with
    | some (some [x', y']) => if x = x' ∧ y = y' then (match ct.slot x, ct.slot y, stepA c ct (decide (x ∈ ct.owns)) [a], stepA c ct (decide (y ∈ ct.owns)) [b] with
      | some i, some j, some (.cons a' .nil), some (.cons b' .nil) => if i ≠ j && ct.names.lookup x = some .local && ct.names.lookup y = some .local then some (.par2 i j (.cons a' (.cons b' .nil))) else none
      | _, _, _, _ => none) else none
    | some none => (match c.E ct false e, c.G ct t with
      | some e', some g => some (.asg e' g)
      | _, _ => none)
    | _ => none
  | .Tuple [.Name x px, .Name y py, .Name z pz] kt pt, .Tuple [a, b, d] k2 pt2 => match swapN ct [.Name x px, .Name y py, .Name z pz] [a, b, d] with
    | some (some [x', y', z']) => if x = x' ∧ y = y' ∧ z = z' then (match ct.slot x, ct.slot y, ct.slot z, stepA c ct (decide (x ∈ ct.owns)) [a], stepA c ct (decide (y ∈ ct.owns)) [b], stepA c ct (decide (z ∈ ct.owns)) [d] with
      | some i, some j, some m, some (.cons a' .nil), some (.cons b' .nil), some (.cons d' .nil) =>
        if i ≠ j && i ≠ m && j ≠ m && ct.names.lookup x = some .local && ct.names.lookup y = some .local && ct.names.lookup z = some .local then some (.par3 i j m (.cons a' (.cons b' (.cons d' .nil)))) else none
      | _, _, _, _, _, _ => none) else none
    | some none => (match c.E ct false e, c.G ct t with
      | some e', some g => some (.asg e' g)
      | _, _ => none)
    | _ => none
  | .Tuple ts _ _, .Tuple vs _ _ => match swapN ct ts vs with
    | some none => (match c.E ct false e, c.G ct t with
      | some e', some g => some (.asg e' g)
      | _, _ => none)
    | _ => none
  | .Name y _, _ => if isComp e then none else match c.E ct (decide (y ∈ ct.owns)) e, c.G ct t with
    | some e', some g => some (.asg e' g)
    | _, _ => none
  | .Tuple _ _ _, _ => match c.E ct false e, c.G ct t with
    | some e', some g => some (.asg e' g)
    | _, _ => none
  | .Subscript _ _ _, _ => match c.E ct false e, c.G ct t with
    | some e', some g => some (.asg e' g)
    | _, _ => none
  | _, _ => none
mutual
def compSs : Nat → CT → List Stmt → Option CS
  | 0, _, _ => none
  | n + 1, ct, ss => match ss with
    | [] => some .next
    | s :: r => match compS n ct s, compSs n ct r with
      | some a, some b => some (.seq a b)
      | _, _ => none
def compS : Nat → CT → Stmt → Option CS
  | 0, _, _ => none
  | n + 1, ct, s => match s with
    | .Pass _ => some .next
    | .Break _ => some .brk
    | .Continue _ => some .cnt
    | .Raise .. => some .never
    | .Expr e _ => if isComp e then none else match (comp 40).E ct false e with
      | some e => some (.expr e)
      | none => none
    | .Return none _ => some .retN
    | .Return (some e) _ => match (comp 40).E ct ct.retO e with
      | some e => some (.ret e)
      | none => none
    | .If c a b _ => match (comp 40).B ct c, compSs n ct a, compSs n ct b with
      | some c, some a, some b => some (.iff c a b)
      | _, _, _ => none
    | .While c b [] _ => match (comp 40).B ct c, compSs n ct b with
      | some c, some b => some (.whil c b)
      | _, _ => none
    | .For tg it b [] _ => if isSet it then none else match stepI (comp 40) ct tg it, (comp 40).G ct tg, compSs n ct b with
      | some it, some g, some b => some (.forr it g b)
      | _, _, _ => none
    | .Assign [t] e _ => stepAsg (comp 40) ct t e
    | _ => none
end
end PyD

set_option Elab.async false
set_option linter.all false
set_option maxRecDepth 100000
set_option maxHeartbeats 4000000
/-! PyDI: what the compiler hands out is kept by the rules: expressions. -/
namespace PyD
open PySem PySem.Spec PyProof.Rows L2

structure CtOk (ct : CT) (Γ : Gam) (k : Nat) (X : Cx) : Prop where
  calm : X.calm = true
  room : Room k X.A
  eN : X.N = ct.N
  nd : ct.N.Nodup
  kind : X.env.scope.kind = .function
  en : X.env.scope.names = ct.names
  xe : X.xe = fun _ _ => False
  tg : ∀ x, ct.tgt x = true → X.fn x = true ∨ X.env.scope.names.lookup x = some .local
  f : ∀ y n sp, Γ.f y = some (n, sp) → FnD X.prog X.w X.K X.mg X.base k y n sp
  fk : ∀ y ks n perm sp, Γ.fk y ks = some (n, perm, sp) → FnK X.prog X.w X.K X.mg X.base k y n ks perm sp
  g : ∀ y d, Γ.g y = some d → Glo X.K X.mg y d
  blt : ∀ y, y ∈ ct.blts → X.mg y = none
  gcd : ct.gcd = true → X.mg "gcd" = some (.builtin "math.gcd")
structure Sound (c : Comp) : Prop where
  E : ∀ {ct : CT} {Γ : Gam} {k : Nat} {X : Cx} {o : Bool} {e : Expr} {r : CE}, CtOk ct Γ k X → c.E ct o e = some r → DE X e (evE Γ r)
  B : ∀ {ct : CT} {Γ : Gam} {k : Nat} {X : Cx} {e : Expr} {r : CB}, CtOk ct Γ k X → c.B ct e = some r → DT X e (evB Γ r)
  W : ∀ {ct : CT} {Γ : Gam} {k : Nat} {X : Cx} {e : Expr} {r : CB}, CtOk ct Γ k X → c.W ct e = some r → DW X e (evB Γ r)
  G : ∀ {ct : CT} {Γ : Gam} {k : Nat} {X : Cx} {e : Expr} {r : CG}, CtOk ct Γ k X → c.G ct e = some r → DG X e (slG r) (evG Γ r)

theorem ixOf_ok {x : Str} : ∀ {N : List Str} {j i : Nat}, ixOf x N j = some i → ∃ m, i = j + m ∧ N[m]? = some x
  | [], j, i, h => by cases h
  | y :: r, j, i, h => by
    unfold ixOf at h
    split at h
    · rename_i e
      cases h
      exact ⟨0, rfl, by rw [e]; rfl⟩
    · obtain ⟨m, rfl, e⟩ := ixOf_ok h
      exact ⟨m + 1, by omega, by simpa using e⟩
theorem slot_ok {ct : CT} {x : Str} {i : Nat} (h : ct.slot x = some i) : ct.N[i]? = some x := by
  obtain ⟨m, e, h⟩ := ixOf_ok h
  rw [e, Nat.zero_add]; exact h
theorem isVis_ok {sc : Scope} {x : Str} (h : isVis (sc.names.lookup x) = true) : Vis sc x := by
  unfold isVis at h
  split at h
  · exact .inl (by assumption)
  · exact .inr (.inl (by assumption))
  · exact .inr (.inr (by assumption))
  · cases h
theorem isLoc_ok {sc : Scope} {x : Str} (h : isLoc (sc.names.lookup x) = true) : Loc sc x := by
  unfold isLoc at h
  split at h
  · exact .inl (by assumption)
  · exact .inr (by assumption)
  · cases h
theorem special_ok {x : Str} (h : ¬ special x = true) : (x == ("__debug__" : Str)) = false ∧ (x == ("__classdict__" : Str)) = false ∧ x ≠ "__name__" := by
  have h' : special x = false := Bool.eq_false_iff.mpr h
  unfold special at h'
  rw [Bool.or_eq_false_iff, Bool.or_eq_false_iff] at h'
  exact ⟨h'.1.1, h'.1.2, fun e => by rw [e] at h'; exact absurd h'.2 (by decide +kernel)⟩
theorem star_no {a : Expr} {es : List Expr} {env : Env} (h : isStar a = false) : starEach (a :: es) env = (false, eval a env) :: starEach es env := by
  cases a <;> first | rfl | cases h
theorem back_no {pos : Pos} {env : Env} : ∀ {es : List Expr}, (∀ e ∈ es, isStar e = false) → (backTo pos (starEach es env)).any (·.1) = false
  | [], _ => rfl
  | e :: es, h => by
    rw [star_no (h e (List.mem_cons_self ..))]
    exact back_no fun e' he => h e' (List.mem_cons_of_mem _ he)
section
variable {c : Comp} {ct : CT} {Γ : Gam} {k : Nat} {X : Cx} {o : Bool}
theorem CtOk.gl (C : CtOk ct Γ k X) {x : Str} (h : ct.gl x = true) : Gl X x := by
  show X.env.scope.names.lookup x = _
  rw [C.en]
  exact of_decide_eq_true h
theorem CtOk.vis (C : CtOk ct Γ k X) {x : Str} (h : isVis (ct.names.lookup x) = true) : Vis X.env.scope x := isVis_ok (by rw [C.en]; exact h)
theorem CtOk.ix (C : CtOk ct Γ k X) {x : Str} {i : Nat} (h : ct.slot x = some i) : X.N[i]? = some x := by rw [C.eN]; exact slot_ok h
theorem CtOk.hu (C : CtOk ct Γ k X) : X.A.units + 65 < cLine := by have := C.room.un; omega
theorem CtOk.nd' (C : CtOk ct Γ k X) : X.N.Nodup := by rw [C.eN]; exact C.nd
theorem stepA_star : ∀ {es : List Expr} {r : CA}, stepA c ct o es = some r → ∀ e ∈ es, isStar e = false
  | [], _, _, e, he => by cases he
  | a :: es, r, h, e, he => by
    unfold stepA at h
    split at h
    · cases h
    · rename_i hs
      split at h
      · rename_i e1 e2
        rcases List.mem_cons.mp he with rfl | he
        · exact Bool.eq_false_iff.mpr hs
        · exact stepA_star e2 e he
      · cases h
theorem stepA_ok (S : Sound c) (C : CtOk ct Γ k X) : ∀ {es : List Expr} {r : CA}, stepA c ct o es = some r → DA X es (evA Γ r)
  | [], r, h => by cases h; exact da_nil
  | a :: es, r, h => by
    have hs := stepA_star h a (List.mem_cons_self ..)
    unfold stepA at h
    split at h
    · cases h
    · split at h
      · rename_i e1 e2
        cases h
        exact da_cons (S.E C e1) (stepA_ok S C e2) (star_no hs)
      · cases h
theorem stepT_ok (S : Sound c) (C : CtOk ct Γ k X) : ∀ {es : List Expr} {r : CA}, stepT c ct o es = some r → DA X es (evA Γ r)
  | [], r, h => by cases h; exact da_nil
  | a :: es, r, h => by
    by_cases hs : isStar a = true
    · cases a with
      | Starred e p =>
        unfold stepT at h
        split at h
        · rename_i e1 e2
          cases h
          exact da_star (S.E C e1) (stepT_ok S C e2)
        · cases h
      | _ => cases hs
    · have hs' : isStar a = false := Bool.eq_false_iff.mpr hs
      have h' : (match c.E ct o a, stepT c ct o es with | some a, some as => some (CA.cons a as) | _, _ => none) = some r := by
        cases a <;> first | (cases hs'; done) | exact h | (exact absurd rfl hs)
      split at h'
      · rename_i e1 e2
        cases h'
        exact da_cons (S.E C e1) (stepT_ok S C e2) (star_no hs')
      · cases h'
theorem de_fail {e : Expr} : DE X e tfail := ⟨fun _ _ _ => False, ⟨fun _ _ _ _ _ _ h => h.elim⟩, fun _ _ _ _ _ _ _ h _ => h.elim⟩
theorem stepP_ok (S : Sound c) (C : CtOk ct Γ k X) {e : Option Expr} {r : CP} (h : stepP c ct e = some r) : DP X e (evP Γ r) := by
  unfold stepP at h
  split at h
  · cases h; exact dp_none
  · split at h
    · rename_i e1
      cases h
      exact dp_some (S.E C e1)
    · cases h
/-! builtins -/
def biV : BI → Value
  | .abs => .builtin "abs"
  | .len => .builtin "len"
  | .sum => .builtin "sum"
  | .min => .builtin "min"
  | .max => .builtin "max"
  | .divmod => .builtin "divmod"
  | .any => .builtin "any"
  | .all => .builtin "all"
  | .int => .type "int"
  | .tuple => .type "tuple"
  | .list => .type "list"
  | .listO => .type "list"
  | .gcd => .builtin "math.gcd"
  | .sorted => .builtin "sorted"
  | .sortedO => .builtin "sorted"
theorem biOf_boot {x : Str} {b : BI} (h : biOf x o = some b) : bootBuiltins x = some (biV b) := by
  unfold biOf at h
  by_cases e_len : x = "len"
  · rw [if_pos e_len] at h; subst e_len; first | (cases h; decide +kernel) | (cases o <;> (cases h; decide +kernel))
  rw [if_neg e_len] at h
  by_cases e_int : x = "int"
  · rw [if_pos e_int] at h; subst e_int; first | (cases h; decide +kernel) | (cases o <;> (cases h; decide +kernel))
  rw [if_neg e_int] at h
  by_cases e_tuple : x = "tuple"
  · rw [if_pos e_tuple] at h; subst e_tuple; first | (cases h; decide +kernel) | (cases o <;> (cases h; decide +kernel))
  rw [if_neg e_tuple] at h
  by_cases e_all : x = "all"
  · rw [if_pos e_all] at h; subst e_all; first | (cases h; decide +kernel) | (cases o <;> (cases h; decide +kernel))
  rw [if_neg e_all] at h
  by_cases e_any : x = "any"
  · rw [if_pos e_any] at h; subst e_any; first | (cases h; decide +kernel) | (cases o <;> (cases h; decide +kernel))
  rw [if_neg e_any] at h
  by_cases e_list : x = "list"
  · rw [if_pos e_list] at h; subst e_list; first | (cases h; decide +kernel) | (cases o <;> (cases h; decide +kernel))
  rw [if_neg e_list] at h
  by_cases e_abs : x = "abs"
  · rw [if_pos e_abs] at h; subst e_abs; first | (cases h; decide +kernel) | (cases o <;> (cases h; decide +kernel))
  rw [if_neg e_abs] at h
  by_cases e_sum : x = "sum"
  · rw [if_pos e_sum] at h; subst e_sum; first | (cases h; decide +kernel) | (cases o <;> (cases h; decide +kernel))
  rw [if_neg e_sum] at h
  by_cases e_min : x = "min"
  · rw [if_pos e_min] at h; subst e_min; first | (cases h; decide +kernel) | (cases o <;> (cases h; decide +kernel))
  rw [if_neg e_min] at h
  by_cases e_max : x = "max"
  · rw [if_pos e_max] at h; subst e_max; first | (cases h; decide +kernel) | (cases o <;> (cases h; decide +kernel))
  rw [if_neg e_max] at h
  by_cases e_divmod : x = "divmod"
  · rw [if_pos e_divmod] at h; subst e_divmod; first | (cases h; decide +kernel) | (cases o <;> (cases h; decide +kernel))
  rw [if_neg e_divmod] at h
  by_cases e_sorted : x = "sorted"
  · rw [if_pos e_sorted] at h; subst e_sorted; first | (cases h; decide +kernel) | (cases o <;> (cases h; decide +kernel))
  rw [if_neg e_sorted] at h
  cases h
theorem cd_bi (hc : X.calm = true) (b : BI) : CallD X (biV b) (rdBI b) := by
  cases b with
  | abs => exact cd_abs
  | len => exact cd_len
  | sum => exact cd_sum hc
  | min => exact cd_min hc
  | max => exact cd_max hc
  | divmod => exact cd_divmod
  | any => exact cd_anyX (cr_anyX hc)
  | all => exact cd_anyX (cr_allX hc)
  | int => exact cd_int
  | tuple => exact cd_tuple
  | list => exact cd_list
  | listO => exact cd_listO
  | gcd => exact cd_gcd
  | sorted => exact cd_sorted hc
  | sortedO => exact cd_sortedO hc
theorem de_bi (C : CtOk ct Γ k X) {x : Str} {b : BI} {a : Expr} {es : List Expr} {t : AD} {p pos : Pos} (hs : ¬ special x = true) (hg : ct.gl x = true) (hm : x ∈ ct.blts) (hb : biOf x o = some b) (ha : DA X (a :: es) t) (hst : ∀ e ∈ a :: es, isStar e = false) :
    DE X (.Call (.Name x p) (a :: es) [] pos) (tcb (rdBI b) t) := by
  obtain ⟨s1, s2, s3⟩ := special_ok hs
  have hv := biOf_boot hb
  have h1 := star_no (es := es) (env := X.env) (hst a (List.mem_cons_self ..))
  have h2 := back_no (pos := pos) (env := X.env) fun e he => hst e (List.mem_cons_of_mem _ he)
  have hc := cd_bi (X := X) C.calm b
  cases b <;> first | exact de_callB hc (C.gl hg) (C.blt x hm) hv ha s3 s1 h1 h2 | exact de_callTy hc (C.gl hg) (C.blt x hm) hv ha s3 s1 h1 h2
theorem tyOf_boot {x : Str} {T : Ty} (h : tyOf x = some T) : bootBuiltins x = some (.type T.name) := by
  unfold tyOf at h
  repeat' split at h
  all_goals first | (cases h; subst_vars; decide +kernel) | (cases h)
/-! keywords -/
theorem stepK_ok (S : Sound c) (C : CtOk ct Γ k X) : ∀ {kws : List Keyword} {ks : List Str} {r : CA}, stepK c ct kws = some (ks, r) → DK X kws (evA Γ r) ∧
    ∀ pos : Pos, (backToKw pos (keywordEach kws X.env)).all (·.1.isSome) = true ∧ (backToKw pos (keywordEach kws X.env)).filterMap (·.1) = ks ∧ (backToKw pos (keywordEach kws X.env)).any (·.1.isNone) = false
  | [], ks, r, h => by cases h; exact ⟨dk_nil, fun _ => ⟨rfl, rfl, rfl⟩⟩
  | ⟨some nm, e, kp⟩ :: kws, ks, r, h => by
    unfold stepK at h
    split at h
    · rename_i a ks' as e1 e2
      cases h
      obtain ⟨d, q⟩ := stepK_ok S C e2
      refine ⟨dk_cons (S.E C e1) d, fun pos => ?_⟩
      obtain ⟨q1, q2, q3⟩ := q pos
      exact ⟨q1, congrArg (nm :: ·) q2, q3⟩
    · cases h
  | ⟨none, e, kp⟩ :: kws, ks, r, h => by cases h
/-! operators -/
theorem opd_of {op : Operator} (h : okOp op = true) : OpD X (binaryOp op) (rdOp op) := by
  cases op <;> first | exact opd_add | exact opd_sub | exact opd_mul | exact opd_fdiv | exact opd_mod | exact opd_pow | cases h
theorem cmp_of (C : CtOk ct Γ k X) (op : CmpOp) : OpD X (compareOp op) (rdCmp op) := by
  have hu := C.hu
  cases op with
  | Eq => exact opd_eq (by omega)
  | NotEq => exact opd_ne (by omega)
  | Lt => exact opd_cmpI op_lt
  | LtE => exact opd_cmpI op_le
  | Gt => exact opd_cmpI op_gt
  | GtE => exact opd_cmpI op_ge
  | Is => exact opd_is
  | IsNot => exact opd_isNot
  | In => exact opd_in hu
  | NotIn => exact opd_notIn hu
theorem marks_no {op : CmpOp} {b : Expr} (h : isSet b = false) : behindInMarks op b = false := by
  cases b <;> first | rfl | cases h
theorem folded_no {e : Expr} {env : Env} (h : isSet e = false) : ∀ x, foldedSetIterable e env x = pure x := by
  intro x
  cases e <;> first | rfl | cases h
theorem ix_no {b : Expr} (h : isSlice b = false) : PlainIx b := by
  intro o i
  cases b <;> first | rfl | cases h
theorem base_no {ob : Expr} {nm : Str} (h : isCall ob = false) : attributeBase ob nm X.env (eval ob X.env) = eval ob X.env := by
  cases ob <;> first | rfl | cases h
/-! walks -/
theorem stepI_ok (S : Sound c) (C : CtOk ct Γ k X) {tg e : Expr} {r : CI} (h : stepI c ct tg e = some r) : DI X tg e (evI Γ r) := by
  unfold stepI at h
  split at h
  · rename_i x p a pos
    split at h
    · rename_i ex
      subst ex
      split at h
      · rename_i hc
        simp only [Bool.and_eq_true, decide_eq_true_eq, Bool.not_eq_true'] at hc
        split at h
        · rename_i as e1
          cases h
          exact di_rng1 (C.gl hc.1.1) (C.blt _ hc.1.2) (stepA_ok S C e1) (star_no hc.2)
        · cases h
      · cases h
    · split at h
      · rename_i ex
        subst ex
        split at h
        · rename_i hc
          simp only [Bool.and_eq_true, decide_eq_true_eq, Bool.not_eq_true'] at hc
          split at h
          · rename_i as e1
            cases h
            cases tg <;> first | exact di_enum (C.gl hc.1.1.1) (C.blt _ hc.1.1.2) (stepA_ok S C e1) (star_no hc.1.2) | exact absurd hc.2 Bool.false_ne_true
          · cases h
        · cases h
      · split at h
        · rename_i a' e1
          cases h
          exact di_seq (S.E C e1)
        · cases h
  · rename_i x p a b pos
    split at h
    · rename_i ex
      subst ex
      split at h
      · rename_i hc
        simp only [Bool.and_eq_true, decide_eq_true_eq, Bool.not_eq_true'] at hc
        split at h
        · rename_i as e1
          cases h
          exact di_rng2 (C.gl hc.1.1.1) (C.blt _ hc.1.1.2) (stepA_ok S C e1) (by rw [star_no hc.1.2, star_no hc.2]; rfl) (star_no hc.2)
        · cases h
      · cases h
    · split at h
      · rename_i ex
        subst ex
        split at h
        · rename_i hc
          simp only [Bool.and_eq_true, decide_eq_true_eq, Bool.not_eq_true'] at hc
          split at h
          · rename_i as e1
            cases h
            have hb : (backTo pos (starEach [b] X.env)).any (·.1) = false := by rw [star_no hc.1.2]; rfl
            cases tg <;> first | exact di_zip (C.gl hc.1.1.1.1) (C.blt _ hc.1.1.1.2) (stepA_ok S C e1) (star_no hc.1.1.2) hb | exact absurd hc.2 Bool.false_ne_true
          · cases h
        · cases h
      · split at h
        · rename_i a' e1
          cases h
          exact di_seq (S.E C e1)
        · cases h
  · split at h
    · cases h
    · split at h
      · rename_i a' e1
        cases h
        exact di_seq (S.E C e1)
      · cases h
/-! comprehensions -/
theorem relab_eq (C : CtOk ct Γ k X) (sc : Scope) (cl : List (Str × Addr)) (a : Addr) : (compEnvC sc cl a X.env).scope.names = relab ct.names sc.names := by
  show (sc.names.map fun (n, k) => if (k == NameKind.free && X.env.scope.kind == ScopeKind.function && X.env.kindOf n == some NameKind.cell) then (n, NameKind.cell) else (n, k)) = _
  unfold relab
  refine List.map_congr_left fun y _ => ?_
  obtain ⟨n, q⟩ := y
  have e : X.env.kindOf n = ct.names.lookup n := by rw [← C.en]; rfl
  have e2 : (ScopeKind.function == ScopeKind.function) = true := by decide
  simp only [C.kind, e, e2, Bool.and_true]
theorem blk_ok (C : CtOk ct Γ k X) {sc : Scope} {own : List (Str × Nat)} (h : blkN ct sc own = true) : BlkOk X.N X.env.scope sc own := by
  refine blkOk_by ?_
  rw [C.eN]
  unfold blkN at h
  unfold blkC
  rw [C.en]
  exact h
theorem CtOk.inner (C : CtOk ct Γ k X) {sc : Scope} (hk : sc.kind = .function) (s : Shared) (H : Hp) (a : Addr) (cl : List (Str × Addr)) (fp : List Addr) : CtOk (ct.inner sc) Γ k (X.blk s H sc (compEnvC sc cl a X.env) fp) where
  calm := C.calm
  room := C.room
  eN := C.eN
  nd := C.nd
  kind := hk
  en := relab_eq C sc cl a
  xe := rfl
  tg := fun x h => by
    unfold CT.tgt at h
    rw [Bool.and_eq_true] at h
    have h2 : (decide (sc.names.lookup x = some .cell) || decide ((relab ct.names sc.names).lookup x = some .local)) = true := h.2
    rw [Bool.or_eq_true] at h2
    rcases h2 with h2 | h2
    · left
      show (sc.names.lookup x == some .cell) = true
      rw [of_decide_eq_true h2]; decide
    · right
      rw [relab_eq C sc cl a]
      exact of_decide_eq_true h2
  f := C.f
  fk := C.fk
  g := C.g
  blt := C.blt
  gcd := C.gcd
theorem stepIfs_ok (S : Sound c) (C : CtOk ct Γ k X) {ifs : List Expr} {r : CB} (h : stepIfs c ct ifs = some r) : DTs X ifs (evB Γ r) := by
  unfold stepIfs at h
  split at h
  · cases h; exact dts_nil
  · exact dts_one (S.B C h)
  · cases h
theorem stepLC_ok (S : Sound c) (C : CtOk ct Γ k X) {elt tg iter : Expr} {ifs : List Expr} {scope : Scope} {it : CI} {own : List (Str × Nat)} {g : CG} {b : CB} {e : CE} (h : stepLC c ct elt tg iter ifs scope = some (it, own, g, b, e)) :
    DI X tg iter (evI Γ it) ∧ BlkOk X.N X.env.scope scope own ∧ (∀ i ∈ slG g, i ∈ own.map (·.2)) ∧
      (∀ (s : Shared) (H : Hp) (C : Addr) (cl : List (Str × Addr)) (fp : List Addr), DG (X.blk s H scope (compEnvC scope cl C X.env) fp) tg (slG g) (evG Γ g)) ∧
      (∀ (s : Shared) (H : Hp) (C : Addr) (cl : List (Str × Addr)) (fp : List Addr), DTs (X.blk s H scope (compEnvC scope cl C X.env) fp) ifs (evB Γ b)) ∧
      (∀ (s : Shared) (H : Hp) (C : Addr) (cl : List (Str × Addr)) (fp : List Addr), DE (X.blk s H scope (compEnvC scope cl C X.env) fp) elt (evE Γ e)) ∧ isSet iter = false := by
  unfold stepLC at h
  simp only at h
  split at h
  · rename_i hc
    rw [Bool.and_eq_true, Bool.not_eq_true'] at hc
    split at h
    · rename_i it' g' b' e' h1 h2 h3 h4
      split at h
      · rename_i hall
        cases h
        have B := blk_ok C hc.1
        have hk := B.kind
        refine ⟨stepI_ok S C h1, B, fun i hi => ?_, fun s H a cl fp => S.G (C.inner hk s H a cl fp) h2, fun s H a cl fp => stepIfs_ok S (C.inner hk s H a cl fp) h3, fun s H a cl fp => S.E (C.inner hk s H a cl fp) h4, hc.2⟩
        exact of_decide_eq_true (List.all_eq_true.mp hall i hi)
      · cases h
    · cases h
  · cases h
theorem stepRest_ok (S : Sound c) {ct' : CT} {k' : Nat} {scope : Scope} (hC : ∀ (s : Shared) (H : Hp) (a : Addr) (cl : List (Str × Addr)) (fp : List Addr), CtOk ct' Γ k' (X.blk s H scope (compEnvC scope cl a X.env) fp)) {own : List Nat} : ∀ {gs : List Comprehension} {cs : CCs}, stepRest c ct' own gs = some cs →
    ∃ ts : List TCl, gs = (ts.map fun c => ⟨c.tg, c.iter, c.ifs, 0⟩) ∧ ts.map (·.d) = evCs Γ cs ∧ headVs (ts.map (TCl.cl X)) = cs.hv ∧ (∀ i ∈ cs.hv, i ∈ own) ∧ Nested (ts.map (TCl.cl X)) ∧ (∀ c ∈ ts, ∀ i ∈ c.d.is, i ∈ c.d.vs) ∧
      ∀ (s : Shared) (H : Hp) (a : Addr) (cl : List (Str × Addr)) (fp : List Addr), ∀ c ∈ ts, TClOk (X.blk s H scope (compEnvC scope cl a X.env) fp) c
  | [], cs, h => by
    cases h
    exact ⟨[], rfl, rfl, rfl, fun i hi => (by cases hi), trivial, fun c hc => (by cases hc), fun s H a cl fp c hc => (by cases hc)⟩
  | ⟨tg, iter, ifs, a⟩ :: r, cs, h => by
    unfold stepRest at h
    split at h
    · cases h
    · rename_i hz
      simp only [Bool.or_eq_true, decide_eq_true_eq, not_or, Decidable.not_not, Bool.not_eq_true] at hz
      obtain ⟨ha, hset⟩ := hz
      subst ha
      split at h
      · rename_i it g b cs' h1 h2 h3 h4
        split at h
        · rename_i hall
          cases h
          obtain ⟨ts, e1, e2, e3, e4, e5, e6, e7⟩ := stepRest_ok S hC h4
          have hown : ∀ i ∈ slG g, i ∈ own := fun i hi => of_decide_eq_true (List.all_eq_true.mp hall i hi)
          refine ⟨⟨tg, iter, ifs, ⟨evI Γ it, slG g ++ cs'.hv, slG g, evG Γ g, evB Γ b⟩⟩ :: ts, by rw [e1]; rfl, ?_, rfl, ?_, ⟨?_, e5⟩, ?_, ?_⟩
          · show _ :: ts.map (·.d) = _
            rw [e2]; rfl
          · intro i hi
            rcases List.mem_append.mp hi with h | h
            · exact hown i h
            · exact e4 i h
          · intro i hi
            rw [e3] at hi
            exact List.mem_append_right _ hi
          · intro c hc i hi
            rcases List.mem_cons.mp hc with rfl | hc
            · exact List.mem_append_left _ hi
            · exact e6 c hc i hi
          · intro s H a cl fp c hc
            rcases List.mem_cons.mp hc with rfl | hc
            · exact ⟨stepI_ok S (hC s H a cl fp) h1, S.G (hC s H a cl fp) h2, stepIfs_ok S (hC s H a cl fp) h3, fun env => folded_no hset⟩
            · exact e7 s H a cl fp c hc
        · cases h
      · cases h
theorem stepLCN_ok (S : Sound c) (C : CtOk ct Γ k X) {elt tg iter : Expr} {ifs : List Expr} {gs : List Comprehension} {scope : Scope} {pos py spos : Pos} {y : Str} {i : Nat} {r : CE} (h : stepLCN c ct elt tg iter ifs gs scope = some r) (hy : X.N[i]? = some y) (hyl : X.env.scope.names.lookup y = some .local)
    (hsw : swapsWith (.ListComp elt (⟨tg, iter, ifs, 0⟩ :: gs) scope pos) (some (.Name y py)) spos.line X.env = pure true) : DS X (.Assign [.Name y py] (.ListComp elt (⟨tg, iter, ifs, 0⟩ :: gs) scope pos) spos) (sasg (evE Γ r) (gname i)) := by
  unfold stepLCN at h
  simp only at h
  split at h
  · rename_i hc
    rw [Bool.and_eq_true, Bool.not_eq_true'] at hc
    split at h
    · rename_i it' g' b' e' h1 h2 h3 h4
      split at h
      · rename_i cs h5
        split at h
        · rename_i hall
          cases h
          have B := blk_ok C hc.1
          have hk := B.kind
          obtain ⟨ts, e1, e2, e3, e4, e5, e6, e7⟩ := stepRest_ok S (fun s H a cl fp => C.inner hk s H a cl fp) h5
          subst e1
          show DS X _ (sasg (tlcN (evI Γ it') ((ownOf ct.N scope.names).map (·.2)) (evG Γ g') (evB Γ b') (evCs Γ cs) (evE Γ e')) (gname i))
          rw [← e2]
          exact ds_setLcN C.calm C.nd' hy hyl hsw (stepI_ok S C h1) B (fun i hi => of_decide_eq_true (List.all_eq_true.mp hall i hi)) (by rw [e3]; exact e4) e5 e6
            (fun s H a cl fp => S.G (C.inner hk s H a cl fp) h2) (fun s H a cl fp => stepIfs_ok S (C.inner hk s H a cl fp) h3) (fun s H a cl fp => S.E (C.inner hk s H a cl fp) h4) (folded_no hc.2) e7
        · cases h
      · cases h
    · cases h
  · cases h
theorem stepLC2_ok (S : Sound c) (C : CtOk ct Γ k X) {elt tg iter tg1 iter1 : Expr} {ifs ifs1 : List Expr} {scope : Scope} {pos : Pos} {r : CE} (h : stepLC2 c ct elt tg iter ifs tg1 iter1 ifs1 scope = some r) : DE X (.ListComp elt [⟨tg, iter, ifs, 0⟩, ⟨tg1, iter1, ifs1, 0⟩] scope pos) (evE Γ r) := by
  unfold stepLC2 at h
  simp only at h
  split at h
  · rename_i hc
    rw [Bool.and_eq_true, Bool.and_eq_true, Bool.not_eq_true', Bool.not_eq_true'] at hc
    split at h
    · rename_i it' g' b' e' h1 h2 h3 h4
      split at h
      · rename_i it1 g1 b1 h5 h6 h7
        split at h
        · rename_i hall
          rw [Bool.and_eq_true] at hall
          cases h
          have B := blk_ok C hc.1
          have hk := B.kind
          exact de_lc2 C.calm C.nd' (stepI_ok S C h1) B (fun i hi => of_decide_eq_true (List.all_eq_true.mp hall.1 i hi)) (fun i hi => of_decide_eq_true (List.all_eq_true.mp hall.2 i hi))
            (fun s H a cl fp => S.G (C.inner hk s H a cl fp) h2) (fun s H a cl fp => stepIfs_ok S (C.inner hk s H a cl fp) h3) (fun s H a cl fp => stepI_ok S (C.inner hk s H a cl fp) h5) (fun s H a cl fp => S.G (C.inner hk s H a cl fp) h6) (fun s H a cl fp => stepIfs_ok S (C.inner hk s H a cl fp) h7)
            (fun s H a cl fp => S.E (C.inner hk s H a cl fp) h4) (folded_no hc.2.1) (fun env => folded_no hc.2.2)
        · cases h
      · cases h
    · cases h
  · cases h
/-! calls -/
theorem de_isiX (C : CtOk ct Γ k X) {T : Ty} {a : Expr} {ta : TD} {y : Str} {p yp pos : Pos} (hs : ¬ special "isinstance" = true) (hg : ct.gl "isinstance" = true) (hm : ("isinstance" : Str) ∈ ct.blts) (hT : tyOf y = some T) (hgy : ct.gl y = true) (hmy : y ∈ ct.blts) (hsy : ¬ special y = true) (ha : DE X a ta) (hst : isStar a = false) :
    DE X (.Call (.Name "isinstance" p) [a, .Name y yp] [] pos) (tisi T ta) := by
  obtain ⟨s1, s2, s3⟩ := special_ok hsy
  exact de_isi (p2 := pos) (C.gl hg) (C.blt _ hm) (tyOf_boot hT) (C.gl hgy) (C.blt _ hmy) s3 s1 ha (star_no hst) rfl rfl
theorem stepCall_ok (S : Sound c) (C : CtOk ct Γ k X) {x : Str} {args : List Expr} {kws : List Keyword} {p pos : Pos} {r : CE} (h : stepCall c ct o x args kws = some r) : DE X (.Call (.Name x p) args kws pos) (evE Γ r) := by
  unfold stepCall at h
  split at h
  · cases h
  · rename_i hs
    obtain ⟨s1, s2, s3⟩ := special_ok hs
    split at h
    · rename_i hg
      split at h
      · split at h
        · rename_i hm
          split at h
          · cases h
          · rename_i a y yp
            split at h
            · rename_i ex
              subst ex
              split at h
              · rename_i T a' e1 e2
                split at h
                · rename_i hc
                  simp only [Bool.and_eq_true, decide_eq_true_eq, Bool.not_eq_true'] at hc
                  cases h
                  exact de_isiX C hs hg hm e1 hc.1.1.1 hc.1.1.2 (fun z => by rw [z] at hc; exact absurd hc.1.2 (by decide)) (S.E C e2) hc.2
                · cases h
              · cases h
            · split at h
              · rename_i b as e1 e2
                cases h
                exact de_bi C hs hg hm e1 (stepA_ok S C e2) (stepA_star e2)
              · cases h
          · rename_i h1 h2
            split at h
            · rename_i b as e1 e2
              cases h
              cases args with
              | nil => exact absurd rfl h1
              | cons a es => exact de_bi C hs hg hm e1 (stepA_ok S C e2) (stepA_star e2)
            · cases h
        · split at h
          · rename_i hc
            rw [Bool.and_eq_true, decide_eq_true_eq] at hc
            obtain ⟨rfl, hgc⟩ := hc
            split at h
            · cases h
            · rename_i h1
              split at h
              · rename_i as e2
                cases h
                cases args with
                | nil => exact absurd rfl h1
                | cons a es => exact de_callBfun cd_gcd (C.gl hg) (C.gcd hgc) (stepA_ok S C e2) s1 (star_no (stepA_star e2 a (List.mem_cons_self ..))) (back_no fun e he => stepA_star e2 e (List.mem_cons_of_mem _ he))
              · cases h
          · split at h
            · rename_i as e2
              cases h
              show DE X _ (tcl Γ x (evA Γ as))
              unfold tcl
              cases eΓ : Γ.f x with
              | none => exact de_fail
              | some ns =>
                obtain ⟨n, sp⟩ := ns
                cases args with
                | nil =>
                  cases e2
                  exact de_call0 (C.f x n sp eΓ) C.room (C.gl hg) s1
                | cons a es => exact de_call (C.f x n sp eΓ) C.room (C.gl hg) (stepA_ok S C e2) s1 (star_no (stepA_star e2 a (List.mem_cons_self ..))) (back_no fun e he => stepA_star e2 e (List.mem_cons_of_mem _ he))
            · cases h
      · split at h
        · rename_i ks as e2
          cases h
          obtain ⟨dk, q⟩ := stepK_ok S C e2
          obtain ⟨q1, q2, q3⟩ := q pos
          show DE X _ (tclk Γ x ks (evA Γ as))
          unfold tclk
          cases eΓ : Γ.fk x ks with
          | none => exact de_fail
          | some ns =>
            obtain ⟨n, perm, sp⟩ := ns
            refine de_callk (C.fk x ks n perm sp eΓ) C.room (C.gl hg) dk s1 q1 q2 ?_
            rw [q3]; rfl
        · cases h
    · split at h
      · rename_i hv
        split at h
        · rename_i a es
          split at h
          · rename_i i as e1 e2
            cases h
            exact de_callv C.f C.room (C.ix e1) (C.vis hv) (stepA_ok S C e2) s1 s2 (star_no (stepA_star e2 a (List.mem_cons_self ..))) (back_no fun e he => stepA_star e2 e (List.mem_cons_of_mem _ he))
          · cases h
        · cases h
      · cases h
end
end PyD

set_option Elab.async false
set_option linter.all false
set_option maxRecDepth 100000
set_option maxHeartbeats 4000000
/-! PyDJ: what the compiler hands out is kept by the rules: whole expressions, statements, defs. -/
namespace PyD
open PySem PySem.Spec PyProof.Rows L2
section
variable {c : Comp} {ct : CT} {Γ : Gam} {k : Nat} {X : Cx} {o : Bool}
theorem lit_ok {kk : Const} {l : Lit} {j : Nat} {pos : Pos} (h : litOf kk = some l) : DE X (.Constant kk j pos) (tcon (rdLit l)) := by
  cases kk <;> first | (cases h; first | exact de_non | exact de_bl | exact de_int | exact de_str) | cases h
theorem de_meth1 (C : CtOk ct Γ k X) {ob a : Expr} {to : TD} {t : AD} {name : Str} {apos cpos : Pos} {id : String} {rd : D → List D → Sto → QD → Prop} (slot : Slot "list" name id) (hty : typeOf (.builtin id) = pure (.type "method_descriptor")) (hm : MethD X id rd)
    (ho : DE X ob to) (ha : DA X [a] t) (hl : (apos.endLine == cpos.line) = true) (hc : isCall ob = false) (hs : isStar a = false) : DE X (.Call (.Attribute ob name apos) [a] [] cpos) (tmeth rd to t) := by
  refine de_meth F.plainAttrs_list slot hty hm ho ha (base_no hc) ?_ hl (star_no hs) rfl
  rw [star_no hs]
  rfl
theorem stepE_ok (S : Sound c) (C : CtOk ct Γ k X) {e : Expr} {r : CE} (h : stepE c ct o e = some r) : DE X e (evE Γ r) := by
  unfold stepE at h
  split at h
  · -- Name
    split at h
    · cases h
    · rename_i hs
      obtain ⟨s1, s2, s3⟩ := special_ok hs
      split at h
      · rename_i hv
        split at h
        · rename_i i e1
          cases h
          exact de_var (C.ix e1) (C.vis hv) s1 s2
        · cases h
      · split at h
        · rename_i x p _ hg
          cases h
          show DE X _ (tglo Γ x)
          unfold tglo
          cases eΓ : Γ.g x with
          | none => exact de_fail
          | some d => exact de_glo (C.g x d eΓ) (C.gl hg) s1
        · cases h
  · split at h
    · rename_i e1
      cases h
      exact lit_ok e1
    · cases h
  · split at h
    · rename_i ho
      split at h
      · rename_i e1 e2
        cases h
        exact de_bin (opd_of ho) (S.E C e1) (S.E C e2)
      · cases h
    · cases h
  · split at h
    · cases h
    · rename_i hs
      split at h
      · rename_i e1 e2
        cases h
        exact de_cmp (cmp_of C _) (S.E C e1) (S.E C e2) (marks_no (Bool.eq_false_iff.mpr hs))
      · cases h
  · split at h
    · cases h
    · rename_i hs
      split at h
      · rename_i e1 e2 e3
        cases h
        exact de_chain (cmp_of C _) (cmp_of C _) (S.E C e1) (S.E C e2) (S.E C e3) (marks_no (Bool.eq_false_iff.mpr hs))
      · cases h
  · split at h
    · rename_i e1
      cases h
      exact de_neg (S.E C e1)
    · cases h
  · split at h
    · rename_i e1
      cases h
      exact de_not (S.E C e1)
    · cases h
  · exact de_one (S.E C h)
  · rename_i op a b rs pos
    split at h
    · rename_i e1 e2
      cases h
      cases op with
      | And => exact de_and (S.E C e1) (S.E C e2)
      | Or => exact de_or (S.E C e1) (S.E C e2)
    · cases h
  · split at h
    · rename_i e1 e2 e3
      cases h
      exact de_ifx (S.B C e1) (S.E C e2) (S.E C e3)
    · cases h
  · split at h
    · rename_i e1 e2 e3
      cases h
      exact de_slice (S.E C e1) (stepP_ok S C e2) (stepP_ok S C e3)
    · cases h
  · split at h
    · rename_i ei
      subst ei
      split at h
      · rename_i e1
        cases h
        exact de_rev (S.E C e1)
      · cases h
    · cases h
  · split at h
    · cases h
    · rename_i hs
      split at h
      · rename_i e1 e2
        cases h
        exact de_idx (S.E C e1) (S.E C e2) (ix_no (Bool.eq_false_iff.mpr hs))
      · cases h
  · split at h
    · rename_i e1
      cases h
      exact de_tup (stepT_ok S C e1)
    · cases h
  · split at h
    · cases h; exact de_dnew
    · cases h
  · split at h
    · rename_i e1
      cases h
      cases o with
      | true => exact de_own (stepA_ok S C e1)
      | false => exact de_lst (stepA_ok S C e1)
    · cases h
  · split at h
    · rename_i hc
      simp only [Bool.and_eq_true, Bool.not_eq_true', decide_eq_true_eq] at hc
      obtain ⟨⟨⟨⟨⟨⟨⟨rfl, rfl⟩, _⟩, h1⟩, h2⟩, h3⟩, h4⟩, h5⟩ := hc
      split at h
      · rename_i e1
        cases h
        exact de_lrg C.calm (C.gl h1) (C.blt _ h3) (C.gl h2) (C.blt _ h4) (S.E C e1) (star_no h5)
      · cases h
    · exact stepCall_ok S C h
  · exact stepCall_ok S C h
  · split at h
    · rename_i hc
      simp only [Bool.and_eq_true, Bool.not_eq_true'] at hc
      split at h
      · rename_i e1 e2
        split at h
        · rename_i en
          cases h
          rw [en]
          exact de_meth1 C F.slot_list_append rfl md_append (S.E C e1) (stepA_ok S C e2) hc.1.1 hc.1.2 hc.2
        · split at h
          · rename_i en
            cases h
            rw [en]
            exact de_meth1 C F.slot_list_pop rfl md_pop (S.E C e1) (stepA_ok S C e2) hc.1.1 hc.1.2 hc.2
          · cases h
      · cases h
    · cases h
  · split at h
    · rename_i e1
      cases h
      obtain ⟨hi, B, his, hg, ht, he, hs⟩ := stepLC_ok S C e1
      cases o with
      | true => exact de_lcO C.calm C.nd' hi B his hg ht he (folded_no hs)
      | false => exact de_lc C.calm C.nd' hi B his hg ht he (folded_no hs)
    · cases h
  · split at h
    · cases h
    · exact stepLC2_ok S C h
  · cases h
theorem stepW_ok (S : Sound c) (C : CtOk ct Γ k X) {e : Expr} {r : CB} (h : stepW c ct e = some r) : DW X e (evB Γ r) := by
  unfold stepW at h
  split at h
  · rename_i op a pos
    cases op with
    | And => exact dw_and1 (S.B C h)
    | Or => exact dw_or1 (S.B C h)
  · rename_i op a b rs pos
    split at h
    · rename_i e1 e2
      cases h
      cases op with
      | And => exact dw_and (S.B C e1) (S.W C e2)
      | Or => exact dw_or (S.B C e1) (S.W C e2)
    · cases h
  · cases h
theorem plainT_ok {e : Expr} {env : Env} (h : plainT e = true) : ∀ whole, isTrue e env whole = (do let v ← whole; standAt e.pos; holding [v] (truthy v)) := by
  intro whole
  cases e <;> first | rfl | cases h
theorem stepB_ok (S : Sound c) (C : CtOk ct Γ k X) {e : Expr} {r : CB} (h : stepB c ct e = some r) : DT X e (evB Γ r) := by
  unfold stepB at h
  split at h
  · exact (stepW_ok S C h).dt
  · split at h
    · rename_i e1
      cases h
      exact dt_not (S.B C e1)
    · cases h
  · split at h
    · cases h
    · rename_i hs
      split at h
      · rename_i e1 e2
        cases h
        exact dt_cmp (cmp_of C _) (S.E C e1) (S.E C e2) (marks_no (Bool.eq_false_iff.mpr hs))
      · cases h
  · split at h
    · cases h
    · rename_i hs
      split at h
      · rename_i e1 e2 e3
        cases h
        exact dt_chain (cmp_of C _) (cmp_of C _) (S.E C e1) (S.E C e2) (S.E C e3) (marks_no (Bool.eq_false_iff.mpr hs))
      · cases h
  · split at h
    · rename_i hp
      split at h
      · rename_i e1
        cases h
        exact dt_truth (S.E C e1) (plainT_ok hp)
      · cases h
    · cases h
/-! targets -/
theorem asgEach_no {a : Expr} {es : List Expr} {env : Env} (h : isStar a = false) : assignEach (a :: es) env = (false, assign a env) :: assignEach es env := by
  cases a <;> first | rfl | cases h
theorem stepGs_star : ∀ {es : List Expr} {r : CGs}, stepGs c ct es = some r → ∀ e ∈ es, isStar e = false
  | [], _, _, e, he => by cases he
  | a :: es, r, h, e, he => by
    unfold stepGs at h
    split at h
    · cases h
    · rename_i hs
      split at h
      · rename_i e1 e2
        rcases List.mem_cons.mp he with rfl | he
        · exact Bool.eq_false_iff.mpr hs
        · exact stepGs_star e2 e he
      · cases h
theorem stepGs_ok (S : Sound c) (C : CtOk ct Γ k X) : ∀ {es : List Expr} {r : CGs}, stepGs c ct es = some r → DGs X es (slGs r) (evGs Γ r)
  | [], r, h => by cases h; exact dgs_nil
  | a :: es, r, h => by
    have hs := stepGs_star h a (List.mem_cons_self ..)
    unfold stepGs at h
    split at h
    · cases h
    · split at h
      · rename_i e1 e2
        cases h
        exact dgs_cons (S.G C e1) (stepGs_ok S C e2) (by rw [asgEach_no hs]; rfl)
      · cases h
theorem asg_len {env : Env} : ∀ {es : List Expr}, (∀ e ∈ es, isStar e = false) → (assignEach es env).length = es.length
  | [], _ => rfl
  | e :: es, h => by
    rw [asgEach_no (h e (List.mem_cons_self ..)), List.length_cons, List.length_cons, asg_len fun e' he => h e' (List.mem_cons_of_mem _ he)]
theorem asg_none {env : Env} : ∀ {es : List Expr}, (∀ e ∈ es, isStar e = false) → (assignEach es env).findIdx? (·.1) = none
  | [], _ => rfl
  | e :: es, h => by
    rw [asgEach_no (h e (List.mem_cons_self ..)), List.findIdx?_cons]
    simp [asg_none (env := env) fun e' he => h e' (List.mem_cons_of_mem _ he)]
theorem sub_no {ob i : Expr} {pos : Pos} (h : isSlice i = false) : ∀ v, assign (.Subscript ob i pos) X.env v = (do
      let ov ← holding [v] (eval ob X.env)
      let iv ← holding [v, ov] (eval i X.env)
      standAt pos
      holding [v, ov, iv] (setItem ov iv v)
      release [v, ov, iv] []) := by
  intro v
  cases i <;> first | rfl | cases h
theorem stepG_ok (S : Sound c) (C : CtOk ct Γ k X) {e : Expr} {r : CG} (h : stepG c ct e = some r) : DG X e (slG r) (evG Γ r) := by
  unfold stepG at h
  split at h
  · split at h
    · rename_i ht
      split at h
      · rename_i i e1
        cases h
        refine dg_name C.nd' (C.ix e1) (isLoc_ok ?_) (C.tg _ ht)
        rw [C.en]
        unfold CT.tgt at ht
        rw [Bool.and_eq_true] at ht
        exact ht.1
      · cases h
    · cases h
  · split at h
    · rename_i e1
      cases h
      exact dg_tup C.calm (stepGs_ok S C e1) (asg_len (stepGs_star e1)) (asg_none (stepGs_star e1))
    · cases h
  · split at h
    · cases h
    · rename_i hs
      split at h
      · rename_i e1 e2
        cases h
        exact dg_sub (by have := C.hu; omega) (S.E C e1) (S.E C e2) (sub_no (Bool.eq_false_iff.mpr hs))
      · cases h
  · cases h
end
theorem comp_ok : ∀ n, Sound (comp n)
  | 0 => ⟨fun _ h => (by cases h), fun _ h => (by cases h), fun _ h => (by cases h), fun _ h => (by cases h)⟩
  | n + 1 => ⟨fun C h => stepE_ok (comp_ok n) C h, fun C h => stepB_ok (comp_ok n) C h, fun C h => stepW_ok (comp_ok n) C h, fun C h => stepG_ok (comp_ok n) C h⟩
/-! ### statements -/
section
variable {c : Comp} {ct : CT} {Γ : Gam} {k : Nat} {X : Cx} {o : Bool}
theorem swaps_no {e : Expr} {t : Option Expr} {l : Nat} {env : Env} (h : isComp e = false) : swapsWith e t l env = pure false := by
  cases e <;> first | rfl | cases h
theorem swapped_no {t e : Expr} {env : Env} (h : isTupT e = false) : swappedStores [t] e env = pure none := by
  cases t <;> cases e <;> first | rfl | cases h
theorem swapped_no1 {t e : Expr} {env : Env} (h : isTupT t = false) (hl : ∀ es p, t ≠ .List es p) : swappedStores [t] e env = pure none := by
  cases t <;> first | rfl | (exact absurd rfl (hl _ _)) | cases h
theorem blockKind_fn (C : CtOk ct Γ k X) : X.env.blockKind = .function := by
  unfold Env.blockKind
  rw [C.kind]; rfl
theorem swapN_ok (C : CtOk ct Γ k X) {ts vs : List Expr} {r : Option (List Str)} {k1 k2 : Nat} {p1 p2 : Pos} (h : swapN ct ts vs = some r) : swappedStores [.Tuple ts k1 p1] (.Tuple vs k2 p2) X.env = pure r := by
  unfold swapN at h
  have e0 : (X.env.blockKind != ScopeKind.function) = false := by rw [blockKind_fn C]; decide
  have e1 : ∀ id, X.env.kindOf id = ct.names.lookup id := fun id => by rw [← C.en]; rfl
  unfold swappedStores
  simp only [e0, e1, Bool.or_false]
  split at h
  · rename_i hc
    cases h
    exact if_pos hc
  · rename_i hc
    refine (if_neg hc).trans ?_
    split at h
    · rename_i hs
      cases h
      exact if_pos hs
    · rename_i hs
      refine (if_neg hs).trans ?_
      split at h
      · rename_i hn
        cases h
        exact if_pos hn
      · rename_i hn
        refine (if_neg hn).trans ?_
        split at h
        · rename_i hf
          cases h
          exact if_pos hf
        · rename_i hf
          refine (if_neg hf).trans ?_
          split at h
          · cases h
          · rename_i hk
            cases h
            exact if_neg hk
theorem swLC_ok (C : CtOk ct Γ k X) {elt : Expr} {gs : List Comprehension} {scope : Scope} {pos py : Pos} {y : Str} {l : Nat} : swapsWith (.ListComp elt gs scope pos) (some (.Name y py)) l X.env = pure (swLC ct scope y py.line pos.line) := by
  have e0 : (X.env.blockKind == ScopeKind.function) = true := by rw [blockKind_fn C]; decide
  have e1 : ∀ id, X.env.kindOf id = ct.names.lookup id := fun id => by rw [← C.en]; rfl
  unfold swLC
  unfold swapsWith
  simp only [e0, e1, Bool.true_and]
  rfl
theorem one_tgt {t : Expr} {env : Env} (h : isStar t = false) : (assignEach [t] env).map (·.2) = [assign t env] := by
  rw [asgEach_no h]; rfl
theorem G_star (S : Sound c) {t : Expr} {g : CG} {n : Nat} (h : (comp n).G ct t = some g) : isStar t = false := by
  cases n with
  | zero => cases h
  | succ n =>
    cases t <;> first | rfl | cases h
end
end PyD

set_option Elab.async false
set_option linter.all false
set_option maxRecDepth 100000
set_option maxHeartbeats 4000000
/-! PyDK: statements, defs. -/
namespace PyD
open PySem PySem.Spec PyProof.Rows L2
section
variable {ct : CT} {Γ : Gam} {k : Nat} {X : Cx} {o : Bool} {n : Nat}
theorem stepA1 {c : Comp} {a : Expr} {a' : CE} (h : stepA c ct o [a] = some (.cons a' .nil)) : c.E ct o a = some a' ∧ isStar a = false := by
  have hs := stepA_star h a (List.mem_cons_self ..)
  unfold stepA at h
  split at h
  · cases h
  · split at h
    · rename_i e1 e2
      cases h
      exact ⟨e1, hs⟩
    · cases h
theorem sole_eq {t e : Expr} {l : Nat} {env : Env} : swapsWithSole [t] e l env = swapsWith e (some t) l env := rfl
theorem swaps_tup {e : Expr} {ts : List Expr} {kk : Nat} {pp : Pos} {l : Nat} {env : Env} : swapsWith e (some (.Tuple ts kk pp)) l env = pure false := by
  cases e <;> rfl
theorem swaps_sub {e a b : Expr} {pp : Pos} {l : Nat} {env : Env} : swapsWith e (some (.Subscript a b pp)) l env = pure false := by
  cases e <;> rfl
theorem asg_tup (C : CtOk ct Γ k X) {ts vs : List Expr} {k1 k2 : Nat} {p1 p2 pos : Pos} {r : CS} (hw : swapN ct ts vs = some none)
    (h : (match (comp n).E ct false (.Tuple vs k2 p2), (comp n).G ct (.Tuple ts k1 p1) with | some e', some g => some (CS.asg e' g) | _, _ => none) = some r) :
    DS X (.Assign [.Tuple ts k1 p1] (.Tuple vs k2 p2) pos) (evS Γ r) := by
  split at h
  · rename_i e' g h1 h2
    cases h
    exact ds_asg ((comp_ok n).E C h1) ((comp_ok n).G C h2) rfl (swapN_ok C hw) rfl
  · cases h
theorem asg_par2 (C : CtOk ct Γ k X) {x y : Str} {a b : Expr} {px py pt pt2 pos : Pos} {kt k2 : Nat} {i j : Nat} {a' b' : CE} {o1 o2 : Bool} (hw : swapN ct [.Name x px, .Name y py] [a, b] = some (some [x, y]))
    (hi : ct.slot x = some i) (hj : ct.slot y = some j) (ha : stepA (comp n) ct o1 [a] = some (.cons a' .nil)) (hb : stepA (comp n) ct o2 [b] = some (.cons b' .nil)) (hij : i ≠ j) (hx : ct.names.lookup x = some .local) (hy : ct.names.lookup y = some .local) :
    DS X (.Assign [.Tuple [.Name x px, .Name y py] kt pt] (.Tuple [a, b] k2 pt2) pos) (evS Γ (.par2 i j (.cons a' (.cons b' .nil)))) := by
  obtain ⟨a1, a2⟩ := stepA1 ha
  obtain ⟨b1, b2⟩ := stepA1 hb
  exact ds_par2 C.calm C.nd' (C.ix hi) (C.ix hj) hij (by rw [C.en]; exact hx) (by rw [C.en]; exact hy) (da_cons ((comp_ok n).E C a1) (da_cons ((comp_ok n).E C b1) da_nil (star_no b2)) (star_no a2)) (swapN_ok C hw) rfl
theorem asg_par3 (C : CtOk ct Γ k X) {x y z : Str} {a b d : Expr} {px py pz pt pt2 pos : Pos} {kt k2 : Nat} {i j m : Nat} {a' b' d' : CE} {o1 o2 o3 : Bool} (hw : swapN ct [.Name x px, .Name y py, .Name z pz] [a, b, d] = some (some [x, y, z]))
    (hi : ct.slot x = some i) (hj : ct.slot y = some j) (hm : ct.slot z = some m) (ha : stepA (comp n) ct o1 [a] = some (.cons a' .nil)) (hb : stepA (comp n) ct o2 [b] = some (.cons b' .nil)) (hd : stepA (comp n) ct o3 [d] = some (.cons d' .nil)) (hij : i ≠ j) (him : i ≠ m) (hjm : j ≠ m)
    (hx : ct.names.lookup x = some .local) (hy : ct.names.lookup y = some .local) (hz : ct.names.lookup z = some .local) :
    DS X (.Assign [.Tuple [.Name x px, .Name y py, .Name z pz] kt pt] (.Tuple [a, b, d] k2 pt2) pos) (evS Γ (.par3 i j m (.cons a' (.cons b' (.cons d' .nil))))) := by
  obtain ⟨a1, a2⟩ := stepA1 ha
  obtain ⟨b1, b2⟩ := stepA1 hb
  obtain ⟨d1, d2⟩ := stepA1 hd
  exact ds_par3 C.calm C.nd' (C.ix hi) (C.ix hj) (C.ix hm) hij him hjm (by rw [C.en]; exact hx) (by rw [C.en]; exact hy) (by rw [C.en]; exact hz)
    (da_cons ((comp_ok n).E C a1) (da_cons ((comp_ok n).E C b1) (da_cons ((comp_ok n).E C d1) da_nil (star_no d2)) (star_no b2)) (star_no a2)) (swapN_ok C hw) rfl
theorem stepAsg_ok (C : CtOk ct Γ k X) {t e : Expr} {pos : Pos} {r : CS} (h : stepAsg (comp n) ct t e = some r) : DS X (.Assign [t] e pos) (evS Γ r) := by
  have S := comp_ok n
  unfold stepAsg at h
  split at h
  · rename_i y py elt tg iter ifs scope lpos
    split at h
    · rename_i hsw
      split at h
      · rename_i it own g b e' i h1 h2
        cases h
        obtain ⟨hi, B, his, hg, ht, he, hs⟩ := stepLC_ok S C h1
        have hl : X.env.scope.names.lookup y = some .local := by
          rw [C.en]
          unfold swLC at hsw
          simp only [Bool.and_eq_true] at hsw
          exact eq_of_beq hsw.1.1
        have hw : swapsWith (.ListComp elt [⟨tg, iter, ifs, 0⟩] scope lpos) (some (.Name y py)) pos.line X.env = pure true := by rw [swLC_ok C, hsw]
        show DS X _ (sasg (evE Γ (.lc (decide (y ∈ ct.owns)) it (own.map (·.2)) g b e')) (gname i))
        cases decide (y ∈ ct.owns) with
        | true => exact ds_setLcO C.calm C.nd' (C.ix h2) hl hw hi B his hg ht he (folded_no hs)
        | false => exact ds_setLc C.calm C.nd' (C.ix h2) hl hw hi B his hg ht he (folded_no hs)
      · cases h
    · rename_i hsw
      split at h
      · rename_i e' g h1 h2
        cases h
        refine ds_asg (S.E C h1) (S.G C h2) ?_ rfl rfl
        rw [sole_eq, swLC_ok C, Bool.eq_false_iff.mpr hsw]
      · cases h
  · rename_i y py elt tg iter ifs g1 gs scope lpos
    split at h
    · rename_i hsw
      rw [Bool.and_eq_true] at hsw
      split at h
      · rename_i e' i h1 h2
        cases h
        have hl : X.env.scope.names.lookup y = some .local := by
          rw [C.en]
          have := hsw.1
          unfold swLC at this
          simp only [Bool.and_eq_true] at this
          exact eq_of_beq this.1.1
        exact stepLCN_ok S C h1 (C.ix h2) hl (by rw [swLC_ok C, hsw.1])
      · cases h
    · cases h
  · split at h
    · rename_i x' y' hw
      split at h
      · rename_i hxy
        obtain ⟨rfl, rfl⟩ := hxy
        split at h
        · rename_i i j a' b' h1 h2 h3 h4
          split at h
          · rename_i hc
            simp only [Bool.and_eq_true, decide_eq_true_eq] at hc
            cases h
            exact asg_par2 C hw h1 h2 h3 h4 hc.1.1 hc.1.2 hc.2
          · cases h
        · cases h
      · cases h
    · rename_i hw
      exact asg_tup C hw h
    · cases h
  · split at h
    · rename_i x' y' z' hw
      split at h
      · rename_i hxy
        obtain ⟨rfl, rfl, rfl⟩ := hxy
        split at h
        · rename_i i j m a' b' d' h1 h2 h3 h4 h5 h6
          split at h
          · rename_i hc
            simp only [Bool.and_eq_true, decide_eq_true_eq] at hc
            cases h
            exact asg_par3 C hw h1 h2 h3 h4 h5 h6 hc.1.1.1.1.1 hc.1.1.1.1.2 hc.1.1.1.2 hc.1.1.2 hc.1.2 hc.2
          · cases h
        · cases h
      · cases h
    · rename_i hw
      exact asg_tup C hw h
    · cases h
  · split at h
    · rename_i hw
      exact asg_tup C hw h
    · cases h
  · split at h
    · cases h
    · rename_i hs
      split at h
      · rename_i e' g h1 h2
        cases h
        exact ds_asg (S.E C h1) (S.G C h2) (by rw [sole_eq]; exact swaps_no (Bool.eq_false_iff.mpr hs)) rfl rfl
      · cases h
  · rename_i hne1 hne2 hne3
    split at h
    · rename_i e' g h1 h2
      cases h
      refine ds_asg (S.E C h1) (S.G C h2) (by rw [sole_eq]; exact swaps_tup) (swapped_no ?_) rfl
      cases e <;> first | rfl | (exfalso; exact hne3 _ _ _ rfl)
    · cases h
  · split at h
    · rename_i e' g h1 h2
      cases h
      exact ds_asg (S.E C h1) (S.G C h2) (by rw [sole_eq]; exact swaps_sub) rfl rfl
    · cases h
  · cases h
mutual
theorem compSs_ok (C : CtOk ct Γ k X) : ∀ {n : Nat} {ss : List Stmt} {r : CS}, compSs n ct ss = some r → DSs X ss (evS Γ r)
  | 0, _, _, h => by unfold compSs at h; cases h
  | n + 1, ss, r, h => by
    unfold compSs at h
    cases ss with
    | nil => cases h; exact dss_nil
    | cons s ss =>
      simp only at h
      split at h
      · rename_i a b h1 h2
        cases h
        exact dss_cons (compS_ok C h1) (compSs_ok C h2)
      · cases h
theorem compS_ok (C : CtOk ct Γ k X) : ∀ {n : Nat} {s : Stmt} {r : CS}, compS n ct s = some r → DS X s (evS Γ r)
  | 0, _, _, h => by unfold compS at h; cases h
  | n + 1, s, r, h => by
    have S := comp_ok 40
    have hp : PassesOwn (model X.prog X.w) X.A X.env X.xe := by rw [C.xe]; exact PassesOwn.never
    unfold compS at h
    split at h
    · cases h; exact ds_pass
    · cases h; exact ds_break
    · cases h; exact ds_cont
    · cases h; exact ds_never
    · split at h
      · cases h
      · rename_i hs
        split at h
        · rename_i h1
          cases h
          exact ds_expr (S.E C h1) (swaps_no (Bool.eq_false_iff.mpr hs))
        · cases h
    · cases h; exact ds_retN
    · split at h
      · rename_i h1
        cases h
        exact ds_ret (S.E C h1)
      · cases h
    · split at h
      · rename_i h1 h2 h3
        cases h
        exact ds_if (S.B C h1) (compSs_ok C h2) (compSs_ok C h3)
      · cases h
    · split at h
      · rename_i h1 h2
        cases h
        exact ds_while hp (S.B C h1) (compSs_ok C h2)
      · cases h
    · split at h
      · cases h
      · rename_i hs
        split at h
        · rename_i h1 h2 h3
          cases h
          exact ds_for hp C.calm (stepI_ok S C h1) (S.G C h2) (compSs_ok C h3) (folded_no (Bool.eq_false_iff.mpr hs))
        · cases h
    · exact stepAsg_ok C h
    · cases h
end
end
/-! ### defs -/
/-- the module: its defs as data, its names -/
structure ModOk (P : Program) (w : World) (K : PySem.W.Frag) (mg : Str → Option Value) (base : Heap) (blts : List Str) (gcd : Bool) (G : Str → Option D) : Prop where
  g : ∀ y d, G y = some d → Glo K mg y d
  blt : ∀ y, y ∈ blts → mg y = none
  gcd : gcd = true → mg "gcd" = some (.builtin "math.gcd")
/-- the promises up to a level -/
structure GamOk (P : Program) (w : World) (K : PySem.W.Frag) (mg : Str → Option Value) (base : Heap) (k : Nat) (Γ : Gam) : Prop where
  f : ∀ y n sp, Γ.f y = some (n, sp) → FnD P w K mg base k y n sp
  fk : ∀ y ks n perm sp, Γ.fk y ks = some (n, perm, sp) → FnK P w K mg base k y n ks perm sp
section
variable {P : Program} {w : World} {K : PySem.W.Frag} {mg : Str → Option Value} {base : Heap}
theorem GamOk.mono {j k : Nat} {Γ : Gam} (h : GamOk P w K mg base j Γ) (hjk : j ≤ k) : GamOk P w K mg base k Γ := ⟨fun y n sp e => (h.f y n sp e).mono hjk, fun y ks n perm sp e => (h.fk y ks n perm sp e).mono hjk⟩
/-- THE RULE for a def: its body's tree compiled, its reading, its promise -/
theorem fn_def {x : Str} {params : Arguments} {body : List Stmt} {scope : Scope} {f : Addr} {fd : FuncData} {N ps owns blts : List Str} {gcd retO : Bool} {k m : Nat} {sp : DSp} {Γ : Gam} {r : CS} (F : FunD K x x params body scope [] [] f fd) (S : FnScope N ps scope)
    (M : ModOk P w K mg base blts gcd Γ.g) (GO : GamOk P w K mg base k Γ) (hc : compSs m ⟨N, scope.names, none, owns, retO, blts, gcd⟩ body = some r)
    (ht : ∀ ds St Qd, ds.length = ps.length → sp ds St Qd → evS Γ r (endsD Qd) (startD N.length ds) St) : FnOk P w K mg base CX0 (k + 1) f fd ps (liftSp K mg ps.length sp) := by
  refine F.ok S (fun vs H Q E h => liftSp_len h) (fun cdv A outer s H vs Q E hr h => ?_)
  obtain ⟨ds, w0, Qd, rfl, rs, r0, hl, hs, kk⟩ := h
  have C : CtOk ⟨N, scope.names, none, owns, retO, blts, gcd⟩ Γ k (cxOf CX0 P w K mg base N x scope f cdv A outer s w0.H E).nox :=
    { calm := rfl, room := hr, eN := rfl, nd := S.nd, kind := S.kind, en := rfl, xe := rfl, tg := fun _ _ => .inl rfl, f := GO.f, fk := GO.fk, g := M.g, blt := M.blt, gcd := M.gcd }
  obtain ⟨t', p, l⟩ := compSs_ok C hc
  refine ⟨t', PSs.nox p, ?_⟩
  refine l (L2.start N vs) (startD N.length ds) w0 (endsD Qd) _ rs (start_rl r0) (ht ds w0.S Qd hl hs) ⟨fun σ' σd' w' k1 rs1 rl1 q => ?_, fun v d w' k1 rs1 r1 q => ?_, fun _ _ _ _ _ _ q => q, fun _ _ _ _ _ _ q => q⟩
  · obtain ⟨d', S', vw, q⟩ := q
    obtain ⟨w2, e1, e2, k2, rs2, r2⟩ := view_ok rs1 .non vw
    have := kk .non d' w2 (k1.trans k2) rs2 r2 (by rw [e2]; exact q)
    rw [e1] at this
    exact this
  · obtain ⟨d', S', vw, q⟩ := q
    obtain ⟨w2, e1, e2, k2, rs2, r2⟩ := view_ok rs1 r1 vw
    have := kk v d' w2 (k1.trans k2) rs2 r2 (by rw [e2]; exact q)
    rw [e1] at this
    exact this
theorem fnD_of {x y : Str} {params : Arguments} {body : List Stmt} {scope : Scope} {f : Addr} {fd : FuncData} {N ps owns blts : List Str} {gcd retO : Bool} {k m n : Nat} {sp : DSp} {Γ : Gam} {r : CS} (F : FunD K x x params body scope [] [] f fd) (hm : mg y = some (.ref f)) (S : FnScope N ps scope) (hn : ps.length = n)
    (hb : ∀ (kV doc pm : Value) (an : Option Addr) (cdv ct : Value) (us : List Value), us.length = ps.length → bindArgs (PySem.W.fnOf x x params body scope .none kV doc pm an cdv ct) ⟨us, []⟩ = pure (ps.zip us))
    (M : ModOk P w K mg base blts gcd Γ.g) (GO : GamOk P w K mg base k Γ) (hc : compSs m ⟨N, scope.names, none, owns, retO, blts, gcd⟩ body = some r)
    (ht : ∀ ds St Qd, ds.length = ps.length → sp ds St Qd → evS Γ r (endsD Qd) (startD N.length ds) St) : FnD P w K mg base (k + 1) y n sp := by
  subst hn
  exact ⟨f, fd, ps, fn_def F S M GO hc ht, hm, F.kp, F.bindsN hb⟩
/-- a def by keywords -/
theorem fnK_of {x y : Str} {params : Arguments} {body : List Stmt} {scope : Scope} {f : Addr} {fd : FuncData} {N ps owns blts ks : List Str} {gcd retO : Bool} {k m n : Nat} {perm : List Nat} {sp : DSp} {Γ : Gam} {r : CS} (F : FunD K x x params body scope [] [] f fd) (hm : mg y = some (.ref f)) (S : FnScope N ps scope) (hn : ps.length = n) (hp : ps ≠ [])
    (hb : ∀ (kV doc pm : Value) (an : Option Addr) (cdv ct : Value) (ws : List Value), ws.length = ks.length → bindArgs (PySem.W.fnOf x x params body scope .none kV doc pm an cdv ct) ⟨[], ks.zip ws⟩ = pure (ps.zip (pick perm ws)))
    (M : ModOk P w K mg base blts gcd Γ.g) (GO : GamOk P w K mg base k Γ) (hc : compSs m ⟨N, scope.names, none, owns, retO, blts, gcd⟩ body = some r)
    (ht : ∀ ds St Qd, ds.length = ps.length → sp ds St Qd → evS Γ r (endsD Qd) (startD N.length ds) St) : FnK P w K mg base (k + 1) y n ks perm sp := by
  subst hn
  have hok := fn_def (w := w) F S M GO hc ht
  refine ⟨f, fd, ps, hok, hm, F.kp, kbinds_of hp fun ws hl => ?_⟩
  obtain ⟨oc, od, dV, kV, doc, pm, an, cdv, ct, osl, rfl, lk, hcd, hD, hK⟩ := F.ex
  rcases hD with ⟨_, rfl⟩ | ⟨e, _⟩
  · exact hb kV doc pm an cdv ct ws hl
  · exact absurd rfl e
end
end PyD

set_option Elab.async false
set_option linter.all false
set_option maxRecDepth 100000
set_option maxHeartbeats 1000000
/-! PyDL: tools for readings. -/
namespace PyD
open PySem PySem.Spec PyProof.Rows L2
/-- x's size -/
def B (n : Nat) (x : Int) : Prop := x.natAbs < 2 ^ n
theorem B.mono {n m : Nat} {x : Int} (h : B n x) (hm : n ≤ m) : B m x := Nat.lt_of_lt_of_le h (Nat.pow_le_pow_right (by decide) hm)
theorem B.mul {n m : Nat} {x y : Int} (h : B n x) (h' : B m y) : B (n + m) (x * y) := by
  unfold B at *
  rw [Int.natAbs_mul, Nat.pow_add]
  exact Nat.mul_lt_mul'' h h'
theorem B.add {n : Nat} {x y : Int} (h : B n x) (h' : B n y) : B (n + 1) (x + y) := by
  unfold B at *
  rw [Nat.pow_succ]
  omega
theorem B.sub {n : Nat} {x y : Int} (h : B n x) (h' : B n y) : B (n + 1) (x - y) := by
  unfold B at *
  rw [Nat.pow_succ]
  omega
theorem B.neg {n : Nat} {x : Int} (h : B n x) : B n (-x) := by
  unfold B at *
  omega
theorem B.log {n : Nat} {x : Int} (h : B n x) : x.natAbs.log2 ≤ n := by
  by_cases h0 : x.natAbs = 0
  · rw [h0]; simp
  · exact Nat.le_of_lt ((Nat.log2_lt h0).mpr h)
theorem B.mulW {n m : Nat} {x y : Int} (h : B n x) (h' : B m y) (hs : n + m < 1000000 := by omega) : CMulW x y := by
  unfold CMulW
  have := h.log
  have := h'.log
  omega
theorem B.fd {n : Nat} {x : Int} (h : B n x) (h0 : x ≠ 0) (hs : n < 9000 := by omega) : CFd x := ⟨h0, by have := h.log; omega⟩
theorem tcl_of {Γ : Gam} {x : Str} {n : Nat} {sp : DSp} {t : AD} {σ : SD} {S : Sto} {Q : QD} (h : Γ.f x = some (n, sp)) (q : t σ S fun ds S1 => ds.length = n ∧ sp ds S1 Q) : tcl Γ x t σ S Q := by
  unfold tcl
  rw [h]
  exact q
theorem tclk_of {Γ : Gam} {x : Str} {ks : List Str} {n : Nat} {perm : List Nat} {sp : DSp} {t : AD} {σ : SD} {S : Sto} {Q : QD} (h : Γ.fk x ks = some (n, perm, sp)) (q : t σ S fun ds S1 => ds.length = ks.length ∧ (PyD.pick perm ds).length = n ∧ sp (PyD.pick perm ds) S1 Q) : tclk Γ x ks t σ S Q := by
  unfold tclk
  rw [h]
  exact q
theorem tglo_of {Γ : Gam} {x : Str} {d : D} {σ : SD} {S : Sto} {Q : QD} (h : Γ.g x = some d) (q : Q d S) : tglo Γ x σ S Q := by
  unfold tglo
  rw [h]
  exact q
/-! ### sizes -/
theorem sz_of {n : Nat} (h : n ≤ 1000000) : Sz n := by
  unfold Sz sizeLine
  omega
theorem lt_line {n : Nat} (h : n ≤ 1000000) : n < sizeLine := by
  unfold sizeLine
  omega
/-! ### tuples of ints -/
def ti (is : List Int) : D := .tup (is.map D.int)
def li (is : List Int) : D := .lst (is.map D.int)
theorem toPs_ints : ∀ is : List Int, toPs (is.map D.int) = some (is.map PyData.int)
  | [] => by rw [List.map_nil, toPs]; rfl
  | i :: is => by
    rw [List.map_cons, toPs, toPs_ints is, toP0]; rfl
theorem canLay_ints : ∀ is : List Int, PyData.canLayAll0 (is.map PyData.int) = true
  | [] => by rw [List.map_nil, PyData.canLayAll0]
  | i :: is => by rw [List.map_cons, PyData.canLayAll0, canLay_ints is, PyData.canLay0]; rfl
theorem depth_ints : ∀ is : List Int, PyData.depthAll (is.map PyData.int) = 0
  | [] => by rw [List.map_nil, PyData.depthAll]
  | i :: is => by rw [List.map_cons, PyData.depthAll, depth_ints is, PyData.depth]; rfl
theorem eqv_ints : ∀ is js : List Int, PyData.eqvAll (is.map PyData.int) (js.map PyData.int) = decide (is = js)
  | [], [] => by simp [PyData.eqvAll]
  | [], j :: js => by simp [PyData.eqvAll]
  | i :: is, [] => by simp [PyData.eqvAll]
  | i :: is, j :: js => by
    rw [List.map_cons, List.map_cons, PyData.eqvAll, eqv_ints is js, PyData.eqv]
    by_cases h : i = j <;> by_cases h2 : is = js <;> simp [h, h2]
theorem toP0_ti (is : List Int) : toP0 (ti is) = some (.tuple (is.map PyData.int)) := by
  unfold ti
  rw [toP0, toPs_ints]
theorem toP0_li (is : List Int) : toP0 (li is) = some (.list (is.map PyData.int)) := by
  unfold li
  rw [toP0, toPs_ints]
theorem toPs_tis : ∀ l : List (List Int), toPs (l.map ti) = some (l.map fun is => .tuple (is.map PyData.int))
  | [] => by rw [List.map_nil, toPs]; rfl
  | is :: l => by rw [List.map_cons, toPs, toPs_tis l, toP0_ti]; rfl
theorem canLay_tis : ∀ l : List (List Int), PyData.canLayAll0 (l.map fun is => .tuple (is.map PyData.int)) = true
  | [] => by rw [List.map_nil, PyData.canLayAll0]
  | is :: l => by rw [List.map_cons, PyData.canLayAll0, canLay_tis l, PyData.canLay0, canLay_ints]; rfl
theorem depth_tis : ∀ l : List (List Int), PyData.depthAll (l.map fun is => .tuple (is.map PyData.int)) ≤ 1
  | [] => by rw [List.map_nil, PyData.depthAll]; omega
  | is :: l => by
    rw [List.map_cons, PyData.depthAll, PyData.depth, depth_ints]
    have := depth_tis l
    omega
theorem shaped_ti (is : List Int) : SeqAt.shaped (.tuple (is.map PyData.int)) = true := by
  unfold SeqAt.shaped
  rw [PyData.canLay0, canLay_ints, PyData.depth, depth_ints]; rfl
theorem shaped_li (is : List Int) : SeqAt.shaped (.list (is.map PyData.int)) = true := by
  unfold SeqAt.shaped
  rw [PyData.canLay0, canLay_ints, PyData.depth, depth_ints]; rfl
theorem shaped_tis (l : List (List Int)) : SeqAt.shaped (.tuple (l.map fun is => .tuple (is.map PyData.int))) = true := by
  unfold SeqAt.shaped
  have := depth_tis l
  rw [PyData.canLay0, canLay_tis, PyData.depth, Bool.true_and]
  exact decide_eq_true (by omega)
theorem shaped_tisl (l : List (List Int)) : SeqAt.shaped (.list (l.map fun is => .tuple (is.map PyData.int))) = true := by
  unfold SeqAt.shaped
  have := depth_tis l
  rw [PyData.canLay0, canLay_tis, PyData.depth, Bool.true_and]
  exact decide_eq_true (by omega)
theorem any_tis (is : List Int) : ∀ l : List (List Int), ((l.map fun is => PyData.tuple (is.map PyData.int)).any fun z => PyData.eqv z (.tuple (is.map PyData.int))) = decide (is ∈ l)
  | [] => rfl
  | js :: l => by
    rw [List.map_cons, List.any_cons, any_tis is l, PyData.eqv, eqv_ints]
    by_cases h : js = is <;> by_cases h2 : is ∈ l <;> simp [h, h2, eq_comm]
    exact fun z => h z.symm
/-! ### readings of == and in -/
theorem eqD_int {S : Sto} {a b : Int} : eqD S (.int a) (.int b) = some (decide (a = b)) := by
  show (if SeqAt.shaped (.int a) && SeqAt.shaped (.int b) then some (PyData.eqv (.int a) (.int b)) else none) = _
  have h : ∀ i, SeqAt.shaped (.int i) = true := fun i => by unfold SeqAt.shaped; rw [PyData.canLay0, PyData.depth]; rfl
  rw [h, h, PyData.eqv]
  by_cases h : a = b <;> simp [h]
theorem eqD_bl {S : Sto} {a b : Bool} : eqD S (.bl a) (.bl b) = some (decide (a = b)) := by
  show (if SeqAt.shaped (.bool a) && SeqAt.shaped (.bool b) then some (PyData.eqv (.bool a) (.bool b)) else none) = _
  have h : ∀ i, SeqAt.shaped (.bool i) = true := fun i => by unfold SeqAt.shaped; rw [PyData.canLay0, PyData.depth]; rfl
  rw [h, h, PyData.eqv]
  cases a <;> cases b <;> rfl
theorem eqD_ti {S : Sto} {is js : List Int} : eqD S (ti is) (ti js) = some (decide (is = js)) := by
  have e : ∀ l, toP S (ti l) = some (.tuple (l.map PyData.int)) := fun l => toP0_ti l
  unfold eqD
  rw [e, e]
  show (if SeqAt.shaped (.tuple (is.map PyData.int)) && SeqAt.shaped (.tuple (js.map PyData.int)) then some (PyData.eqv (.tuple (is.map PyData.int)) (.tuple (js.map PyData.int))) else none) = _
  rw [shaped_ti, shaped_ti, PyData.eqv, eqv_ints]; rfl
theorem q_eq {S : Sto} {Q : QD} {x y : D} {b : Bool} (h : eqD S x y = some b) (q : Q (.bl b) S) : dEq false x y S Q := by
  unfold dEq
  rw [h]; exact q
theorem q_ne {S : Sto} {Q : QD} {x y : D} {b : Bool} (h : eqD S x y = some b) (q : Q (.bl (!b)) S) : dEq true x y S Q := by
  unfold dEq
  rw [h]; exact q
theorem inD_ti {S : Sto} {is : List Int} {l : List (List Int)} : inD S (ti is) (.tup (l.map ti)) = some (decide (is ∈ l)) := by
  have e : toP S (ti is) = some (.tuple (is.map PyData.int)) := toP0_ti is
  have e2 : toP S (.tup (l.map ti)) = some (.tuple (l.map fun is => .tuple (is.map PyData.int))) := by
    show toP0 (.tup (l.map ti)) = _
    rw [toP0, toPs_tis]
  unfold inD
  rw [e, e2]
  show (if SeqAt.shaped (.tuple (is.map PyData.int)) && SeqAt.shaped (.tuple (l.map fun is => .tuple (is.map PyData.int))) then some ((l.map fun is => PyData.tuple (is.map PyData.int)).any fun z => PyData.eqv z (.tuple (is.map PyData.int))) else none) = _
  rw [shaped_ti, shaped_tis, any_tis]; rfl
theorem inD_lst {S : Sto} {is : List Int} {l : List (List Int)} : inD S (ti is) (.lst (l.map ti)) = some (decide (is ∈ l)) := by
  have e : toP S (ti is) = some (.tuple (is.map PyData.int)) := toP0_ti is
  have e2 : toP S (.lst (l.map ti)) = some (.list (l.map fun is => .tuple (is.map PyData.int))) := by
    show toP0 (.lst (l.map ti)) = _
    rw [toP0, toPs_tis]
  unfold inD
  rw [e, e2]
  show (if SeqAt.shaped (.tuple (is.map PyData.int)) && SeqAt.shaped (.list (l.map fun is => .tuple (is.map PyData.int))) then some ((l.map fun is => PyData.tuple (is.map PyData.int)).any fun z => PyData.eqv z (.tuple (is.map PyData.int))) else none) = _
  rw [shaped_ti, shaped_tisl, any_tis]; rfl
theorem inD_ref {S : Sto} {a : Addr} {is : List Int} {l : List (List Int)} (h : S a = some (.ml (l.map ti))) : inD S (ti is) (.ref a) = some (decide (is ∈ l)) := by
  have e : toP S (ti is) = some (.tuple (is.map PyData.int)) := toP0_ti is
  have e2 : toP S (.ref a) = some (.list (l.map fun is => .tuple (is.map PyData.int))) := by
    simp only [toP, h, toPs_tis]
  unfold inD
  rw [e, e2]
  show (if SeqAt.shaped (.tuple (is.map PyData.int)) && SeqAt.shaped (.list (l.map fun is => .tuple (is.map PyData.int))) then some ((l.map fun is => PyData.tuple (is.map PyData.int)).any fun z => PyData.eqv z (.tuple (is.map PyData.int))) else none) = _
  rw [shaped_ti, shaped_tisl, any_tis]; rfl
theorem eqD_ref_li {S : Sto} {a : Addr} {is js : List Int} (h : S a = some (.ml (is.map D.int))) : eqD S (.ref a) (li js) = some (decide (is = js)) := by
  have e : toP S (.ref a) = some (.list (is.map PyData.int)) := by
    simp only [toP, h, toPs_ints]
  have e2 : toP S (li js) = some (.list (js.map PyData.int)) := toP0_li js
  unfold eqD
  rw [e, e2]
  show (if SeqAt.shaped (.list (is.map PyData.int)) && SeqAt.shaped (.list (js.map PyData.int)) then some (PyData.eqv (.list (is.map PyData.int)) (.list (js.map PyData.int))) else none) = _
  rw [shaped_li, shaped_li, PyData.eqv, eqv_ints]; rfl
theorem q_in {S : Sto} {Q : QD} {x y : D} {b : Bool} (h : inD S x y = some b) (q : Q (.bl b) S) (hy : ∀ z, y ≠ .str z) : dIn false x y S Q := by
  unfold dIn
  cases y <;> first | exact absurd rfl (hy _) | (simp only; rw [h]; exact q)
theorem q_notin {S : Sto} {Q : QD} {x y : D} {b : Bool} (h : inD S x y = some b) (q : Q (.bl (!b)) S) (hy : ∀ z, y ≠ .str z) : dIn true x y S Q := by
  unfold dIn
  cases y <;> first | exact absurd rfl (hy _) | (simp only; rw [h]; exact q)
/-! ### branches -/
theorem ite_b {b : Bool} {A C : Prop} (h1 : b = true → A) (h2 : b = false → C) : if b = true then A else C := by
  cases b with
  | true => rw [if_pos rfl]; exact h1 rfl
  | false => rw [if_neg Bool.false_ne_true]; exact h2 rfl
theorem ite_d {p : Prop} [Decidable p] {A C : Prop} (h1 : p → A) (h2 : ¬p → C) : if decide p = true then A else C :=
  ite_b (fun h => h1 (of_decide_eq_true h)) fun h => h2 (of_decide_eq_false h)
theorem if_t {A C : Prop} (h : A) : if true = true then A else C := by rw [if_pos rfl]; exact h
theorem if_f {A C : Prop} (h : C) : if false = true then A else C := by rw [if_neg Bool.false_ne_true]; exact h
/-! ### loops -/
theorem tc_nil {g : GD} {tt : BD} {te : TD} {chk : Sto → Prop} {σ : SD} {Q : List D → Sto → Prop} {acc : List D} {S : Sto} (hc : chk S) (q : Q acc S) : tcomp g tt te chk σ Q [] acc S := by rw [tcomp_nil]; exact ⟨hc, q⟩
theorem tc_cons {g : GD} {tt : BD} {te : TD} {chk : Sto → Prop} {σ : SD} {Q : List D → Sto → Prop} {x : D} {r acc : List D} {S : Sto} (hc : chk S)
    (q : g x σ S fun σ2 S2 => tt σ2 S2 fun b S3 => if b = true then te σ2 S3 fun y S4 => acc.length < sizeLine ∧ tcomp g tt te chk σ Q r (acc ++ [y]) S4 else tcomp g tt te chk σ Q r acc S3) : tcomp g tt te chk σ Q (x :: r) acc S := by rw [tcomp_cons]; exact ⟨hc, q⟩
theorem sl_nil {g : GD} {tb : SSD} {chk : Sto → Prop} {D : EndsD} {σ : SD} {S : Sto} (hc : chk S) (q : D.nx σ S) : sloop g tb chk D [] σ S := by rw [sloop_nil]; exact ⟨hc, q⟩
theorem sl_cons {g : GD} {tb : SSD} {chk : Sto → Prop} {D : EndsD} {x : PyD.D} {r : List PyD.D} {σ : SD} {S : Sto} (hc : chk S) (q : g x σ S fun σ1 S1 => tb { D with nx := sloop g tb chk D r, ct := sloop g tb chk D r, bk := D.nx } σ1 S1) : sloop g tb chk D (x :: r) σ S := by rw [sloop_cons]; exact ⟨hc, q⟩
theorem sloop_inv {g : GD} {tb : SSD} {chk : Sto → Prop} {D : EndsD} (Inv : List PyD.D → SD → Sto → Prop)
    (step : ∀ x r σ S (N : SD → Sto → Prop), Inv (x :: r) σ S → (∀ σ S, Inv r σ S → N σ S) → chk S ∧ g x σ S fun σ1 S1 => tb { D with nx := N, ct := N, bk := D.nx } σ1 S1)
    (done : ∀ σ S, Inv [] σ S → chk S ∧ D.nx σ S) : ∀ xs σ S, Inv xs σ S → sloop g tb chk D xs σ S
  | [], σ, S, h => by rw [sloop_nil]; exact done σ S h
  | x :: r, σ, S, h => by rw [sloop_cons]; exact step x r σ S _ h (sloop_inv Inv step done r)
theorem tcomp_inv {g : GD} {tt : BD} {te : TD} {chk : Sto → Prop} {σ : SD} {Q : List D → Sto → Prop} (Inv : List D → List D → Sto → Prop)
    (step : ∀ x r acc S (N1 : D → Sto → Prop) (N0 : Sto → Prop), Inv (x :: r) acc S → (∀ y S, Inv r (acc ++ [y]) S → N1 y S) → (∀ S, Inv r acc S → N0 S) → chk S ∧ acc.length < sizeLine ∧ g x σ S fun σ2 S2 => tt σ2 S2 fun b S3 => if b = true then te σ2 S3 N1 else N0 S3)
    (done : ∀ acc S, Inv [] acc S → chk S ∧ Q acc S) : ∀ xs acc S, Inv xs acc S → tcomp g tt te chk σ Q xs acc S
  | [], acc, S, h => by rw [tcomp_nil]; exact done acc S h
  | x :: r, acc, S, h => by
    rw [tcomp_cons]
    have ih := tcomp_inv Inv step done r
    have hl := (step x r acc S (fun _ _ => True) (fun _ => True) h (fun _ _ _ => trivial) fun _ _ => trivial).2.1
    obtain ⟨h1, _, h2⟩ := step x r acc S (fun y S4 => acc.length < sizeLine ∧ tcomp g tt te chk σ Q r (acc ++ [y]) S4) (fun S3 => tcomp g tt te chk σ Q r acc S3) h (fun y S h => ⟨hl, ih _ _ h⟩) fun S h => ih _ _ h
    exact ⟨h1, h2⟩
/-- each element by itself, the store as it is -/
theorem tcomp_map {g : GD} {te : TD} {chk : Sto → Prop} {σ : SD} {S : Sto} {Q : List D → Sto → Prop} (f : D → D) (hs : chk S) : ∀ (xs acc : List D), acc.length + xs.length ≤ 1000000 →
    (∀ x ∈ xs, ∀ N : D → Sto → Prop, N (f x) S → g x σ S fun σ2 S2 => te σ2 S2 N) → Q (acc ++ xs.map f) S → tcomp g tyes te chk σ Q xs acc S
  | [], acc, _, _, q => by rw [tcomp_nil]; exact ⟨hs, by simpa using q⟩
  | x :: r, acc, hl, h, q => by
    rw [tcomp_cons]
    refine ⟨hs, ?_⟩
    have hl' : acc.length + (r.length + 1) ≤ 1000000 := hl
    exact h x (List.mem_cons_self ..) (fun y S4 => acc.length < sizeLine ∧ tcomp g tyes te chk σ Q r (acc ++ [y]) S4)
      ⟨lt_line (by omega), tcomp_map f hs r _ (by simp; omega) (fun y hy => h y (List.mem_cons_of_mem _ hy)) (by simpa using q)⟩
theorem tcomp_filter {g : GD} {tt : BD} {te : TD} {chk : Sto → Prop} {σ : SD} {S : Sto} {Q : List D → Sto → Prop} (p : D → Bool) (f : D → D) (hs : chk S) : ∀ (xs acc : List D), acc.length + xs.length ≤ 1000000 →
    (∀ x ∈ xs, ∀ (N1 : D → Sto → Prop) (N0 : Sto → Prop), (p x = true → N1 (f x) S) → (p x = false → N0 S) → g x σ S fun σ2 S2 => tt σ2 S2 fun b S3 => if b = true then te σ2 S3 N1 else N0 S3) → Q (acc ++ (xs.filter p).map f) S → tcomp g tt te chk σ Q xs acc S
  | [], acc, _, _, q => by rw [tcomp_nil]; exact ⟨hs, by simpa using q⟩
  | x :: r, acc, hl, h, q => by
    rw [tcomp_cons]
    refine ⟨hs, ?_⟩
    have hl' : acc.length + (r.length + 1) ≤ 1000000 := hl
    have hr : ∀ y ∈ r, ∀ (N1 : D → Sto → Prop) (N0 : Sto → Prop), (p y = true → N1 (f y) S) → (p y = false → N0 S) → g y σ S fun σ2 S2 => tt σ2 S2 fun b S3 => if b = true then te σ2 S3 N1 else N0 S3 := fun y hy => h y (List.mem_cons_of_mem _ hy)
    refine h x (List.mem_cons_self ..) (fun y S4 => acc.length < sizeLine ∧ tcomp g tt te chk σ Q r (acc ++ [y]) S4) _ (fun hp => ?_) fun hp => ?_
    · exact ⟨lt_line (by omega), tcomp_filter p f hs r _ (by simp; omega) hr (by simpa [List.filter_cons, hp] using q)⟩
    · exact tcomp_filter p f hs r _ (by omega) hr (by simpa [List.filter_cons, hp] using q)
/-- all of truths -/
theorem q_all {S : Sto} {Q : QD} {bs : List Bool} (q : Q (.bl (bs.all id)) S) : dAnyX (fun ks => ks.all id) [.lst (bs.map D.bl)] S Q := by
  unfold dAnyX
  show (match trusD (bs.map D.bl) with | some ks => Q (.bl (ks.all id)) S | none => False)
  rw [trusD_bl]; exact q
theorem q_any {S : Sto} {Q : QD} {bs : List Bool} (q : Q (.bl (bs.any id)) S) : dAnyX (fun ks => ks.any id) [.lst (bs.map D.bl)] S Q := by
  unfold dAnyX
  show (match trusD (bs.map D.bl) with | some ks => Q (.bl (ks.any id)) S | none => False)
  rw [trusD_bl]; exact q
theorem trusD_T : ∀ {xs : List D}, (∀ x ∈ xs, x = D.bl true) → trusD xs = some (xs.map fun _ => true)
  | [], _ => rfl
  | x :: xs, h => by
    rw [trusD, h x (List.mem_cons_self ..), trusD_T fun y hy => h y (List.mem_cons_of_mem _ hy)]; rfl
theorem q_allT {S : Sto} {Q : QD} {xs : List D} (h : ∀ x ∈ xs, x = D.bl true) (q : Q (.bl true) S) : dAnyX (fun ks => ks.all id) [.lst xs] S Q := by
  unfold dAnyX
  show (match trusD xs with | some ks => Q (.bl (ks.all id)) S | none => False)
  rw [trusD_T h]
  have e : (xs.map fun _ => true).all id = true := by simp
  show Q (.bl ((xs.map fun _ => true).all id)) S
  rw [e]; exact q
theorem allT_map {l : List D} : ∀ x ∈ ([] : List D) ++ l.map (fun _ => D.bl true), x = D.bl true := fun x hx => by
  rw [List.nil_append] at hx
  obtain ⟨_, _, rfl⟩ := List.mem_map.mp hx
  rfl
theorem crng {i : Int} (h1 : -1000000 ≤ i) (h2 : i ≤ 1000000) : CRng i := by
  unfold CRng
  omega
theorem ups_comm {S : Sto} {a b : Addr} {m n : MO} (h : a ≠ b) : ups (ups S a m) b n = ups (ups S b n) a m := by
  funext c
  unfold ups
  by_cases h1 : c = a <;> by_cases h2 : c = b <;> simp [h1, h2]
  · exact absurd (h1.symm.trans h2) h
  all_goals intro z; first | exact absurd z h | exact absurd z.symm h | skip
end PyD

set_option Elab.async false
set_option linter.all false
set_option maxRecDepth 100000
set_option maxHeartbeats 2000000
/-! CnM: triples, tables, conics over whole numbers, in plain Lean. -/
namespace PyD
@[ext] structure V3 where
  x : Int
  y : Int
  z : Int
def o3 : V3 := ⟨0, 0, 0⟩
def sm (k : Int) (v : V3) : V3 := ⟨k * v.x, k * v.y, k * v.z⟩
def ad (u v : V3) : V3 := ⟨u.x + v.x, u.y + v.y, u.z + v.z⟩
def cross (a b : V3) : V3 := ⟨a.y * b.z - a.z * b.y, a.z * b.x - a.x * b.z, a.x * b.y - a.y * b.x⟩
def dot (a b : V3) : Int := a.x * b.x + a.y * b.y + a.z * b.z
def blk (a b c : V3) : Int := dot a (cross b c)
structure M3 where
  a : V3
  b : V3
  c : V3
def det (M : M3) : Int := blk M.a M.b M.c
def mv (M : M3) (v : V3) : V3 := ⟨dot M.a v, dot M.b v, dot M.c v⟩
def tr (M : M3) : M3 := ⟨⟨M.a.x, M.b.x, M.c.x⟩, ⟨M.a.y, M.b.y, M.c.y⟩, ⟨M.a.z, M.b.z, M.c.z⟩⟩
def adj (M : M3) : M3 := tr ⟨cross M.b M.c, cross M.c M.a, cross M.a M.b⟩
def mm (A B : M3) : M3 := ⟨⟨dot A.a (tr B).a, dot A.a (tr B).b, dot A.a (tr B).c⟩, ⟨dot A.b (tr B).a, dot A.b (tr B).b, dot A.b (tr B).c⟩, ⟨dot A.c (tr B).a, dot A.c (tr B).b, dot A.c (tr B).c⟩⟩
@[ext] structure V6 where
  a : Int
  b : Int
  c : Int
  d : Int
  e : Int
  f : Int
def tb (k : V6) : M3 := ⟨⟨2 * k.a, k.f, k.e⟩, ⟨k.f, 2 * k.b, k.d⟩, ⟨k.e, k.d, 2 * k.c⟩⟩
def qv (k : V6) (p : V3) : Int := k.a * (p.x * p.x) + k.b * (p.y * p.y) + k.c * (p.z * p.z) + k.d * (p.y * p.z) + k.e * (p.x * p.z) + k.f * (p.x * p.y)
def bf (k : V6) (p q : V3) : Int := dot p (mv (tb k) q)
/-- one but for multiples -/
def Pr (u v : V3) : Prop := ∃ k m : Int, k ≠ 0 ∧ m ≠ 0 ∧ sm k u = sm m v
theorem ne3 {v : V3} : v ≠ o3 ↔ v.x ≠ 0 ∨ v.y ≠ 0 ∨ v.z ≠ 0 := by
  constructor
  · intro h
    by_cases h1 : v.x = 0
    · by_cases h2 : v.y = 0
      · by_cases h3 : v.z = 0
        · exact absurd (V3.ext h1 h2 h3) h
        · exact .inr (.inr h3)
      · exact .inr (.inl h2)
    · exact .inl h1
  · rintro h rfl
    rcases h with h | h | h <;> exact h rfl
theorem sm_eq {k : Int} {u v : V3} (h : u.x = k * v.x ∧ u.y = k * v.y ∧ u.z = k * v.z) : u = sm k v := V3.ext h.1 h.2.1 h.2.2
theorem sm_x {k : Int} {u : V3} : (sm k u).x = k * u.x := rfl
theorem sm_y {k : Int} {u : V3} : (sm k u).y = k * u.y := rfl
theorem sm_z {k : Int} {u : V3} : (sm k u).z = k * u.z := rfl
theorem sm_sm {k m : Int} {u : V3} : sm k (sm m u) = sm (k * m) u := by ext <;> simp only [sm] <;> grind
theorem sm_one {u : V3} : sm 1 u = u := by ext <;> simp only [sm] <;> grind
theorem sm_zero {u : V3} : sm 0 u = o3 := by ext <;> simp only [sm, o3] <;> grind
theorem sm_ne {k : Int} {u : V3} (hk : k ≠ 0) (hu : u ≠ o3) : sm k u ≠ o3 := by
  rw [ne3] at hu ⊢
  rcases hu with h | h | h
  · exact .inl (Int.mul_ne_zero hk h)
  · exact .inr (.inl (Int.mul_ne_zero hk h))
  · exact .inr (.inr (Int.mul_ne_zero hk h))
theorem sm_eq0 {k : Int} {u : V3} (h : sm k u = o3) (hu : u ≠ o3) : k = 0 := Decidable.byContradiction fun z => sm_ne z hu h
theorem sm_inj {k : Int} {u v : V3} (hk : k ≠ 0) (h : sm k u = sm k v) : u = v := by
  have h1 := congrArg V3.x h
  have h2 := congrArg V3.y h
  have h3 := congrArg V3.z h
  exact V3.ext (Int.eq_of_mul_eq_mul_left hk h1) (Int.eq_of_mul_eq_mul_left hk h2) (Int.eq_of_mul_eq_mul_left hk h3)
theorem Pr.refl (u : V3) : Pr u u := ⟨1, 1, by decide, by decide, rfl⟩
theorem Pr.symm {u v : V3} (h : Pr u v) : Pr v u := let ⟨k, m, a, b, e⟩ := h; ⟨m, k, b, a, e.symm⟩
theorem Pr.trans {u v w : V3} (h : Pr u v) (g : Pr v w) : Pr u w := by
  obtain ⟨k, m, a, b, e⟩ := h
  obtain ⟨k', m', a', b', e'⟩ := g
  refine ⟨k' * k, m * m', Int.mul_ne_zero a' a, Int.mul_ne_zero b b', ?_⟩
  rw [← sm_sm, e, sm_sm, Int.mul_comm, ← sm_sm, e', sm_sm]
theorem Pr.of_sm {k : Int} {u : V3} (h : k ≠ 0) : Pr (sm k u) u := ⟨1, k, by decide, h, sm_one⟩
theorem Pr.ne {u v : V3} (h : Pr u v) (hu : u ≠ o3) : v ≠ o3 := by
  rintro rfl
  obtain ⟨k, m, a, b, e⟩ := h
  refine sm_ne a hu ?_
  rw [e]
  ext <;> simp [sm, o3]
theorem cross_sm {k m : Int} {u v : V3} : cross (sm k u) (sm m v) = sm (k * m) (cross u v) := by
  ext <;> simp only [sm, cross] <;> grind
theorem dot_sm {k m : Int} {u v : V3} : dot (sm k u) (sm m v) = k * m * dot u v := by
  simp only [sm, dot]; grind
theorem dot_comm {u v : V3} : dot u v = dot v u := by simp only [dot]; grind
theorem cross_self {u : V3} : cross u u = o3 := by ext <;> simp only [cross, o3] <;> grind
theorem dot_cross1 {u v : V3} : dot u (cross u v) = 0 := by simp only [dot, cross]; grind
theorem dot_cross2 {u v : V3} : dot v (cross u v) = 0 := by simp only [dot, cross]; grind
/-- parallel triples -/
theorem par {u v : V3} (h : cross u v = o3) (hv : v ≠ o3) : ∃ k m : Int, m ≠ 0 ∧ sm m u = sm k v := by
  have h1 := congrArg V3.x h
  have h2 := congrArg V3.y h
  have h3 := congrArg V3.z h
  simp only [cross, o3] at h1 h2 h3
  rw [ne3] at hv
  rcases hv with g | g | g
  · exact ⟨u.x, v.x, g, by ext <;> simp only [sm] <;> grind⟩
  · exact ⟨u.y, v.y, g, by ext <;> simp only [sm] <;> grind⟩
  · exact ⟨u.z, v.z, g, by ext <;> simp only [sm] <;> grind⟩
theorem par_pr {u v : V3} (h : cross u v = o3) (hu : u ≠ o3) (hv : v ≠ o3) : Pr u v := by
  obtain ⟨k, m, hm, e⟩ := par h hv
  refine ⟨m, k, hm, fun z => ?_, e⟩
  rw [z, sm_zero] at e
  exact sm_ne hm hu e
theorem Pr.cross {u v : V3} (h : Pr u v) : cross u v = o3 := by
  obtain ⟨k, m, a, b, e⟩ := h
  have h1 := congrArg V3.x e
  have h2 := congrArg V3.y e
  have h3 := congrArg V3.z e
  simp only [sm] at h1 h2 h3
  have e1 : ∀ {p q : Int}, k * p = k * q → p = q := fun h => Int.eq_of_mul_eq_mul_left a h
  ext <;> simp only [PyD.cross, o3] <;> refine e1 ?_ <;> grind
theorem Pr.dot0 {u v w : V3} (h : Pr u v) (hw : dot u w = 0) : dot v w = 0 := by
  obtain ⟨k, m, a, b, e⟩ := h
  have h1 : m * dot v w = k * dot u w := by
    have := congrArg (fun z => dot z w) e
    simp only [sm, dot] at this ⊢
    grind
  rw [hw, Int.mul_zero] at h1
  rcases Int.mul_eq_zero.mp h1 with z | z
  · exact absurd z b
  · exact z
/-! tables -/
theorem mv_sm {M : M3} {k : Int} {v : V3} : mv M (sm k v) = sm k (mv M v) := by ext <;> simp only [mv, sm, dot] <;> grind
theorem mv_ad {M : M3} {u v : V3} : mv M (ad u v) = ad (mv M u) (mv M v) := by ext <;> simp only [mv, ad, dot] <;> grind
theorem mv_o {M : M3} : mv M o3 = o3 := by ext <;> simp [mv, o3, dot]
theorem mv_mm {A B : M3} {v : V3} : mv (mm A B) v = mv A (mv B v) := by ext <;> simp only [mv, mm, tr, dot] <;> grind
theorem adj_mv {M : M3} {v : V3} : mv (adj M) (mv M v) = sm (det M) v := by ext <;> simp only [mv, adj, tr, det, blk, cross, sm, dot] <;> grind
theorem mv_adj {M : M3} {v : V3} : mv M (mv (adj M) v) = sm (det M) v := by ext <;> simp only [mv, adj, tr, det, blk, cross, sm, dot] <;> grind
theorem dot_mv {M : M3} {u v : V3} : dot u (mv M v) = dot (mv (tr M) u) v := by simp only [mv, tr, dot]; grind
theorem cross_mv {M : M3} {u v : V3} : cross (mv M u) (mv M v) = mv (tr (adj M)) (cross u v) := by ext <;> simp only [mv, adj, tr, cross, dot] <;> grind
theorem det_adj {M : M3} : det (adj M) = det M * det M := by simp only [adj, tr, det, blk, cross, dot]; grind
theorem det_tr {M : M3} : det (tr M) = det M := by simp only [tr, det, blk, cross, dot]; grind
theorem det_mm {A B : M3} : det (mm A B) = det A * det B := by
  obtain ⟨⟨a1, a2, a3⟩, ⟨b1, b2, b3⟩, ⟨c1, c2, c3⟩⟩ := A
  obtain ⟨⟨d1, d2, d3⟩, ⟨e1, e2, e3⟩, ⟨f1, f2, f3⟩⟩ := B
  simp only [mm, tr, det, blk, cross, dot]
  grind
theorem adj_mm {A B : M3} {v : V3} : mv (adj (mm A B)) v = mv (adj B) (mv (adj A) v) := by
  obtain ⟨⟨a1, a2, a3⟩, ⟨b1, b2, b3⟩, ⟨c1, c2, c3⟩⟩ := A
  obtain ⟨⟨d1, d2, d3⟩, ⟨e1, e2, e3⟩, ⟨f1, f2, f3⟩⟩ := B
  ext <;> simp only [mv, mm, adj, tr, cross, dot] <;> grind
theorem mv_ne {M : M3} {v : V3} (hM : det M ≠ 0) (hv : v ≠ o3) : mv M v ≠ o3 := fun z => by
  have := adj_mv (M := M) (v := v)
  rw [z, mv_o] at this
  exact sm_ne hM hv this.symm
theorem Pr.mv {M : M3} {u v : V3} (h : Pr u v) : Pr (mv M u) (mv M v) := by
  obtain ⟨k, m, a, b, e⟩ := h
  exact ⟨k, m, a, b, by rw [← mv_sm, ← mv_sm, e]⟩
theorem Pr.of_mv {M : M3} {u v : V3} (hM : det M ≠ 0) (h : Pr (PyD.mv M u) (PyD.mv M v)) : Pr u v := by
  have := h.mv (M := adj M)
  rw [adj_mv, adj_mv] at this
  exact (Pr.of_sm hM).symm.trans (this.trans (Pr.of_sm hM))
/-! conics -/
theorem bf_self {k : V6} {p : V3} : bf k p p = 2 * qv k p := by simp only [bf, qv, tb, mv, dot]; grind
theorem bf_comm {k : V6} {p q : V3} : bf k p q = bf k q p := by simp only [bf, tb, mv, dot]; grind
theorem qv_sm {k : V6} {m : Int} {p : V3} : qv k (sm m p) = m * m * qv k p := by simp only [qv, sm]; grind
theorem bf_sm {k : V6} {m n : Int} {p q : V3} : bf k (sm m p) (sm n q) = m * n * bf k p q := by simp only [bf, tb, mv, dot, sm]; grind
theorem qv_comb {k : V6} {m n : Int} {p q : V3} : qv k (ad (sm m p) (sm n q)) = m * m * qv k p + m * n * bf k p q + n * n * qv k q := by
  simp only [bf, qv, tb, mv, dot, sm, ad]; grind
theorem qv_add {k : V6} {p q : V3} : qv k (ad p q) - qv k p - qv k q = bf k p q := by
  simp only [bf, qv, tb, mv, dot, ad]; grind
theorem Pr.qv0 {k : V6} {p q : V3} (h : Pr p q) (hp : qv k p = 0) : qv k q = 0 := by
  obtain ⟨a, b, ha, hb, e⟩ := h
  have := congrArg (qv k) e
  rw [qv_sm, qv_sm, hp, Int.mul_zero] at this
  rcases Int.mul_eq_zero.mp this.symm with z | z
  · rcases Int.mul_eq_zero.mp z with z | z <;> exact absurd z hb
  · exact z
/-- what is no part of a full conic: a whole line -/
theorem no_line {k : V6} (hk : det (tb k) ≠ 0) {p o : V3} (h1 : qv k p = 0) (h2 : qv k o = 0) (h3 : bf k p o = 0) : cross p o = o3 := by
  refine Classical.byContradiction fun hn => hk ?_
  have e : det (mm (mm ⟨p, o, cross p o⟩ (tb k)) (tr ⟨p, o, cross p o⟩)) = 0 := by
    have g1 : dot p (mv (tb k) p) = 0 := by have := bf_self (k := k) (p := p); rw [h1] at this; simpa [bf] using this
    have g2 : dot o (mv (tb k) o) = 0 := by have := bf_self (k := k) (p := o); rw [h2] at this; simpa [bf] using this
    have g3 : dot p (mv (tb k) o) = 0 := h3
    have g4 : dot o (mv (tb k) p) = 0 := by have := bf_comm (k := k) (p := o) (q := p); rw [h3] at this; exact this
    generalize cross p o = w
    have row : ∀ x y : V3, dot ⟨dot x (tr (tb k)).a, dot x (tr (tb k)).b, dot x (tr (tb k)).c⟩ y = dot x (mv (tb k) y) := fun x y => by
      simp only [tb, tr, mv, dot]; grind
    show blk ⟨dot ⟨dot p (tr (tb k)).a, dot p (tr (tb k)).b, dot p (tr (tb k)).c⟩ p, dot ⟨dot p (tr (tb k)).a, dot p (tr (tb k)).b, dot p (tr (tb k)).c⟩ o, dot ⟨dot p (tr (tb k)).a, dot p (tr (tb k)).b, dot p (tr (tb k)).c⟩ w⟩
      ⟨dot ⟨dot o (tr (tb k)).a, dot o (tr (tb k)).b, dot o (tr (tb k)).c⟩ p, dot ⟨dot o (tr (tb k)).a, dot o (tr (tb k)).b, dot o (tr (tb k)).c⟩ o, dot ⟨dot o (tr (tb k)).a, dot o (tr (tb k)).b, dot o (tr (tb k)).c⟩ w⟩
      ⟨dot ⟨dot w (tr (tb k)).a, dot w (tr (tb k)).b, dot w (tr (tb k)).c⟩ p, dot ⟨dot w (tr (tb k)).a, dot w (tr (tb k)).b, dot w (tr (tb k)).c⟩ o, dot ⟨dot w (tr (tb k)).a, dot w (tr (tb k)).b, dot w (tr (tb k)).c⟩ w⟩ = 0
    simp only [row]
    rw [g1, g2, g3, g4]
    simp only [blk, dot, cross]
    grind
  rw [det_mm, det_mm, det_tr] at e
  have d : det ⟨p, o, cross p o⟩ = dot (cross p o) (cross p o) := by
    simp only [det, blk, cross, dot]; grind
  have d0 : det ⟨p, o, cross p o⟩ ≠ 0 := by
    rw [d]
    intro z
    have : ∀ x y w : Int, x * x + y * y + w * w = 0 → x = 0 ∧ y = 0 ∧ w = 0 := fun x y w h => by
      have h1 : 0 ≤ x * x := by rcases Int.le_total 0 x with g | g; exact Int.mul_nonneg g g; exact Int.mul_nonneg_of_nonpos_of_nonpos g g
      have h2 : 0 ≤ y * y := by rcases Int.le_total 0 y with g | g; exact Int.mul_nonneg g g; exact Int.mul_nonneg_of_nonpos_of_nonpos g g
      have h3 : 0 ≤ w * w := by rcases Int.le_total 0 w with g | g; exact Int.mul_nonneg g g; exact Int.mul_nonneg_of_nonpos_of_nonpos g g
      have e1 : x * x = 0 := by omega
      have e2 : y * y = 0 := by omega
      have e3 : w * w = 0 := by omega
      exact ⟨(Int.mul_eq_zero.mp e1).elim id id, (Int.mul_eq_zero.mp e2).elim id id, (Int.mul_eq_zero.mp e3).elim id id⟩
    obtain ⟨a, b, c⟩ := this _ _ _ z
    exact hn (V3.ext a b c)
  rcases Int.mul_eq_zero.mp e with z | z
  · rcases Int.mul_eq_zero.mp z with z | z
    · exact absurd z d0
    · exact z
  · exact absurd z d0
/-! the further point of a line -/
def ax (i : Nat) : V3 := ⟨if i = 0 then 1 else 0, if i = 1 then 1 else 0, if i = 2 then 1 else 0⟩
def cd (i : Nat) (p : V3) : Int := if i = 0 then p.x else if i = 1 then p.y else p.z
/-- the first place at which a triple is not 0 -/
def fl (p : V3) : Nat := if p.x ≠ 0 then 0 else if p.y ≠ 0 then 1 else 2
theorem fl_le (p : V3) : fl p = 0 ∨ fl p = 1 ∨ fl p = 2 := by
  unfold fl
  split
  · exact .inl rfl
  · split
    · exact .inr (.inl rfl)
    · exact .inr (.inr rfl)
theorem cd_fl {p : V3} (h : p ≠ o3) : cd (fl p) p ≠ 0 := by
  rw [ne3] at h
  unfold fl
  by_cases h1 : p.x = 0
  · by_cases h2 : p.y = 0
    · rw [if_neg (fun z => z h1), if_neg (fun z => z h2)]
      rcases h with h | h | h
      · exact absurd h1 h
      · exact absurd h2 h
      · exact h
    · rw [if_neg (fun z => z h1), if_pos h2]; exact h2
  · rw [if_pos h1]; exact h1
/-- another point of a line -/
def oth (l p : V3) : V3 := cross l (ax (fl p))
theorem ax_cross {l p : V3} {i : Nat} (hi : i = 0 ∨ i = 1 ∨ i = 2) (h : dot p l = 0) : cross (cross l (ax i)) p = sm (-(cd i p)) l := by
  simp only [dot] at h
  rcases hi with rfl | rfl | rfl <;> ext <;> simp [cross, ax, sm, cd] <;> grind
theorem oth_cross {l p : V3} (h : dot p l = 0) : cross p (oth l p) = sm (cd (fl p) p) l := by
  have := ax_cross (i := fl p) (fl_le p) h
  have e : cross p (oth l p) = sm (-1) (cross (oth l p) p) := by ext <;> simp only [cross, sm] <;> grind
  rw [e]
  unfold oth
  rw [this, sm_sm]
  congr 1
  grind
theorem oth_on {l p : V3} : dot (oth l p) l = 0 := by unfold oth; simp only [dot, cross]; grind
theorem oth_cross_ne {l p : V3} (hp : p ≠ o3) (hl : l ≠ o3) (h : dot p l = 0) : cross p (oth l p) ≠ o3 := by
  rw [oth_cross h]
  exact sm_ne (cd_fl hp) hl
theorem oth_ne {l p : V3} (hp : p ≠ o3) (hl : l ≠ o3) (h : dot p l = 0) : oth l p ≠ o3 := fun z => by
  refine oth_cross_ne hp hl h ?_
  rw [z]
  ext <;> simp [cross, o3]
/-- points of a line by two of them -/
theorem span {l p q : V3} (hp : p ≠ o3) (hl : l ≠ o3) (h : dot p l = 0) (hq : dot q l = 0) : ∃ K m n : Int, K ≠ 0 ∧ sm K q = ad (sm m p) (sm n (oth l p)) := by
  have ho := oth_ne hp hl h
  have c0 := cd_fl hp
  have key : cross (ad (sm (cd (fl p) q) p) (sm (-(cd (fl p) p)) q)) (oth l p) = o3 := by
    simp only [dot] at h hq
    unfold oth
    rcases fl_le p with e | e | e <;> rw [e] <;> ext <;> simp [cross, ax, sm, ad, cd, o3] <;> grind
  obtain ⟨k, m, hm, e⟩ := par key ho
  refine ⟨m * cd (fl p) p, m * cd (fl p) q, -k, Int.mul_ne_zero hm c0, ?_⟩
  have h1 := congrArg V3.x e
  have h2 := congrArg V3.y e
  have h3 := congrArg V3.z e
  simp only [sm, ad] at h1 h2 h3
  ext <;> simp only [sm, ad] <;> grind
/-- the second point of a line through a point of a conic, not made plain -/
def sec (k : V6) (p l : V3) : V3 := ad (sm (qv k (oth l p)) p) (sm (-(bf k p (oth l p))) (oth l p))
structure Thru (k : V6) (p l : V3) : Prop where
  full : det (tb k) ≠ 0
  hp : p ≠ o3
  on : qv k p = 0
  hl : l ≠ o3
  thr : dot p l = 0
theorem comb0 {m n : Int} {p o : V3} (h : cross p o ≠ o3) (e : ad (sm m p) (sm n o) = o3) : m = 0 ∧ n = 0 := by
  have h1 := congrArg V3.x e
  have h2 := congrArg V3.y e
  have h3 := congrArg V3.z e
  simp only [sm, ad, o3] at h1 h2 h3
  constructor
  · refine sm_eq0 (u := cross p o) ?_ h
    ext <;> simp only [sm, cross, o3] <;> grind
  · refine sm_eq0 (u := cross p o) ?_ h
    ext <;> simp only [sm, cross, o3] <;> grind
section
variable {k : V6} {p l : V3}
theorem Thru.ne (t : Thru k p l) : ¬ (qv k (oth l p) = 0 ∧ bf k p (oth l p) = 0) := fun ⟨h1, h2⟩ =>
  oth_cross_ne t.hp t.hl t.thr (no_line t.full t.on h1 h2)
theorem Thru.sec_ne (t : Thru k p l) : sec k p l ≠ o3 := fun z => by
  obtain ⟨h1, h2⟩ := comb0 (oth_cross_ne t.hp t.hl t.thr) z
  exact t.ne ⟨h1, by omega⟩
theorem Thru.sec_on (t : Thru k p l) : qv k (sec k p l) = 0 := by
  unfold sec
  rw [qv_comb, t.on]
  grind
theorem Thru.sec_thr (t : Thru k p l) : dot (sec k p l) l = 0 := by
  have h1 := t.thr
  have h2 := oth_on (l := l) (p := p)
  unfold sec
  simp only [dot, ad, sm] at *
  grind
theorem Thru.only (t : Thru k p l) {q : V3} (hq : q ≠ o3) (on : qv k q = 0) (thr : dot q l = 0) : Pr q p ∨ Pr q (sec k p l) := by
  obtain ⟨K, m, n, hK, e⟩ := span t.hp t.hl t.thr thr
  have e0 : K * K * qv k q = m * m * qv k p + m * n * bf k p (oth l p) + n * n * qv k (oth l p) := by rw [← qv_sm, e, qv_comb]
  rw [on, t.on, Int.mul_zero, Int.mul_zero, Int.zero_add] at e0
  have e1 : n * (m * bf k p (oth l p) + n * qv k (oth l p)) = 0 := by rw [e0]; grind
  rcases Int.mul_eq_zero.mp e1 with h | h
  · left
    refine ⟨K, m, hK, fun z => ?_, ?_⟩
    · refine sm_ne hK hq ?_
      rw [e, h, z]
      ext <;> simp [ad, sm, o3]
    · rw [e, h]
      ext <;> simp [ad, sm]
  · right
    have a1 : sm (qv k (oth l p) * K) q = sm m (sec k p l) := by
      rw [← sm_sm, e]
      unfold sec
      ext <;> simp only [ad, sm] <;> grind
    have a2 : sm (bf k p (oth l p) * K) q = sm (-n) (sec k p l) := by
      rw [← sm_sm, e]
      unfold sec
      ext <;> simp only [ad, sm] <;> grind
    by_cases hz : qv k (oth l p) = 0
    · have hb : bf k p (oth l p) ≠ 0 := fun z => t.ne ⟨hz, z⟩
      refine ⟨_, _, Int.mul_ne_zero hb hK, fun z => ?_, a2⟩
      rw [z, sm_zero] at a2
      exact sm_ne (Int.mul_ne_zero hb hK) hq a2
    · refine ⟨_, _, Int.mul_ne_zero hz hK, fun z => ?_, a1⟩
      rw [z, sm_zero] at a1
      exact sm_ne (Int.mul_ne_zero hz hK) hq a1
/-- the touching line -/
theorem Thru.touch (t : Thru k p l) : (bf k p (oth l p) = 0 ↔ Pr l (mv (tb k) p)) := by
  have hT : mv (tb k) p ≠ o3 := mv_ne t.full t.hp
  have s1 : dot p (mv (tb k) p) = 0 := by have := bf_self (k := k) (p := p); rw [t.on] at this; simpa [bf] using this
  constructor
  · intro h
    have s2 : dot (oth l p) (mv (tb k) p) = 0 := by have := bf_comm (k := k) (p := oth l p) (q := p); rw [h] at this; exact this
    have c : cross (cross p (oth l p)) (mv (tb k) p) = o3 := by
      simp only [dot] at s1 s2
      ext <;> simp only [cross, o3] <;> grind
    rw [oth_cross t.thr] at c
    exact (Pr.of_sm (cd_fl t.hp)).symm.trans (par_pr c (sm_ne (cd_fl t.hp) t.hl) hT)
  · intro h
    have := h.dot0 (w := oth l p) (by rw [dot_comm]; exact oth_on)
    rw [bf_comm]
    show dot (oth l p) (mv (tb k) p) = 0
    rw [dot_comm]; exact this
theorem Thru.same (t : Thru k p l) : (Pr (sec k p l) p ↔ bf k p (oth l p) = 0) := by
  constructor
  · intro h
    have c := h.cross
    have e : cross (sec k p l) p = sm (bf k p (oth l p)) (cross p (oth l p)) := by
      unfold sec
      ext <;> simp only [cross, ad, sm] <;> grind
    rw [e] at c
    exact sm_eq0 c (oth_cross_ne t.hp t.hl t.thr)
  · intro h
    have hq : qv k (oth l p) ≠ 0 := fun z => t.ne ⟨z, h⟩
    have : sec k p l = sm (qv k (oth l p)) p := by
      unfold sec
      rw [h]
      ext <;> simp [ad, sm]
    rw [this]
    exact Pr.of_sm hq
theorem Thru.touch_iff (t : Thru k p l) : (Pr (sec k p l) p ↔ Pr l (mv (tb k) p)) := t.same.trans t.touch
end
end PyD

set_option Elab.async false
set_option linter.all false
set_option maxRecDepth 100000
set_option maxHeartbeats 2000000
/-! CnN: made plain; conics turned, empty or not. -/
namespace PyD
def V3.l (v : V3) : List Int := [v.x, v.y, v.z]
def V6.l (k : V6) : List Int := [k.a, k.b, k.c, k.d, k.e, k.f]
def gcdL (is : List Int) : Nat := is.foldl (fun g i => Nat.gcd g i.natAbs) 0
def live : List Int → Int
  | [] => 0
  | i :: r => if i = 0 then live r else i
theorem live_cons {i : Int} {r : List Int} : live (i :: r) = if i = 0 then live r else i := rfl
def PlainL (is : List Int) : Prop := gcdL is = 1 ∧ 0 < live is
theorem gcdF_mul {k : Int} : ∀ (is : List Int) (g : Nat), (is.map (k * ·)).foldl (fun g i => Nat.gcd g i.natAbs) (k.natAbs * g) = k.natAbs * is.foldl (fun g i => Nat.gcd g i.natAbs) g
  | [], g => rfl
  | i :: is, g => by
    show (is.map (k * ·)).foldl (fun g i => Nat.gcd g i.natAbs) (Nat.gcd (k.natAbs * g) (k * i).natAbs) = k.natAbs * is.foldl (fun g i => Nat.gcd g i.natAbs) (Nat.gcd g i.natAbs)
    rw [Int.natAbs_mul, Nat.gcd_mul_left]
    exact gcdF_mul is _
theorem gcdL_mul {k : Int} (is : List Int) : gcdL (is.map (k * ·)) = k.natAbs * gcdL is := gcdF_mul is 0
theorem live_mul {k : Int} (hk : k ≠ 0) : ∀ is : List Int, live (is.map (k * ·)) = k * live is
  | [] => (Int.mul_zero k).symm
  | i :: is => by
    rw [List.map_cons, live_cons, live_cons, live_mul hk is]
    by_cases h : i = 0
    · rw [if_pos h, h, if_pos (Int.mul_zero k)]
    · rw [if_neg h, if_neg (Int.mul_ne_zero hk h)]
theorem map_mul_inj {k : Int} (hk : k ≠ 0) : ∀ {is js : List Int}, is.map (k * ·) = js.map (k * ·) → is = js
  | [], [], _ => rfl
  | [], _ :: _, h => by cases h
  | _ :: _, [], h => by cases h
  | i :: is, j :: js, h => by
    rw [List.map_cons, List.map_cons] at h
    injection h with h1 h2
    rw [Int.eq_of_mul_eq_mul_left hk h1, map_mul_inj hk h2]
/-- plain rows in one proportion are one row -/
theorem plain_prop {is js : List Int} {k m : Int} (hk : k ≠ 0) (hm : m ≠ 0) (h1 : PlainL is) (h2 : PlainL js) (h : is.map (k * ·) = js.map (m * ·)) : is = js := by
  have e1 : k.natAbs = m.natAbs := by
    have := congrArg gcdL h
    rw [gcdL_mul, gcdL_mul, h1.1, h2.1] at this
    omega
  have e2 : k * live is = m * live js := by
    have := congrArg live h
    rwa [live_mul hk, live_mul hm] at this
  have e3 : k = m := by
    have l1 := h1.2
    have l2 := h2.2
    rcases Int.lt_or_lt_of_ne hk with a | a
    · have : m * live js < 0 := by rw [← e2]; exact Int.mul_neg_of_neg_of_pos a l1
      rcases Int.lt_or_lt_of_ne hm with b | b
      · omega
      · have := Int.mul_pos b l2
        omega
    · have : 0 < m * live js := by rw [← e2]; exact Int.mul_pos a l1
      rcases Int.lt_or_lt_of_ne hm with b | b
      · have := Int.mul_neg_of_neg_of_pos b l2
        omega
      · omega
  subst e3
  exact map_mul_inj hk h
theorem gcdF_dvd : ∀ (is : List Int) (g : Nat), is.foldl (fun g i => Nat.gcd g i.natAbs) g ∣ g ∧ ∀ i ∈ is, is.foldl (fun g i => Nat.gcd g i.natAbs) g ∣ i.natAbs
  | [], g => ⟨Nat.dvd_refl _, fun _ h => by cases h⟩
  | j :: is, g => by
    obtain ⟨h1, h2⟩ := gcdF_dvd is (Nat.gcd g j.natAbs)
    refine ⟨Nat.dvd_trans h1 (Nat.gcd_dvd_left _ _), fun i hi => ?_⟩
    rcases List.mem_cons.mp hi with rfl | hi
    · exact Nat.dvd_trans h1 (Nat.gcd_dvd_right _ _)
    · exact h2 i hi
theorem gcdL_dvd {is : List Int} {i : Int} (h : i ∈ is) : gcdL is ∣ i.natAbs := (gcdF_dvd is 0).2 i h
theorem live_mem : ∀ {is : List Int}, live is ≠ 0 → live is ∈ is
  | [], h => absurd rfl h
  | i :: is, h => by
    rw [live_cons] at h ⊢
    by_cases hi : i = 0
    · rw [if_pos hi] at h ⊢
      exact List.mem_cons_of_mem _ (live_mem h)
    · rw [if_neg hi]
      exact List.mem_cons_self ..
theorem live_zero : ∀ {is : List Int}, live is = 0 → ∀ i ∈ is, i = 0
  | [], _, _, h => by cases h
  | i :: is, h, j, hj => by
    rw [live_cons] at h
    by_cases hi : i = 0
    · rw [if_pos hi] at h
      rcases List.mem_cons.mp hj with rfl | hj
      · exact hi
      · exact live_zero h j hj
    · rw [if_neg hi] at h
      exact absurd h hi
/-- the divisor, with the first one's sign -/
def sgd (is : List Int) : Int := if 0 < live is then (gcdL is : Int) else -(gcdL is : Int)
def pl (is : List Int) : List Int := is.map fun i => i.fdiv (sgd is)
theorem fdiv_cancel {t d : Int} (h : d ∣ t) : t.fdiv d * d = t := by
  rw [Int.fdiv_eq_ediv_of_dvd h]
  exact Int.ediv_mul_cancel h
section
variable {is : List Int}
theorem gcdL_ne (hl : live is ≠ 0) : gcdL is ≠ 0 := fun z => by
  have := gcdL_dvd (live_mem hl)
  rw [z] at this
  have := Nat.eq_zero_of_zero_dvd this
  omega
theorem sgd_abs : (sgd is).natAbs = gcdL is := by unfold sgd; split <;> omega
theorem sgd_ne (hl : live is ≠ 0) : sgd is ≠ 0 := fun z => by
  have := sgd_abs (is := is)
  rw [z] at this
  exact gcdL_ne hl this.symm
theorem sgd_dvd {i : Int} (h : i ∈ is) : sgd is ∣ i := by
  rw [← Int.natAbs_dvd_natAbs, sgd_abs]
  exact gcdL_dvd h
theorem pl_mul (hl : live is ≠ 0) : (pl is).map (sgd is * ·) = is := by
  unfold pl
  rw [List.map_map]
  conv => rhs; rw [← List.map_id is]
  refine List.map_congr_left fun i hi => ?_
  show sgd is * i.fdiv (sgd is) = i
  rw [Int.mul_comm]
  exact fdiv_cancel (sgd_dvd hi)
theorem pl_plain (hl : live is ≠ 0) : PlainL (pl is) := by
  have hd := sgd_ne hl
  have hm := pl_mul hl
  constructor
  · have := congrArg gcdL hm
    rw [gcdL_mul, sgd_abs] at this
    have h2 : gcdL is * gcdL (pl is) = gcdL is * 1 := by omega
    exact Nat.eq_of_mul_eq_mul_left (Nat.pos_of_ne_zero (gcdL_ne hl)) h2
  · have := congrArg live hm
    rw [live_mul hd] at this
    have hp : 0 < gcdL is := Nat.pos_of_ne_zero (gcdL_ne hl)
    rcases Int.lt_or_le 0 (live (pl is)) with h | h
    · exact h
    · exfalso
      unfold sgd at this
      split at this
      · have : (gcdL is : Int) * live (pl is) ≤ 0 := Int.mul_nonpos_of_nonneg_of_nonpos (by omega) h
        omega
      · have : 0 ≤ -(gcdL is : Int) * live (pl is) := Int.mul_nonneg_of_nonpos_of_nonpos (by omega) h
        omega
theorem fdiv_abs_le {i d : Int} (h : d ∣ i) : (i.fdiv d).natAbs ≤ i.natAbs := by
  have e := fdiv_cancel h
  by_cases hd : d = 0
  · subst hd
    simp
  · have := congrArg Int.natAbs e
    rw [Int.natAbs_mul] at this
    rw [← this]
    exact Nat.le_mul_of_pos_right _ (by omega)
theorem sgd_le (hl : live is ≠ 0) : (sgd is).natAbs ≤ (live is).natAbs := by
  rw [sgd_abs]
  exact Nat.le_of_dvd (by omega) (gcdL_dvd (live_mem hl))
theorem plain_ne (h : PlainL is) : live is ≠ 0 := by have := h.2; omega
theorem pl_of {js : List Int} {k m : Int} (hl : live is ≠ 0) (hk : k ≠ 0) (hm : m ≠ 0) (h : is.map (k * ·) = js.map (m * ·)) (hp : PlainL js) : pl is = js := by
  refine plain_prop (k := k * sgd is) (m := m) (Int.mul_ne_zero hk (sgd_ne hl)) hm (pl_plain hl) hp ?_
  rw [← h]
  conv => rhs; rw [← pl_mul hl, List.map_map]
  refine List.map_congr_left fun i _ => ?_
  show k * sgd is * i = k * (sgd is * i)
  rw [Int.mul_assoc]
theorem pl_id (h : PlainL is) : pl is = is := pl_of (k := 1) (m := 1) (plain_ne h) (by decide) (by decide) rfl h
theorem pl_prop {js : List Int} {k m : Int} (hl : live is ≠ 0) (hj : live js ≠ 0) (hk : k ≠ 0) (hm : m ≠ 0) (h : is.map (k * ·) = js.map (m * ·)) : pl is = pl js := by
  refine pl_of (k := k) (m := m * sgd js) hl hk (Int.mul_ne_zero hm (sgd_ne hj)) ?_ (pl_plain hj)
  rw [h]
  conv => lhs; rw [← pl_mul hj, List.map_map]
  refine List.map_congr_left fun i _ => ?_
  show m * (sgd js * i) = m * sgd js * i
  rw [Int.mul_assoc]
end
/-! triples made plain -/
theorem live3 {v : V3} : live v.l ≠ 0 ↔ v ≠ o3 := by
  constructor
  · rintro h rfl
    exact h rfl
  · intro h z
    have := live_zero z
    exact h (V3.ext (this _ (by simp [V3.l])) (this _ (by simp [V3.l])) (this _ (by simp [V3.l])))
def p3 (v : V3) : V3 := ⟨v.x.fdiv (sgd v.l), v.y.fdiv (sgd v.l), v.z.fdiv (sgd v.l)⟩
theorem p3_l {v : V3} : (p3 v).l = pl v.l := rfl
theorem l_inj {u v : V3} (h : u.l = v.l) : u = v := by
  simp only [V3.l, List.cons.injEq, and_true] at h
  exact V3.ext h.1 h.2.1 h.2.2
theorem sm_l {k : Int} {v : V3} : (sm k v).l = v.l.map (k * ·) := rfl
theorem p3_pr {v : V3} (h : v ≠ o3) : Pr (p3 v) v := by
  refine ⟨sgd v.l, 1, sgd_ne (live3.mpr h), by decide, l_inj ?_⟩
  rw [sm_l, p3_l, pl_mul (live3.mpr h), sm_one]
theorem p3_plain {v : V3} (h : v ≠ o3) : PlainL (p3 v).l := pl_plain (live3.mpr h)
theorem pl3_ne {v : V3} (h : PlainL v.l) : v ≠ o3 := live3.mp (plain_ne h)
theorem p3_ne {v : V3} (h : v ≠ o3) : p3 v ≠ o3 := pl3_ne (p3_plain h)
theorem p3_id {v : V3} (h : PlainL v.l) : p3 v = v := l_inj (pl_id h)
theorem p3_eq {u v : V3} (hu : u ≠ o3) (h : Pr u v) : p3 u = p3 v := by
  have hv := h.ne hu
  obtain ⟨k, m, hk, hm, e⟩ := h
  exact l_inj (pl_prop (live3.mpr hu) (live3.mpr hv) hk hm (by rw [← sm_l, ← sm_l, e]))
theorem Pr.eq {u v : V3} (h : Pr u v) (hu : PlainL u.l) (hv : PlainL v.l) : u = v := by
  rw [← p3_id hu, ← p3_id hv]
  exact p3_eq (pl3_ne hu) h
/-! conics made plain -/
def o6 : V6 := ⟨0, 0, 0, 0, 0, 0⟩
theorem live6 {v : V6} : live v.l ≠ 0 ↔ v ≠ o6 := by
  constructor
  · rintro h rfl
    exact h rfl
  · intro h z
    have := live_zero z
    exact h (V6.ext (this _ (by simp [V6.l])) (this _ (by simp [V6.l])) (this _ (by simp [V6.l])) (this _ (by simp [V6.l])) (this _ (by simp [V6.l])) (this _ (by simp [V6.l])))
def s6 (m : Int) (k : V6) : V6 := ⟨m * k.a, m * k.b, m * k.c, m * k.d, m * k.e, m * k.f⟩
def p6 (k : V6) : V6 := ⟨k.a.fdiv (sgd k.l), k.b.fdiv (sgd k.l), k.c.fdiv (sgd k.l), k.d.fdiv (sgd k.l), k.e.fdiv (sgd k.l), k.f.fdiv (sgd k.l)⟩
theorem p6_l {v : V6} : (p6 v).l = pl v.l := rfl
theorem s6_l {m : Int} {v : V6} : (s6 m v).l = v.l.map (m * ·) := rfl
theorem l6_inj {u v : V6} (h : u.l = v.l) : u = v := by
  simp only [V6.l, List.cons.injEq, and_true] at h
  exact V6.ext h.1 h.2.1 h.2.2.1 h.2.2.2.1 h.2.2.2.2.1 h.2.2.2.2.2
theorem p6_s {k : V6} (h : k ≠ o6) : k = s6 (sgd k.l) (p6 k) := l6_inj (by rw [s6_l, p6_l, pl_mul (live6.mpr h)])
theorem p6_plain {k : V6} (h : k ≠ o6) : PlainL (p6 k).l := pl_plain (live6.mpr h)
theorem p6_s6 {m : Int} {k : V6} (h : k ≠ o6) (hm : m ≠ 0) : p6 (s6 m k) = p6 k := by
  have h2 : s6 m k ≠ o6 := fun z => by
    have := live_mul hm k.l
    rw [← s6_l, z] at this
    exact Int.mul_ne_zero hm (live6.mpr h) this.symm
  exact l6_inj (pl_prop (k := 1) (m := m) (live6.mpr h2) (live6.mpr h) (by decide) hm (by rw [s6_l, List.map_map]; refine List.map_congr_left fun i _ => ?_; show 1 * (m * i) = m * i; rw [Int.one_mul]))
theorem qv_s6 {m : Int} {k : V6} {p : V3} : qv (s6 m k) p = m * qv k p := by simp only [qv, s6]; grind
theorem bf_s6 {m : Int} {k : V6} {p q : V3} : bf (s6 m k) p q = m * bf k p q := by simp only [bf, tb, mv, dot, s6]; grind
theorem tb_s6 {m : Int} {k : V6} {p : V3} : mv (tb (s6 m k)) p = sm m (mv (tb k) p) := by ext <;> simp only [tb, mv, dot, s6, sm] <;> grind
theorem det_s6 {m : Int} {k : V6} : det (tb (s6 m k)) = m * m * m * det (tb k) := by simp only [tb, s6, det, blk, cross, dot]; grind
/-! turned conics -/
def rc (A : M3) (k : V6) : V6 := ⟨qv k (tr A).a, qv k (tr A).b, qv k (tr A).c, bf k (tr A).b (tr A).c, bf k (tr A).a (tr A).c, bf k (tr A).a (tr A).b⟩
theorem qv_rc {A : M3} {k : V6} {p : V3} : qv (rc A k) p = qv k (mv A p) := by
  obtain ⟨⟨a1, a2, a3⟩, ⟨b1, b2, b3⟩, ⟨c1, c2, c3⟩⟩ := A
  simp only [rc, qv, bf, tb, tr, mv, dot]; grind
theorem bf_rc {A : M3} {k : V6} {p q : V3} : bf (rc A k) p q = bf k (mv A p) (mv A q) := by
  rw [← qv_add, ← qv_add, qv_rc, qv_rc, qv_rc, mv_ad]
theorem tb_rc {A : M3} {k : V6} : tb (rc A k) = mm (mm (tr A) (tb k)) A := by
  obtain ⟨⟨a1, a2, a3⟩, ⟨b1, b2, b3⟩, ⟨c1, c2, c3⟩⟩ := A
  simp only [rc, qv, bf, tb, tr, mv, dot, mm, M3.mk.injEq, V3.mk.injEq]
  refine ⟨⟨?_, ?_, ?_⟩, ⟨?_, ?_, ?_⟩, ?_, ?_, ?_⟩ <;> grind
theorem det_rc {A : M3} {k : V6} : det (tb (rc A k)) = det A * det A * det (tb k) := by
  rw [tb_rc, det_mm, det_mm, det_tr]; grind
theorem full_ne {k : V6} (h : det (tb k) ≠ 0) : k ≠ o6 := by
  rintro rfl
  exact h rfl
theorem full_p6 {k : V6} (h : det (tb k) ≠ 0) : det (tb (p6 k)) ≠ 0 := fun z => by
  have e := p6_s (full_ne h)
  rw [e, det_s6, z, Int.mul_zero] at h
  exact h rfl
theorem qv_p6 {k : V6} (h : k ≠ o6) {p : V3} : qv (p6 k) p = 0 ↔ qv k p = 0 := by
  have e := p6_s h
  have := qv_s6 (m := sgd k.l) (k := p6 k) (p := p)
  rw [← e] at this
  constructor
  · intro z
    rw [this, z, Int.mul_zero]
  · intro z
    rw [z] at this
    rcases Int.mul_eq_zero.mp this.symm with w | w
    · exact absurd w (sgd_ne (live6.mpr h))
    · exact w
/-- the turned conic -/
def tc (V : M3) (k : V6) : V6 := p6 (rc (adj V) k)
theorem det_adj_ne {V : M3} (h : det V ≠ 0) : det (adj V) ≠ 0 := by
  rw [det_adj]; exact Int.mul_ne_zero h h
theorem full_rc {A : M3} {k : V6} (hA : det A ≠ 0) (hk : det (tb k) ≠ 0) : det (tb (rc A k)) ≠ 0 := by
  rw [det_rc]; exact Int.mul_ne_zero (Int.mul_ne_zero hA hA) hk
theorem full_tc {V : M3} {k : V6} (hV : det V ≠ 0) (hk : det (tb k) ≠ 0) : det (tb (tc V k)) ≠ 0 := full_p6 (full_rc (det_adj_ne hV) hk)
theorem plain_tc {V : M3} {k : V6} (hV : det V ≠ 0) (hk : det (tb k) ≠ 0) : PlainL (tc V k).l := p6_plain (full_ne (full_rc (det_adj_ne hV) hk))
theorem qv_tc {V : M3} {k : V6} (hV : det V ≠ 0) (hk : det (tb k) ≠ 0) {p : V3} : qv (tc V k) p = 0 ↔ qv k (mv (adj V) p) = 0 := by
  unfold tc
  rw [qv_p6 (full_ne (full_rc (det_adj_ne hV) hk)), qv_rc]
theorem qv_tc_mv {V : M3} {k : V6} (hV : det V ≠ 0) (hk : det (tb k) ≠ 0) {p : V3} (h : qv k p = 0) : qv (tc V k) (mv V p) = 0 := by
  rw [qv_tc hV hk, adj_mv, qv_sm, h, Int.mul_zero]
/-! empty or not -/
def sgn (i : Int) : Int := if 0 < i then 1 else if i < 0 then -1 else 0
def emp (k : V6) : Bool := if sgn k.a = 0 ∨ sgn k.b ≠ sgn k.a ∨ sgn k.c ≠ sgn k.a then false else decide (4 * k.a * k.b - k.f * k.f > 0) && decide (det (tb k) * sgn k.a > 0)
theorem sq_nonneg (x : Int) : 0 ≤ x * x := by
  rcases Int.le_total 0 x with g | g
  · exact Int.mul_nonneg g g
  · exact Int.mul_nonneg_of_nonpos_of_nonpos g g
theorem emp_of {k : V6} {p : V3} (h : qv k p = 0) (hp : p ≠ o3) : emp k = false := by
  unfold emp
  split
  · rfl
  · rename_i hs
    rw [Bool.and_eq_false_iff]
    refine Classical.byContradiction fun hn => hp ?_
    have h1 : 4 * k.a * k.b - k.f * k.f > 0 := Decidable.byContradiction fun z => hn (.inl (decide_eq_false z))
    have h2 : det (tb k) * sgn k.a > 0 := Decidable.byContradiction fun z => hn (.inr (decide_eq_false z))
    have ha : k.a ≠ 0 := fun z => hs (.inl (by rw [z]; rfl))
    have h3 : det (tb k) * k.a > 0 := by
      unfold sgn at h2
      split at h2
      · rename_i g
        rw [Int.mul_one] at h2
        exact Int.mul_pos h2 g
      · split at h2
        · rename_i g
          exact Int.mul_pos_of_neg_of_neg (by omega) g
        · omega
    have key : 4 * k.a * (4 * k.a * k.b - k.f * k.f) * qv k p = (4 * k.a * k.b - k.f * k.f) * ((2 * k.a * p.x + k.f * p.y + k.e * p.z) * (2 * k.a * p.x + k.f * p.y + k.e * p.z)) + ((4 * k.a * k.b - k.f * k.f) * p.y + (2 * k.a * k.d - k.e * k.f) * p.z) * ((4 * k.a * k.b - k.f * k.f) * p.y + (2 * k.a * k.d - k.e * k.f) * p.z) + 2 * (det (tb k) * k.a) * (p.z * p.z) := by
      simp only [qv, tb, det, blk, cross, dot]; grind
    rw [h, Int.mul_zero] at key
    generalize 4 * k.a * k.b - k.f * k.f = u at h1 key
    generalize det (tb k) * k.a = w at h3 key
    generalize hX : 2 * k.a * p.x + k.f * p.y + k.e * p.z = X at key
    generalize hY : u * p.y + (2 * k.a * k.d - k.e * k.f) * p.z = Y at key
    have s1 : 0 ≤ u * (X * X) := Int.mul_nonneg (by omega) (sq_nonneg X)
    have s2 := sq_nonneg Y
    have s3 : 0 ≤ 2 * w * (p.z * p.z) := Int.mul_nonneg (by omega) (sq_nonneg _)
    have z3 : 2 * w * (p.z * p.z) = 0 := by omega
    have z2 : Y * Y = 0 := by omega
    have z1 : u * (X * X) = 0 := by omega
    have zz : p.z = 0 := by
      rcases Int.mul_eq_zero.mp z3 with g | g
      · omega
      · rcases Int.mul_eq_zero.mp g with g | g <;> exact g
    have zY : Y = 0 := by rcases Int.mul_eq_zero.mp z2 with g | g <;> exact g
    have zX : X = 0 := by
      rcases Int.mul_eq_zero.mp z1 with g | g
      · omega
      · rcases Int.mul_eq_zero.mp g with g | g <;> exact g
    rw [zz, Int.mul_zero, Int.add_zero, zY] at hY
    have zy : p.y = 0 := by
      rcases Int.mul_eq_zero.mp hY with g | g
      · omega
      · exact g
    rw [zz, zy, Int.mul_zero, Int.mul_zero, Int.add_zero, Int.add_zero, zX] at hX
    have zx : p.x = 0 := by
      rcases Int.mul_eq_zero.mp hX with g | g
      · omega
      · exact g
    exact V3.ext zx zy zz
end PyD

set_option Elab.async false
set_option linter.all false
set_option maxRecDepth 100000
set_option maxHeartbeats 2000000
/-! CnO: conics by their parameters. -/
namespace PyD
def phi (s t : Int) : V3 := ⟨s * s, s * t, t * t⟩
def base : V6 := ⟨0, 1, 0, 0, -1, 0⟩
theorem base_full : det (tb base) ≠ 0 := by decide
theorem base_phi {s t : Int} : qv base (phi s t) = 0 := by simp only [qv, base, phi]; grind
theorem phi_ne {s t : Int} (h : s ≠ 0 ∨ t ≠ 0) : phi s t ≠ o3 := by
  rw [ne3]
  rcases h with h | h
  · exact .inl (Int.mul_ne_zero h h)
  · exact .inr (.inr (Int.mul_ne_zero h h))
def pt (M : M3) (x : Int × Int) : V3 := p3 (mv M (phi x.1 x.2))
def br (x y : Int × Int) : Int := x.1 * y.2 - x.2 * y.1
def nz2 (x : Int × Int) : Prop := x.1 ≠ 0 ∨ x.2 ≠ 0
section
variable {M : M3} (hM : det M ≠ 0) {x y : Int × Int}
include hM
theorem pt_ne0 (h : nz2 x) : mv M (phi x.1 x.2) ≠ o3 := mv_ne hM (phi_ne h)
theorem pt_pr (h : nz2 x) : Pr (pt M x) (mv M (phi x.1 x.2)) := p3_pr (pt_ne0 hM h)
theorem pt_plain (h : nz2 x) : PlainL (pt M x).l := p3_plain (pt_ne0 hM h)
theorem pt_ne (h : nz2 x) : pt M x ≠ o3 := p3_ne (pt_ne0 hM h)
theorem pt_on (h : nz2 x) : qv (tc M base) (pt M x) = 0 := (pt_pr hM h).symm.qv0 (qv_tc_mv hM base_full base_phi)
omit hM in
theorem phi_cross : cross (phi x.1 x.2) (phi y.1 y.2) = sm (br x y) ⟨x.2 * y.2, -(x.1 * y.2 + x.2 * y.1), x.1 * y.1⟩ := by
  ext <;> simp only [cross, phi, br, sm] <;> grind
omit hM in
theorem br_pr (h : br x y = 0) (hx : nz2 x) (hy : nz2 y) : Pr (phi x.1 x.2) (phi y.1 y.2) := by
  refine par_pr ?_ (phi_ne hx) (phi_ne hy)
  rw [phi_cross, h, sm_zero]
theorem pt_eq (hx : nz2 x) (hy : nz2 y) : pt M x = pt M y ↔ br x y = 0 := by
  constructor
  · intro h
    have p : Pr (mv M (phi x.1 x.2)) (mv M (phi y.1 y.2)) := (pt_pr hM hx).symm.trans (by rw [h]; exact pt_pr hM hy)
    have c := (p.of_mv hM).cross
    rw [phi_cross] at c
    refine Classical.byContradiction fun hb => ?_
    have c0 : (⟨x.2 * y.2, -(x.1 * y.2 + x.2 * y.1), x.1 * y.1⟩ : V3) = o3 := Classical.byContradiction fun z => sm_ne hb z c
    have h1 := congrArg V3.x c0
    have h2 := congrArg V3.y c0
    have h3 := congrArg V3.z c0
    simp only [o3] at h1 h2 h3
    unfold br at hb
    rcases Int.mul_eq_zero.mp h1 with a | a <;> rcases Int.mul_eq_zero.mp h3 with b | b
    · exact hx.elim (fun z => z b) fun z => z a
    · rw [a, b] at hb h2; simp at hb h2; exact (Int.mul_eq_zero.mp h2).elim hb.1 hb.2
    · rw [a, b] at hb h2; simp at hb h2; first | exact (Int.mul_eq_zero.mp h2).elim hb.1 hb.2 | exact (Int.mul_eq_zero.mp h2).elim hb.2 hb.1
    · exact hy.elim (fun z => z b) fun z => z a
  · intro h
    exact p3_eq (pt_ne0 hM hx) ((br_pr h hx hy).mv)
end
end PyD

set_option Elab.async false
set_option linter.all false
set_option maxRecDepth 100000
set_option maxHeartbeats 2000000
/-! CnQ: second points: what is asked of them, in plain Lean. -/
namespace PyD
def se (k : V6) (p l : V3) : V3 := p3 (sec k p l)
section
variable {k : V6} {p l : V3}
theorem Thru.se_pr (t : Thru k p l) : Pr (se k p l) (sec k p l) := p3_pr t.sec_ne
theorem Thru.se_plain (t : Thru k p l) : PlainL (se k p l).l := p3_plain t.sec_ne
theorem Thru.se_ne (t : Thru k p l) : se k p l ≠ o3 := p3_ne t.sec_ne
theorem Thru.se_on (t : Thru k p l) : qv k (se k p l) = 0 := t.se_pr.symm.qv0 t.sec_on
theorem Thru.se_thr (t : Thru k p l) : dot (se k p l) l = 0 := t.se_pr.symm.dot0 t.sec_thr
theorem Thru.se_thru (t : Thru k p l) : Thru k (se k p l) l := ⟨t.full, t.se_ne, t.se_on, t.hl, t.se_thr⟩
theorem Thru.se_touch (t : Thru k p l) (hp : PlainL p.l) (hl : PlainL l.l) : se k p l = p ↔ l = p3 (mv (tb k) p) := by
  have hT : mv (tb k) p ≠ o3 := mv_ne t.full t.hp
  constructor
  · intro e
    have : Pr (sec k p l) p := t.se_pr.symm.trans (by rw [e]; exact Pr.refl p)
    exact ((t.touch_iff.mp this).trans (p3_pr hT).symm).eq hl (p3_plain hT)
  · intro e
    have : Pr l (mv (tb k) p) := by rw [e]; exact p3_pr hT
    exact (t.se_pr.trans (t.touch_iff.mpr this)).eq t.se_plain hp
/-- the only other one -/
theorem Thru.se_only (t : Thru k p l) (hp : PlainL p.l) {q : V3} (hq : PlainL q.l) (on : qv k q = 0) (thr : dot q l = 0) (ne : q ≠ p) : se k p l = q := by
  rcases t.only (pl3_ne hq) on thr with h | h
  · exact absurd (h.eq hq hp) ne
  · exact (t.se_pr.trans h.symm).eq t.se_plain hq
theorem Thru.se_back (t : Thru k p l) (hp : PlainL p.l) : se k (se k p l) l = p := by
  by_cases e : se k p l = p
  · rw [e, e]
  · exact t.se_thru.se_only t.se_plain hp t.on t.thr (fun z => e z.symm)
end
/-- the line of two points -/
theorem line_thru {k : V6} {p q : V3} (hk : det (tb k) ≠ 0) (hp : PlainL p.l) (hq : PlainL q.l) (on : qv k p = 0) (ne : q ≠ p) : cross p q ≠ o3 ∧ Thru k p (p3 (cross p q)) ∧ dot q (p3 (cross p q)) = 0 := by
  have h0 : cross p q ≠ o3 := fun z => ne ((par_pr z (pl3_ne hp) (pl3_ne hq)).eq hp hq).symm
  have pr := p3_pr h0
  refine ⟨h0, ⟨hk, pl3_ne hp, on, p3_ne h0, ?_⟩, ?_⟩
  · rw [dot_comm]; exact pr.symm.dot0 (by rw [dot_comm]; exact dot_cross1)
  · rw [dot_comm]; exact pr.symm.dot0 (by rw [dot_comm]; exact dot_cross2)
theorem polar_thru {k : V6} {p : V3} (hk : det (tb k) ≠ 0) (hp : PlainL p.l) (on : qv k p = 0) : mv (tb k) p ≠ o3 ∧ Thru k p (p3 (mv (tb k) p)) := by
  have hT : mv (tb k) p ≠ o3 := mv_ne hk (pl3_ne hp)
  refine ⟨hT, ⟨hk, pl3_ne hp, on, p3_ne hT, ?_⟩⟩
  rw [dot_comm]
  refine (p3_pr hT).symm.dot0 ?_
  rw [dot_comm]
  have := bf_self (k := k) (p := p)
  rw [on] at this
  simpa [bf] using this
/-- a line through a point, by another point of it -/
theorem through_thru {k : V6} {p q : V3} (hk : det (tb k) ≠ 0) (hp : PlainL p.l) (on : qv k p = 0) (h0 : cross p q ≠ o3) : Thru k p (p3 (cross p q)) := by
  refine ⟨hk, pl3_ne hp, on, p3_ne h0, ?_⟩
  rw [dot_comm]; exact (p3_pr h0).symm.dot0 (by rw [dot_comm]; exact dot_cross1)
theorem turn_cross {V : M3} {p q : V3} (hV : det V ≠ 0) (h0 : cross p q ≠ o3) : cross (mv V p) (mv V q) ≠ o3 := by
  rw [cross_mv]
  exact mv_ne (by rw [det_tr]; exact det_adj_ne hV) h0
/-- turned by a view, second points go along -/
theorem turn_se {k : V6} {V : M3} {p q : V3} (hk : det (tb k) ≠ 0) (hV : det V ≠ 0) (hp : PlainL p.l) (on : qv k p = 0) (h0 : cross p q ≠ o3) :
    Thru (tc V k) (p3 (mv V p)) (p3 (cross (mv V p) (mv V q))) ∧ se (tc V k) (p3 (mv V p)) (p3 (cross (mv V p) (mv V q))) = p3 (mv V (se k p (p3 (cross p q)))) := by
  have t := through_thru hk hp on h0
  have hVp : mv V p ≠ o3 := mv_ne hV (pl3_ne hp)
  have c0 := turn_cross hV h0
  have prp : Pr (p3 (mv V p)) (mv V p) := p3_pr hVp
  have prl : Pr (p3 (cross (mv V p) (mv V q))) (cross (mv V p) (mv V q)) := p3_pr c0
  have on' : qv (tc V k) (p3 (mv V p)) = 0 := prp.symm.qv0 (qv_tc_mv hV hk on)
  have dl : ∀ x : V3, dot x (p3 (cross p q)) = 0 → dot (mv V x) (cross (mv V p) (mv V q)) = 0 := fun x hx => by
    have h1 : dot x (cross p q) = 0 := by rw [dot_comm]; exact (p3_pr h0).dot0 (by rw [dot_comm]; exact hx)
    have : dot (mv V x) (cross (mv V p) (mv V q)) = det V * dot x (cross p q) := by
      rw [cross_mv, dot_mv]
      have e : tr (tr (adj V)) = adj V := rfl
      rw [e, adj_mv]
      simp only [dot, sm]; grind
    rw [this, h1, Int.mul_zero]
  have t' : Thru (tc V k) (p3 (mv V p)) (p3 (cross (mv V p) (mv V q))) := by
    refine ⟨full_tc hV hk, p3_ne hVp, on', p3_ne c0, ?_⟩
    refine prp.symm.dot0 ?_
    rw [dot_comm]
    exact prl.symm.dot0 (by rw [dot_comm]; exact dot_cross1)
  refine ⟨t', ?_⟩
  have hs : mv V (se k p (p3 (cross p q))) ≠ o3 := mv_ne hV t.se_ne
  have prs : Pr (p3 (mv V (se k p (p3 (cross p q))))) (mv V (se k p (p3 (cross p q)))) := p3_pr hs
  by_cases e : se k p (p3 (cross p q)) = p
  · rw [e]
    refine Classical.byContradiction fun hne => ?_
    have hr := t'.se_ne
    have hA : mv (adj V) (se (tc V k) (p3 (mv V p)) (p3 (cross (mv V p) (mv V q)))) ≠ o3 := mv_ne (det_adj_ne hV) hr
    have b1 : qv k (mv (adj V) (se (tc V k) (p3 (mv V p)) (p3 (cross (mv V p) (mv V q))))) = 0 := (qv_tc hV hk).mp t'.se_on
    have b2 : dot (mv (adj V) (se (tc V k) (p3 (mv V p)) (p3 (cross (mv V p) (mv V q))))) (p3 (cross p q)) = 0 := by
      have h1 : dot (se (tc V k) (p3 (mv V p)) (p3 (cross (mv V p) (mv V q)))) (cross (mv V p) (mv V q)) = 0 := by
        rw [dot_comm]; exact prl.dot0 (by rw [dot_comm]; exact t'.se_thr)
      have key : ∀ w : V3, dot w (cross (mv V p) (mv V q)) = dot (mv (adj V) w) (cross p q) := fun w => by
        rw [cross_mv, dot_mv]; rfl
      rw [key] at h1
      rw [dot_comm]
      exact (p3_pr h0).symm.dot0 (by rw [dot_comm]; exact h1)
    have two : Pr (mv (adj V) (se (tc V k) (p3 (mv V p)) (p3 (cross (mv V p) (mv V q))))) p := by
      rcases t.only hA b1 b2 with h | h
      · exact h
      · exact h.trans (t.se_pr.symm.trans (by rw [e]; exact Pr.refl p))
    have back : Pr (se (tc V k) (p3 (mv V p)) (p3 (cross (mv V p) (mv V q)))) (mv V p) := by
      have := two.mv (M := V)
      rw [mv_adj] at this
      exact (Pr.of_sm hV).symm.trans this
    exact hne ((back.trans prp.symm).eq t'.se_plain (p3_plain hVp))
  · refine t'.se_only (p3_plain hVp) (p3_plain hs) ?_ ?_ fun z => e ?_
    · exact prs.symm.qv0 (qv_tc_mv hV hk t.se_on)
    · refine prs.symm.dot0 ?_
      rw [dot_comm]
      exact prl.symm.dot0 (by rw [dot_comm]; exact dl _ t.se_thr)
    · have : Pr (mv V (se k p (p3 (cross p q)))) (mv V p) := prs.symm.trans (by rw [z]; exact prp)
      exact (this.of_mv hV).eq t.se_plain hp
end PyD

set_option Elab.async false
set_option linter.all false
set_option maxRecDepth 100000
set_option maxHeartbeats 2000000
/-! CnS: double ratios on a conic, in plain Lean. -/
namespace PyD
abbrev P2 := Int × Int
def p2 (x : P2) : P2 := (x.1.fdiv (sgd [x.1, x.2]), x.2.fdiv (sgd [x.1, x.2]))
def P2.l (x : P2) : List Int := [x.1, x.2]
theorem p2_l {x : P2} : P2.l (p2 x) = pl (P2.l x) := rfl
theorem l2_inj {x y : P2} (h : P2.l x = P2.l y) : x = y := by
  simp only [P2.l, List.cons.injEq, and_true] at h
  exact Prod.ext h.1 h.2
theorem live2 {x : P2} : live (P2.l x) ≠ 0 ↔ nz2 x := by
  unfold P2.l nz2
  simp only [live]
  by_cases h : x.1 = 0
  · simp only [h, if_true]
    by_cases g : x.2 = 0 <;> simp [g]
  · simp [h]
theorem p2_of {x y : P2} {k m : Int} (hx : nz2 x) (hk : k ≠ 0) (hm : m ≠ 0) (h1 : k * x.1 = m * y.1) (h2 : k * x.2 = m * y.2) (hy : PlainL (P2.l y)) : p2 x = y := by
  refine l2_inj ?_
  rw [p2_l]
  refine pl_of (live2.mpr hx) hk hm ?_ hy
  show [k * x.1, k * x.2] = [m * y.1, m * y.2]
  rw [h1, h2]
theorem p2_prop {x y : P2} {k m : Int} (hx : nz2 x) (hy : nz2 y) (hk : k ≠ 0) (hm : m ≠ 0) (h1 : k * x.1 = m * y.1) (h2 : k * x.2 = m * y.2) : p2 x = p2 y := by
  refine l2_inj ?_
  rw [p2_l, p2_l]
  refine pl_prop (live2.mpr hx) (live2.mpr hy) hk hm ?_
  show [k * x.1, k * x.2] = [m * y.1, m * y.2]
  rw [h1, h2]
theorem p2_plain {x : P2} (h : nz2 x) : PlainL (P2.l (p2 x)) := pl_plain (live2.mpr h)
theorem p2_s {x : P2} (h : nz2 x) : ∃ g : Int, g ≠ 0 ∧ x.1 = g * (p2 x).1 ∧ x.2 = g * (p2 x).2 := by
  have := pl_mul (live2.mpr h)
  rw [← p2_l] at this
  simp only [P2.l, List.map_cons, List.cons.injEq] at this
  exact ⟨_, sgd_ne (live2.mpr h), this.1.symm, this.2.1.symm⟩
theorem plain2_nz {x : P2} (h : PlainL (P2.l x)) : nz2 x := live2.mp (plain_ne h)
/-- a cross at the first live place of another one -/
theorem l_iff {u v : V3} : u.l = v.l ↔ u = v := ⟨l_inj, fun h => by rw [h]⟩
def cz (l m u v : V3) : Int := cd (fl (cross l m)) (cross u v)
def dr (a b c d : V3) : P2 := p2 (cz a b d b * cz a b a c, cz a b a d * cz a b c b)
def f4 (a b c : V3) (p : P2) : V3 := p3 (ad (sm (p.1 * cz a b c b) a) (sm (p.2 * cz a b a c) b))
def Ln (e x : P2) : V3 := ⟨e.2 * x.2, -(e.1 * x.2 + e.2 * x.1), e.1 * x.1⟩
def cr (a b c d : P2) : P2 := p2 (br d b * br a c, br a d * br c b)
def x4 (a b c p : P2) : P2 := (p.1 * br c b * a.1 + p.2 * br a c * b.1, p.1 * br c b * a.2 + p.2 * br a c * b.2)
theorem Ln_cross {e x y : P2} : cross (Ln e x) (Ln e y) = sm (br x y) (phi e.1 e.2) := by
  ext <;> simp only [cross, Ln, br, sm, phi] <;> grind
theorem Ln_ne {e x : P2} (he : nz2 e) (hx : nz2 x) : Ln e x ≠ o3 := fun c => by
  have h1 := congrArg V3.x c
  have h2 := congrArg V3.y c
  have h3 := congrArg V3.z c
  simp only [o3, Ln] at h1 h2 h3
  unfold nz2 at he hx
  rcases Int.mul_eq_zero.mp h1 with a | a <;> rcases Int.mul_eq_zero.mp h3 with b | b
  · exact he.elim (fun z => z b) fun z => z a
  · rw [a, b] at h2; simp only [Int.zero_mul, Int.mul_zero, Int.zero_add, Int.add_zero, Int.neg_eq_zero] at h2; rcases Int.mul_eq_zero.mp h2 with z | z
    · exact he.elim (fun y => y z) fun y => y a
    · exact hx.elim (fun y => y b) fun y => y z
  · rw [a, b] at h2; simp only [Int.zero_mul, Int.mul_zero, Int.zero_add, Int.add_zero, Int.neg_eq_zero] at h2; rcases Int.mul_eq_zero.mp h2 with z | z
    · exact he.elim (fun y => y b) fun y => y z
    · exact hx.elim (fun y => y z) fun y => y a
  · exact hx.elim (fun z => z b) fun z => z a
theorem Ln_phi1 {e x : P2} : dot (phi e.1 e.2) (Ln e x) = 0 := by simp only [dot, phi, Ln]; grind
theorem Ln_phi2 {e x : P2} : dot (phi x.1 x.2) (Ln e x) = 0 := by simp only [dot, phi, Ln]; grind
theorem Ln_x4 {e a b c p : P2} : Ln e (x4 a b c p) = ad (sm (p.1 * br c b) (Ln e a)) (sm (p.2 * br a c) (Ln e b)) := by
  ext <;> simp only [ad, sm, Ln, x4] <;> grind
theorem cd_sm {i : Nat} {k : Int} {v : V3} : cd i (sm k v) = k * cd i v := by unfold cd; split; rfl; split <;> rfl
theorem pr_of_eq {u v : V3} (h : u = v) : Pr u v := h ▸ Pr.refl _
theorem Pr.cross2 {u v u' v' : V3} (h : Pr u u') (g : Pr v v') : Pr (PyD.cross u v) (PyD.cross u' v') := by
  obtain ⟨k, m, hk, hm, e⟩ := h
  obtain ⟨k', m', hk', hm', e'⟩ := g
  exact ⟨k * k', m * m', Int.mul_ne_zero hk hk', Int.mul_ne_zero hm hm', by rw [← cross_sm, ← cross_sm, e, e']⟩
/-- lines from a point -/
structure Fan (N : M3) (e : P2) (a b c : P2) (la lb lc : V3) : Prop where
  hN : det N ≠ 0
  he : nz2 e
  ab : br a b ≠ 0
  ac : br a c ≠ 0
  cb : br c b ≠ 0
  pa : Pr la (mv N (Ln e a))
  pb : Pr lb (mv N (Ln e b))
  pc : Pr lc (mv N (Ln e c))
theorem pl_x1 {a b d : P2} : br d b * a.1 + br a d * b.1 = br a b * d.1 := by simp only [br]; grind
theorem pl_x2 {a b d : P2} : br d b * a.2 + br a d * b.2 = br a b * d.2 := by simp only [br]; grind
theorem cr_nz {a b c d : P2} (ab : br a b ≠ 0) (ac : br a c ≠ 0) (cb : br c b ≠ 0) (hd : nz2 d) : nz2 (br d b * br a c, br a d * br c b) := by
  by_cases h1 : br d b = 0
  · right
    refine Int.mul_ne_zero (fun h2 => ?_) cb
    have e1 := pl_x1 (a := a) (b := b) (d := d)
    have e2 := pl_x2 (a := a) (b := b) (d := d)
    rw [h1, h2, Int.zero_mul, Int.zero_mul, Int.add_zero] at e1 e2
    rcases hd with h | h
    · exact Int.mul_ne_zero ab h e1.symm
    · exact Int.mul_ne_zero ab h e2.symm
  · exact .inl (Int.mul_ne_zero h1 ac)
section
variable {N : M3} {e a b c : P2} {la lb lc : V3}
/-- crosses at the place, by parameters -/
theorem fan_cz (F : Fan N e a b c la lb lc) : ∃ w : Int, w ≠ 0 ∧ ∀ (x y : P2) (u v : V3) (k m k' m' : Int), sm k u = sm m (mv N (Ln e x)) → sm k' v = sm m' (mv N (Ln e y)) → k * k' * cz la lb u v = m * m' * (br x y * w) := by
  have hW : mv (tr (adj N)) (phi e.1 e.2) ≠ o3 := mv_ne (by rw [det_tr]; exact det_adj_ne F.hN) (phi_ne F.he)
  have key : ∀ (x y : P2) (u v : V3) (k m k' m' : Int), sm k u = sm m (mv N (Ln e x)) → sm k' v = sm m' (mv N (Ln e y)) → sm (k * k') (cross u v) = sm (m * m' * br x y) (mv (tr (adj N)) (phi e.1 e.2)) := fun x y u v k m k' m' h h' => by
    rw [← cross_sm, h, h', cross_sm, cross_mv, Ln_cross, mv_sm, sm_sm]
  obtain ⟨k, m, hk, hm, h⟩ := F.pa
  obtain ⟨k', m', hk', hm', h'⟩ := F.pb
  have h1 := key a b la lb k m k' m' h h'
  have hab : cross la lb ≠ o3 := fun z => by
    rw [z] at h1
    have : sm (k * k') o3 = o3 := by ext <;> simp [sm, o3]
    rw [this] at h1
    exact sm_ne (Int.mul_ne_zero (Int.mul_ne_zero hm hm') F.ab) hW h1.symm
  refine ⟨cd (fl (cross la lb)) (mv (tr (adj N)) (phi e.1 e.2)), fun z => ?_, fun x y u v k m k' m' h h' => ?_⟩
  · have := congrArg (cd (fl (cross la lb))) h1
    rw [cd_sm, cd_sm, z, Int.mul_zero] at this
    exact Int.mul_ne_zero (Int.mul_ne_zero hk hk') (cd_fl hab) this
  · have := congrArg (cd (fl (cross la lb))) (key x y u v k m k' m' h h')
    rw [cd_sm, cd_sm] at this
    unfold cz
    rw [this, Int.mul_assoc]
theorem fan_dr (F : Fan N e a b c la lb lc) {d : P2} {ld : V3} (hd : nz2 d) (pd : Pr ld (mv N (Ln e d))) : nz2 (cz la lb ld lb * cz la lb la lc, cz la lb la ld * cz la lb lc lb) ∧ dr la lb lc ld = cr a b c d := by
  obtain ⟨w, hw, key⟩ := fan_cz F
  obtain ⟨k1, m1, hk1, hm1, h1⟩ := F.pa
  obtain ⟨k2, m2, hk2, hm2, h2⟩ := F.pb
  obtain ⟨k3, m3, hk3, hm3, h3⟩ := F.pc
  obtain ⟨k4, m4, hk4, hm4, h4⟩ := pd
  have e42 := key d b ld lb _ _ _ _ h4 h2
  have e13 := key a c la lc _ _ _ _ h1 h3
  have e14 := key a d la ld _ _ _ _ h1 h4
  have e32 := key c b lc lb _ _ _ _ h3 h2
  have E1 : (k1 * k2 * (k3 * k4)) * (cz la lb ld lb * cz la lb la lc) = (m1 * m2 * (m3 * m4) * (w * w)) * (br d b * br a c) := by
    have : (k1 * k2 * (k3 * k4)) * (cz la lb ld lb * cz la lb la lc) = (k4 * k2 * cz la lb ld lb) * (k1 * k3 * cz la lb la lc) := by grind
    rw [this, e42, e13]; grind
  have E2 : (k1 * k2 * (k3 * k4)) * (cz la lb la ld * cz la lb lc lb) = (m1 * m2 * (m3 * m4) * (w * w)) * (br a d * br c b) := by
    have : (k1 * k2 * (k3 * k4)) * (cz la lb la ld * cz la lb lc lb) = (k1 * k4 * cz la lb la ld) * (k3 * k2 * cz la lb lc lb) := by grind
    rw [this, e14, e32]; grind
  have hK : k1 * k2 * (k3 * k4) ≠ 0 := Int.mul_ne_zero (Int.mul_ne_zero hk1 hk2) (Int.mul_ne_zero hk3 hk4)
  have hM : m1 * m2 * (m3 * m4) * (w * w) ≠ 0 := Int.mul_ne_zero (Int.mul_ne_zero (Int.mul_ne_zero hm1 hm2) (Int.mul_ne_zero hm3 hm4)) (Int.mul_ne_zero hw hw)
  have ny := cr_nz F.ab F.ac F.cb hd
  have nx : nz2 (cz la lb ld lb * cz la lb la lc, cz la lb la ld * cz la lb lc lb) := by
    rcases ny with h | h
    · left; intro z
      have z' : cz la lb ld lb * cz la lb la lc = 0 := z
      rw [z', Int.mul_zero] at E1
      exact Int.mul_ne_zero hM h E1.symm
    · right; intro z
      have z' : cz la lb la ld * cz la lb lc lb = 0 := z
      rw [z', Int.mul_zero] at E2
      exact Int.mul_ne_zero hM h E2.symm
  exact ⟨nx, p2_prop nx ny hK hM E1 E2⟩
theorem x4_b {p : P2} : br (x4 a b c p) b = p.1 * br c b * br a b := by simp only [br, x4]; grind
theorem x4_a {p : P2} : br a (x4 a b c p) = p.2 * br a c * br a b := by simp only [br, x4]; grind
theorem x4_nz {p : P2} (ab : br a b ≠ 0) (ac : br a c ≠ 0) (cb : br c b ≠ 0) (hp : nz2 p) : nz2 (x4 a b c p) := by
  refine Classical.byContradiction fun hn => ?_
  have z1 : (x4 a b c p).1 = 0 := Classical.byContradiction fun z => hn (.inl z)
  have z2 : (x4 a b c p).2 = 0 := Classical.byContradiction fun z => hn (.inr z)
  have e1 := x4_b (a := a) (b := b) (c := c) (p := p)
  have e2 := x4_a (a := a) (b := b) (c := c) (p := p)
  have y1 : br (x4 a b c p) b = 0 := by unfold br; rw [z1, z2]; grind
  have y2 : br a (x4 a b c p) = 0 := by unfold br; rw [z1, z2]; grind
  rw [y1] at e1
  rw [y2] at e2
  rcases hp with h | h
  · exact Int.mul_ne_zero (Int.mul_ne_zero h cb) ab e1.symm
  · exact Int.mul_ne_zero (Int.mul_ne_zero h ac) ab e2.symm
theorem cr_x4 {p : P2} (ab : br a b ≠ 0) (ac : br a c ≠ 0) (cb : br c b ≠ 0) (hp : PlainL (P2.l p)) : cr a b c (x4 a b c p) = p := by
  refine p2_of (k := 1) (m := br c b * br a b * br a c) (cr_nz ab ac cb (x4_nz ab ac cb (plain2_nz hp))) (by decide) (Int.mul_ne_zero (Int.mul_ne_zero cb ab) ac) ?_ ?_ hp
  · show 1 * (br (x4 a b c p) b * br a c) = _
    rw [x4_b]; grind
  · show 1 * (br a (x4 a b c p) * br c b) = _
    rw [x4_a]; grind
theorem x4_cr {d : P2} (ab : br a b ≠ 0) (ac : br a c ≠ 0) (cb : br c b ≠ 0) (hd : nz2 d) : br (x4 a b c (cr a b c d)) d = 0 := by
  obtain ⟨g, hg, h1, h2⟩ := p2_s (cr_nz ab ac cb hd)
  have h1' : br d b * br a c = g * (cr a b c d).1 := h1
  have h2' : br a d * br c b = g * (cr a b c d).2 := h2
  have e : g * br (x4 a b c (cr a b c d)) d = (g * (cr a b c d).1) * br c b * br a d + (g * (cr a b c d).2) * br a c * br b d := by simp only [br, x4]; grind
  rw [← h1', ← h2'] at e
  have e2 : br b d = -br d b := by simp only [br]; grind
  rw [e2] at e
  have : g * br (x4 a b c (cr a b c d)) d = 0 := by rw [e]; grind
  rcases Int.mul_eq_zero.mp this with z | z
  · exact absurd z hg
  · exact z
theorem x4_10 : br (x4 a b c (1, 0)) a = 0 := by simp only [br, x4]; grind
theorem x4_01 : br (x4 a b c (0, 1)) b = 0 := by simp only [br, x4]; grind
theorem x4_11 : br (x4 a b c (1, 1)) c = 0 := by simp only [br, x4]; grind
theorem plain_10 : PlainL (P2.l (1, 0)) := by constructor <;> decide
theorem plain_01 : PlainL (P2.l (0, 1)) := by constructor <;> decide
theorem plain_11 : PlainL (P2.l (1, 1)) := by constructor <;> decide
theorem cr_a (ab : br a b ≠ 0) (ac : br a c ≠ 0) : cr a b c a = (1, 0) := by
  have z : br a a = 0 := by simp only [br]; grind
  refine p2_of (k := 1) (m := br a b * br a c) (.inl (Int.mul_ne_zero ab ac)) (by decide) (Int.mul_ne_zero ab ac) ?_ ?_ plain_10
  · show 1 * (br a b * br a c) = br a b * br a c * 1
    grind
  · show 1 * (br a a * br c b) = br a b * br a c * 0
    rw [z]; grind
theorem cr_b (ab : br a b ≠ 0) (cb : br c b ≠ 0) : cr a b c b = (0, 1) := by
  have z : br b b = 0 := by simp only [br]; grind
  refine p2_of (k := 1) (m := br a b * br c b) (.inr (Int.mul_ne_zero ab cb)) (by decide) (Int.mul_ne_zero ab cb) ?_ ?_ plain_01
  · show 1 * (br b b * br a c) = br a b * br c b * 0
    rw [z]; grind
  · show 1 * (br a b * br c b) = br a b * br c b * 1
    grind
theorem cr_c (ac : br a c ≠ 0) (cb : br c b ≠ 0) : cr a b c c = (1, 1) := by
  refine p2_of (k := 1) (m := br a c * br c b) (.inr (Int.mul_ne_zero ac cb)) (by decide) (Int.mul_ne_zero ac cb) ?_ ?_ plain_11
  · show 1 * (br c b * br a c) = br a c * br c b * 1
    grind
  · show 1 * (br a c * br c b) = br a c * br c b * 1
    grind
/-- the line of a pair -/
theorem fan_f4 (F : Fan N e a b c la lb lc) {p : P2} (hp : nz2 p) : ad (sm (p.1 * cz la lb lc lb) la) (sm (p.2 * cz la lb la lc) lb) ≠ o3 ∧ Pr (f4 la lb lc p) (mv N (Ln e (x4 a b c p))) := by
  obtain ⟨w, hw, key⟩ := fan_cz F
  obtain ⟨k1, m1, hk1, hm1, h1⟩ := F.pa
  obtain ⟨k2, m2, hk2, hm2, h2⟩ := F.pb
  obtain ⟨k3, m3, hk3, hm3, h3⟩ := F.pc
  have e13 := key a c la lc _ _ _ _ h1 h3
  have e32 := key c b lc lb _ _ _ _ h3 h2
  have hx := x4_nz F.ab F.ac F.cb hp
  have E : sm (k1 * k2 * k3) (ad (sm (p.1 * cz la lb lc lb) la) (sm (p.2 * cz la lb la lc) lb)) = sm (m1 * m2 * m3 * w) (mv N (Ln e (x4 a b c p))) := by
    rw [Ln_x4, mv_ad, mv_sm, mv_sm]
    have g1 : sm (k1 * k2 * k3) (ad (sm (p.1 * cz la lb lc lb) la) (sm (p.2 * cz la lb la lc) lb)) = ad (sm (p.1 * (k3 * k2 * cz la lb lc lb)) (sm k1 la)) (sm (p.2 * (k1 * k3 * cz la lb la lc)) (sm k2 lb)) := by
      ext <;> simp only [sm, ad] <;> grind
    rw [g1, h1, h2, e13, e32]
    ext <;> simp only [sm, ad] <;> grind
  have hK : k1 * k2 * k3 ≠ 0 := Int.mul_ne_zero (Int.mul_ne_zero hk1 hk2) hk3
  have hM : m1 * m2 * m3 * w ≠ 0 := Int.mul_ne_zero (Int.mul_ne_zero (Int.mul_ne_zero hm1 hm2) hm3) hw
  have h0 : ad (sm (p.1 * cz la lb lc lb) la) (sm (p.2 * cz la lb la lc) lb) ≠ o3 := fun z => by
    rw [z] at E
    have : sm (k1 * k2 * k3) o3 = o3 := by ext <;> simp [sm, o3]
    rw [this] at E
    exact sm_ne hM (mv_ne F.hN (Ln_ne F.he hx)) E.symm
  exact ⟨h0, (p3_pr h0).trans ⟨_, _, hK, hM, E⟩⟩
end
/-! lines of a conic, by parameters -/
def ln (k : V6) (p q : V3) : V3 := if p.l = q.l then p3 (mv (tb k) p) else p3 (cross p q)
def nn (M : M3) : M3 := tr (adj M)
theorem det_nn {M : M3} (hM : det M ≠ 0) : det (nn M) ≠ 0 := by unfold nn; rw [det_tr]; exact det_adj_ne hM
section
variable {M : M3} (hM : det M ≠ 0) {e x : P2} (he : nz2 e) (hx : nz2 x)
include hM he
theorem polar_pr : Pr (mv (tb (tc M base)) (pt M e)) (mv (nn M) (Ln e e)) := by
  have h0 : rc (adj M) base ≠ o6 := full_ne (full_rc (det_adj_ne hM) base_full)
  have p1 : Pr (mv (tb (tc M base)) (pt M e)) (mv (tb (rc (adj M) base)) (pt M e)) := by
    refine ⟨sgd (rc (adj M) base).l, 1, sgd_ne (live6.mpr h0), by decide, ?_⟩
    rw [sm_one, ← tb_s6]
    have := p6_s h0
    unfold tc
    rw [← this]
  refine p1.trans (((pt_pr hM he).mv).trans ?_)
  rw [tb_rc, mv_mm, mv_mm, adj_mv, mv_sm, mv_sm]
  refine (Pr.of_sm hM).trans ?_
  have : mv (tb base) (phi e.1 e.2) = sm (-1) (Ln e e) := by ext <;> simp only [mv, tb, base, phi, sm, Ln, dot] <;> grind
  rw [this, mv_sm]
  exact Pr.of_sm (by decide)
include hx
theorem ln_pr : Pr (ln (tc M base) (pt M e) (pt M x)) (mv (nn M) (Ln e x)) := by
  unfold ln
  split
  · rename_i h'
    have h := l_inj h'
    have hb := (pt_eq hM he hx).mp h
    have g : Pr (Ln e x) (Ln e e) := by
      refine par_pr ?_ (Ln_ne he hx) (Ln_ne he he)
      rw [Ln_cross]
      have : br x e = 0 := by have : br x e = -br e x := by (simp only [br]; grind)
                              rw [this, hb]; rfl
      rw [this, sm_zero]
    exact (p3_pr (mv_ne (full_tc hM base_full) (pt_ne hM he))).trans ((polar_pr hM he).trans g.symm.mv)
  · rename_i h'
    have h : pt M e ≠ pt M x := fun z => h' (by rw [z])
    have hb : br e x ≠ 0 := fun z => h ((pt_eq hM he hx).mpr z)
    have h0 : cross (pt M e) (pt M x) ≠ o3 := fun z => h ((par_pr z (pt_ne hM he) (pt_ne hM hx)).eq (pt_plain hM he) (pt_plain hM hx))
    refine (p3_pr h0).trans (((pt_pr hM he).cross2 (pt_pr hM hx)).trans ?_)
    rw [cross_mv, phi_cross, mv_sm]
    exact Pr.of_sm hb
theorem ln_plain : PlainL (ln (tc M base) (pt M e) (pt M x)).l := by
  unfold ln
  split
  · exact p3_plain (mv_ne (full_tc hM base_full) (pt_ne hM he))
  · rename_i h
    exact p3_plain fun z => h <| congrArg V3.l ((par_pr z (pt_ne hM he) (pt_ne hM hx)).eq (pt_plain hM he) (pt_plain hM hx))
/-- the further point of a line through one -/
theorem se_ln {l : V3} (hl : PlainL l.l) (pr : Pr l (mv (nn M) (Ln e x))) : Thru (tc M base) (pt M e) l ∧ se (tc M base) (pt M e) l = pt M x := by
  have d1 : ∀ y : P2, nz2 y → dot (phi y.1 y.2) (Ln e x) = 0 → dot (pt M y) l = 0 := fun y hy h => by
    have : dot (mv M (phi y.1 y.2)) (mv (nn M) (Ln e x)) = det M * dot (phi y.1 y.2) (Ln e x) := by
      rw [dot_mv]
      have e1 : tr (nn M) = adj M := rfl
      rw [e1, adj_mv]
      simp only [dot, sm]; grind
    rw [h, Int.mul_zero] at this
    refine (pt_pr hM hy).symm.dot0 ?_
    rw [dot_comm]
    exact pr.symm.dot0 (by rw [dot_comm]; exact this)
  have t : Thru (tc M base) (pt M e) l := ⟨full_tc hM base_full, pt_ne hM he, pt_on hM he, pl3_ne hl, d1 e he Ln_phi1⟩
  refine ⟨t, ?_⟩
  by_cases h : pt M e = pt M x
  · rw [← h]
    refine (t.se_touch (pt_plain hM he) hl).mpr ?_
    have hb := (pt_eq hM he hx).mp h
    have g : Pr (Ln e x) (Ln e e) := by
      refine par_pr ?_ (Ln_ne he hx) (Ln_ne he he)
      rw [Ln_cross]
      have : br x e = 0 := by have : br x e = -br e x := by (simp only [br]; grind)
                              rw [this, hb]; rfl
      rw [this, sm_zero]
    have hT : mv (tb (tc M base)) (pt M e) ≠ o3 := mv_ne (full_tc hM base_full) (pt_ne hM he)
    exact (pr.trans (g.mv.trans ((polar_pr hM he).symm.trans (p3_pr hT).symm))).eq hl (p3_plain hT)
  · exact t.se_only (pt_plain hM he) (pt_plain hM hx) (pt_on hM hx) (d1 x hx Ln_phi2) fun z => h z.symm
end
/-! turned twice -/
theorem m3_ext {A B : M3} (h : ∀ v, mv A v = mv B v) : A = B := by
  have h1 := h ⟨1, 0, 0⟩
  have h2 := h ⟨0, 1, 0⟩
  have h3 := h ⟨0, 0, 1⟩
  obtain ⟨⟨a1, a2, a3⟩, ⟨b1, b2, b3⟩, ⟨c1, c2, c3⟩⟩ := A
  obtain ⟨⟨d1, d2, d3⟩, ⟨e1, e2, e3⟩, ⟨f1, f2, f3⟩⟩ := B
  simp only [mv, dot, V3.mk.injEq, Int.mul_one, Int.mul_zero, Int.add_zero, Int.zero_add] at h1 h2 h3
  obtain ⟨x1, x2, x3⟩ := h1
  obtain ⟨y1, y2, y3⟩ := h2
  obtain ⟨z1, z2, z3⟩ := h3
  subst x1 x2 x3 y1 y2 y3 z1 z2 z3
  rfl
theorem adj_mm' {A B : M3} : adj (mm A B) = mm (adj B) (adj A) := m3_ext fun v => by rw [adj_mm, mv_mm]
theorem rc_rc {A B : M3} {k : V6} : rc A (rc B k) = rc (mm B A) k := by
  have c : ∀ X Y : M3, (tr (mm X Y)).a = mv X (tr Y).a ∧ (tr (mm X Y)).b = mv X (tr Y).b ∧ (tr (mm X Y)).c = mv X (tr Y).c := fun X Y => ⟨rfl, rfl, rfl⟩
  obtain ⟨c1, c2, c3⟩ := c B A
  unfold rc
  rw [c1, c2, c3]
  exact V6.ext qv_rc qv_rc qv_rc bf_rc bf_rc bf_rc
theorem rc_s6 {A : M3} {m : Int} {k : V6} : rc A (s6 m k) = s6 m (rc A k) := V6.ext qv_s6 qv_s6 qv_s6 bf_s6 bf_s6 bf_s6
theorem tc_tc {V M : M3} {k : V6} (hV : det V ≠ 0) (hM : det M ≠ 0) (hk : det (tb k) ≠ 0) : tc V (tc M k) = tc (mm V M) k := by
  have h0 : rc (adj M) k ≠ o6 := full_ne (full_rc (det_adj_ne hM) hk)
  have h1 : rc (adj V) (p6 (rc (adj M) k)) ≠ o6 := full_ne (full_rc (det_adj_ne hV) (full_tc hM hk))
  show p6 (rc (adj V) (p6 (rc (adj M) k))) = p6 (rc (adj (mm V M)) k)
  rw [← p6_s6 h1 (sgd_ne (live6.mpr h0)), ← rc_s6, ← p6_s h0, rc_rc, adj_mm']
theorem pt_pt {V M : M3} {x : P2} (hV : det V ≠ 0) (hM : det M ≠ 0) (hx : nz2 x) : p3 (mv V (pt M x)) = pt (mm V M) x := by
  unfold pt
  rw [mv_mm]
  exact p3_eq (mv_ne hV (pt_ne hM hx)) ((pt_pr hM hx).mv)
theorem det_mm_ne {V M : M3} (hV : det V ≠ 0) (hM : det M ≠ 0) : det (mm V M) ≠ 0 := by rw [det_mm]; exact Int.mul_ne_zero hV hM
end PyD

set_option Elab.async false
set_option linter.all false
set_option maxRecDepth 100000
set_option maxHeartbeats 4000000
/-! CnT: views that lead one conic into another one, in plain Lean. -/
namespace PyD
def sM (k : Int) (A : M3) : M3 := ⟨sm k A.a, sm k A.b, sm k A.c⟩
def PrM (A B : M3) : Prop := ∃ k m : Int, k ≠ 0 ∧ m ≠ 0 ∧ sM k A = sM m B
def M3.l (A : M3) : List Int := A.a.l ++ A.b.l ++ A.c.l
def i3 : M3 := ⟨⟨1, 0, 0⟩, ⟨0, 1, 0⟩, ⟨0, 0, 1⟩⟩
def pM (A : M3) : M3 := ⟨⟨A.a.x.fdiv (sgd A.l), A.a.y.fdiv (sgd A.l), A.a.z.fdiv (sgd A.l)⟩, ⟨A.b.x.fdiv (sgd A.l), A.b.y.fdiv (sgd A.l), A.b.z.fdiv (sgd A.l)⟩, ⟨A.c.x.fdiv (sgd A.l), A.c.y.fdiv (sgd A.l), A.c.z.fdiv (sgd A.l)⟩⟩
theorem pM_l {A : M3} : (pM A).l = pl A.l := rfl
theorem sM_l {k : Int} {A : M3} : (sM k A).l = A.l.map (k * ·) := rfl
theorem m3_of {A B : M3} (h1 : A.a = B.a) (h2 : A.b = B.b) (h3 : A.c = B.c) : A = B := by
  cases A; cases B; simp only at h1 h2 h3; subst h1 h2 h3; rfl
theorem lM_inj {A B : M3} (h : A.l = B.l) : A = B := by
  simp only [M3.l, V3.l, List.cons_append, List.nil_append, List.cons.injEq, and_true] at h
  obtain ⟨h1, h2, h3, h4, h5, h6, h7, h8, h9⟩ := h
  exact m3_of (V3.ext h1 h2 h3) (V3.ext h4 h5 h6) (V3.ext h7 h8 h9)
theorem sM_mv {k : Int} {A : M3} {v : V3} : mv (sM k A) v = sm k (mv A v) := by ext <;> simp only [mv, sM, sm, dot] <;> grind
theorem sM_mm1 {k : Int} {A B : M3} : mm (sM k A) B = sM k (mm A B) := m3_ext fun v => by rw [mv_mm, sM_mv, sM_mv, mv_mm]
theorem sM_mm2 {k : Int} {A B : M3} : mm A (sM k B) = sM k (mm A B) := m3_ext fun v => by rw [mv_mm, sM_mv, mv_sm, sM_mv, mv_mm]
theorem sM_sM {k m : Int} {A : M3} : sM k (sM m A) = sM (k * m) A := m3_of sm_sm sm_sm sm_sm
theorem sM_one {A : M3} : sM 1 A = A := m3_of sm_one sm_one sm_one
theorem sM_adj {k : Int} {A : M3} : adj (sM k A) = sM (k * k) (adj A) := by
  have h : ∀ u v : V3, cross (sm k u) (sm k v) = sm (k * k) (cross u v) := fun u v => cross_sm
  unfold adj
  simp only [sM, h]
  rfl
theorem mm_assoc {A B C : M3} : mm (mm A B) C = mm A (mm B C) := m3_ext fun v => by rw [mv_mm, mv_mm, mv_mm, mv_mm]
theorem mm_i {A : M3} : mm A i3 = A := m3_ext fun v => by
  rw [mv_mm]
  congr 1
  ext <;> simp [mv, i3, dot]
theorem i_mm {A : M3} : mm i3 A = A := m3_ext fun v => by
  rw [mv_mm]
  ext <;> simp [mv, i3, dot]
theorem mm_adj {A : M3} : mm A (adj A) = sM (det A) i3 := m3_ext fun v => by
  rw [mv_mm, mv_adj, sM_mv]
  congr 1
  ext <;> simp [mv, i3, dot]
theorem adj_mmS {A : M3} : mm (adj A) A = sM (det A) i3 := m3_ext fun v => by
  rw [mv_mm, adj_mv, sM_mv]
  congr 1
  ext <;> simp [mv, i3, dot]
theorem adj_adj {A : M3} : adj (adj A) = sM (det A) A := by
  obtain ⟨⟨a1, a2, a3⟩, ⟨b1, b2, b3⟩, ⟨c1, c2, c3⟩⟩ := A
  refine m3_of ?_ ?_ ?_ <;> ext <;> simp only [adj, tr, cross, sM, sm, det, blk, dot] <;> grind
theorem PrM.refl (A : M3) : PrM A A := ⟨1, 1, by decide, by decide, rfl⟩
theorem PrM.symm {A B : M3} (h : PrM A B) : PrM B A := let ⟨k, m, a, b, e⟩ := h; ⟨m, k, b, a, e.symm⟩
theorem PrM.trans {A B C : M3} (h : PrM A B) (g : PrM B C) : PrM A C := by
  obtain ⟨k, m, a, b, e⟩ := h
  obtain ⟨k', m', a', b', e'⟩ := g
  refine ⟨k' * k, m * m', Int.mul_ne_zero a' a, Int.mul_ne_zero b b', ?_⟩
  rw [← sM_sM, e, sM_sM, Int.mul_comm, ← sM_sM, e', sM_sM]
theorem PrM.of_sM {k : Int} {A : M3} (h : k ≠ 0) : PrM (sM k A) A := ⟨1, k, by decide, h, sM_one⟩
theorem PrM.of_eq {A B : M3} (h : A = B) : PrM A B := h ▸ PrM.refl _
theorem PrM.mm1 {A A' B : M3} (h : PrM A A') : PrM (mm A B) (mm A' B) := by
  obtain ⟨k, m, a, b, e⟩ := h
  exact ⟨k, m, a, b, by rw [← sM_mm1, ← sM_mm1, e]⟩
theorem PrM.mm2 {A B B' : M3} (h : PrM B B') : PrM (mm A B) (mm A B') := by
  obtain ⟨k, m, a, b, e⟩ := h
  exact ⟨k, m, a, b, by rw [← sM_mm2, ← sM_mm2, e]⟩
theorem PrM.adj {A B : M3} (h : PrM A B) : PrM (PyD.adj A) (PyD.adj B) := by
  obtain ⟨k, m, a, b, e⟩ := h
  exact ⟨k * k, m * m, Int.mul_ne_zero a a, Int.mul_ne_zero b b, by rw [← sM_adj, ← sM_adj, e]⟩
theorem PrM.mv {A B : M3} (h : PrM A B) (v : V3) : Pr (PyD.mv A v) (PyD.mv B v) := by
  obtain ⟨k, m, a, b, e⟩ := h
  exact ⟨k, m, a, b, by rw [← sM_mv, ← sM_mv, e]⟩
theorem det_sM {k : Int} {A : M3} : det (sM k A) = k * k * k * det A := by
  simp only [det, blk, sM, cross, sm, dot]; grind
theorem PrM.det {A B : M3} (h : PrM A B) (hA : PyD.det A ≠ 0) : PyD.det B ≠ 0 := by
  obtain ⟨k, m, a, b, e⟩ := h
  have e2 := congrArg PyD.det e
  rw [det_sM, det_sM] at e2
  intro z
  rw [z, Int.mul_zero] at e2
  exact Int.mul_ne_zero (Int.mul_ne_zero (Int.mul_ne_zero a a) a) hA e2
theorem live9 {A : M3} (h : det A ≠ 0) : live A.l ≠ 0 := fun z => by
  have := live_zero z
  have g : ∀ i ∈ A.l, i = 0 := this
  have h1 := g A.a.x (by simp [M3.l, V3.l])
  have h2 := g A.a.y (by simp [M3.l, V3.l])
  have h3 := g A.a.z (by simp [M3.l, V3.l])
  refine h ?_
  simp only [det, blk, dot, h1, h2, h3]
  grind
section
variable {A B : M3} (hA : det A ≠ 0)
include hA
theorem pM_pr : PrM (pM A) A := ⟨sgd A.l, 1, sgd_ne (live9 hA), by decide, lM_inj (by rw [sM_l, pM_l, pl_mul (live9 hA), sM_one])⟩
theorem pM_plain : PlainL (pM A).l := pl_plain (live9 hA)
theorem pM_det : det (pM A) ≠ 0 := (pM_pr hA).symm.det hA
theorem pM_eq (h : PrM A B) : pM A = pM B := by
  have hB := h.det hA
  obtain ⟨k, m, hk, hm, e⟩ := h
  exact lM_inj (pl_prop (live9 hA) (live9 hB) hk hm (by rw [← sM_l, ← sM_l, e]))
omit hA in
theorem pM_id (h : PlainL A.l) : pM A = A := lM_inj (pl_id h)
end
/-! turned by proportional tables -/
theorem rc_sM {k : Int} {A : M3} {q : V6} : rc (sM k A) q = s6 (k * k) (rc A q) := by
  have e1 : (tr (sM k A)).a = sm k (tr A).a := rfl
  have e2 : (tr (sM k A)).b = sm k (tr A).b := rfl
  have e3 : (tr (sM k A)).c = sm k (tr A).c := rfl
  unfold rc
  rw [e1, e2, e3]
  exact V6.ext qv_sm qv_sm qv_sm bf_sm bf_sm bf_sm
theorem tc_prM {A B : M3} {k : V6} (h : PrM A B) (hA : det A ≠ 0) (hk : det (tb k) ≠ 0) : tc A k = tc B k := by
  have hB := h.det hA
  obtain ⟨a, b, ha, hb, e⟩ := h.adj
  have n1 : rc (adj A) k ≠ o6 := full_ne (full_rc (det_adj_ne hA) hk)
  have n2 : rc (adj B) k ≠ o6 := full_ne (full_rc (det_adj_ne hB) hk)
  show p6 (rc (adj A) k) = p6 (rc (adj B) k)
  rw [← p6_s6 n1 (Int.mul_ne_zero ha ha), ← rc_sM, e, rc_sM, p6_s6 n2 (Int.mul_ne_zero hb hb)]
theorem pt_prM {A B : M3} {x : P2} (h : PrM A B) (hA : det A ≠ 0) (hx : nz2 x) : pt A x = pt B x := p3_eq (pt_ne0 hA hx) (h.mv _)
/-! two by two -/
structure G2 where
  p : Int
  q : Int
  r : Int
  s : Int
def G2.ap (g : G2) (x : P2) : P2 := (g.p * x.1 + g.q * x.2, g.r * x.1 + g.s * x.2)
def G2.dt (g : G2) : Int := g.p * g.s - g.q * g.r
def G2.ad (g : G2) : G2 := ⟨g.s, -g.q, -g.r, g.p⟩
def G2.mu (g h : G2) : G2 := ⟨g.p * h.p + g.q * h.r, g.p * h.q + g.q * h.s, g.r * h.p + g.s * h.r, g.r * h.q + g.s * h.s⟩
def Sy (g : G2) : M3 := ⟨⟨g.p * g.p, 2 * (g.p * g.q), g.q * g.q⟩, ⟨g.p * g.r, g.p * g.s + g.q * g.r, g.q * g.s⟩, ⟨g.r * g.r, 2 * (g.r * g.s), g.s * g.s⟩⟩
theorem ap_mu {g h : G2} {x : P2} : (g.mu h).ap x = g.ap (h.ap x) := by
  refine Prod.ext ?_ ?_ <;> simp only [G2.ap, G2.mu] <;> grind
theorem dt_mu {g h : G2} : (g.mu h).dt = g.dt * h.dt := by simp only [G2.dt, G2.mu]; grind
theorem dt_ad {g : G2} : g.ad.dt = g.dt := by simp only [G2.dt, G2.ad]; grind
theorem ad_ad {g : G2} : g.ad.ad = g := by cases g; simp [G2.ad]
theorem ad_mu {g h : G2} : (g.mu h).ad = h.ad.mu g.ad := by
  simp only [G2.ad, G2.mu, G2.mk.injEq]
  refine ⟨?_, ?_, ?_, ?_⟩ <;> grind
theorem br_ap {g : G2} {x y : P2} : br (g.ap x) (g.ap y) = g.dt * br x y := by simp only [br, G2.ap, G2.dt]; grind
theorem Sy_phi {g : G2} {x : P2} : mv (Sy g) (phi x.1 x.2) = phi (g.ap x).1 (g.ap x).2 := by
  ext <;> simp only [mv, Sy, phi, dot, G2.ap] <;> grind
theorem Sy_mu {g h : G2} : Sy (g.mu h) = mm (Sy g) (Sy h) := by
  obtain ⟨p, q, r, s⟩ := g
  obtain ⟨p', q', r', s'⟩ := h
  refine m3_of ?_ ?_ ?_ <;> ext <;> simp only [Sy, G2.mu, mm, tr, dot] <;> grind
theorem Sy_ad {g : G2} : adj (Sy g) = sM g.dt (Sy g.ad) := by
  obtain ⟨p, q, r, s⟩ := g
  refine m3_of ?_ ?_ ?_ <;> ext <;> simp only [Sy, G2.ad, G2.dt, sM, sm, adj, tr, cross] <;> grind
theorem Sy_det {g : G2} : det (Sy g) = g.dt * g.dt * g.dt := by
  simp only [det, blk, cross, dot, Sy, G2.dt]; grind
theorem Sy_det_ne {g : G2} (h : g.dt ≠ 0) : det (Sy g) ≠ 0 := by
  rw [Sy_det]; exact Int.mul_ne_zero (Int.mul_ne_zero h h) h
theorem base_plain : PlainL base.l := by constructor <;> decide
theorem rc_Sy {g : G2} : rc (Sy g) base = s6 (g.dt * g.dt) base := by
  obtain ⟨p, q, r, s⟩ := g
  ext <;> simp only [rc, Sy, base, qv, bf, tb, tr, mv, dot, s6, G2.dt] <;> grind
theorem tc_Sy {g : G2} (h : g.dt ≠ 0) : tc (Sy g) base = base := by
  show p6 (rc (adj (Sy g)) base) = base
  rw [Sy_ad, rc_sM, rc_Sy]
  have hb : base ≠ o6 := full_ne base_full
  have h2 : g.ad.dt ≠ 0 := by rw [dt_ad]; exact h
  have n2 : s6 (g.ad.dt * g.ad.dt) base ≠ o6 := full_ne (by rw [det_s6]; exact Int.mul_ne_zero (Int.mul_ne_zero (Int.mul_ne_zero (Int.mul_ne_zero h2 h2) (Int.mul_ne_zero h2 h2)) (Int.mul_ne_zero h2 h2)) base_full)
  rw [p6_s6 n2 (Int.mul_ne_zero h h), p6_s6 hb (Int.mul_ne_zero h2 h2)]
  exact l6_inj (pl_id base_plain)
/-! frames on a conic -/
def fr (p q r d : V3) : M3 := tr ⟨sm (blk d q r) p, sm (blk p d r) q, sm (blk p q d) r⟩
def pol (k : V6) (p q : V3) : V3 := p3 (mv (adj (tb k)) (p3 (cross p q)))
def Phi (a b : P2) : V3 := ⟨2 * (a.1 * b.1), a.1 * b.2 + a.2 * b.1, 2 * (a.2 * b.2)⟩
def Uo (a b c : P2) : G2 := ⟨br b c * a.1, br c a * b.1, br b c * a.2, br c a * b.2⟩
def f0 : M3 := ⟨⟨-1, 0, 1⟩, ⟨0, 0, 1⟩, ⟨0, -1, 1⟩⟩
theorem f0_det : det f0 ≠ 0 := by decide
theorem blk_sm {k m n : Int} {u v w : V3} : blk (sm k u) (sm m v) (sm n w) = k * m * n * blk u v w := by simp only [blk, dot, cross, sm]; grind
theorem fr_sm {p q r d p' q' r' d' : V3} {k1 k2 k3 k4 m1 m2 m3 m4 : Int} (h1 : sm k1 p = sm m1 p') (h2 : sm k2 q = sm m2 q') (h3 : sm k3 r = sm m3 r') (h4 : sm k4 d = sm m4 d') : sM (k1 * k2 * k3 * k4) (fr p q r d) = sM (m1 * m2 * m3 * m4) (fr p' q' r' d') := by
  have b1 : k4 * k2 * k3 * blk d q r = m4 * m2 * m3 * blk d' q' r' := by rw [← blk_sm, h4, h2, h3, blk_sm]
  have b2 : k1 * k4 * k3 * blk p d r = m1 * m4 * m3 * blk p' d' r' := by rw [← blk_sm, h1, h4, h3, blk_sm]
  have b3 : k1 * k2 * k4 * blk p q d = m1 * m2 * m4 * blk p' q' d' := by rw [← blk_sm, h1, h2, h4, blk_sm]
  have c1 : sm (k1 * k2 * k3 * k4) (sm (blk d q r) p) = sm (m1 * m2 * m3 * m4) (sm (blk d' q' r') p') := by
    have : sm (k1 * k2 * k3 * k4) (sm (blk d q r) p) = sm (k4 * k2 * k3 * blk d q r) (sm k1 p) := by rw [sm_sm, sm_sm]; congr 1; grind
    rw [this, b1, h1, sm_sm, sm_sm]; congr 1; grind
  have c2 : sm (k1 * k2 * k3 * k4) (sm (blk p d r) q) = sm (m1 * m2 * m3 * m4) (sm (blk p' d' r') q') := by
    have : sm (k1 * k2 * k3 * k4) (sm (blk p d r) q) = sm (k1 * k4 * k3 * blk p d r) (sm k2 q) := by rw [sm_sm, sm_sm]; congr 1; grind
    rw [this, b2, h2, sm_sm, sm_sm]; congr 1; grind
  have c3 : sm (k1 * k2 * k3 * k4) (sm (blk p q d) r) = sm (m1 * m2 * m3 * m4) (sm (blk p' q' d') r') := by
    have : sm (k1 * k2 * k3 * k4) (sm (blk p q d) r) = sm (k1 * k2 * k4 * blk p q d) (sm k3 r) := by rw [sm_sm, sm_sm]; congr 1; grind
    rw [this, b3, h3, sm_sm, sm_sm]; congr 1; grind
  have t : ∀ (n : Int) (x y z : V3), sM n (tr ⟨x, y, z⟩) = tr ⟨sm n x, sm n y, sm n z⟩ := fun n x y z => rfl
  unfold fr
  rw [t, t, c1, c2, c3]
theorem blk_mv {M : M3} {u v w : V3} : blk (mv M u) (mv M v) (mv M w) = det M * blk u v w := by
  have := det_mm (A := M) (B := tr ⟨u, v, w⟩)
  rw [det_tr] at this
  have e : det (mm M (tr ⟨u, v, w⟩)) = blk (mv M u) (mv M v) (mv M w) := by
    rw [← det_tr]; rfl
  rw [← e, this]; rfl
theorem fr_mv {M : M3} {p q r d : V3} : fr (mv M p) (mv M q) (mv M r) (mv M d) = sM (det M) (mm M (fr p q r d)) := by
  have t : ∀ x y z : V3, mm M (tr ⟨x, y, z⟩) = tr ⟨mv M x, mv M y, mv M z⟩ := fun x y z => rfl
  have t2 : ∀ (n : Int) (x y z : V3), sM n (tr ⟨x, y, z⟩) = tr ⟨sm n x, sm n y, sm n z⟩ := fun n x y z => rfl
  unfold fr
  rw [blk_mv, blk_mv, blk_mv, t, t2, mv_sm, mv_sm, mv_sm, sm_sm, sm_sm, sm_sm]
theorem blk_phi1 {a b c : P2} : blk (Phi a b) (phi b.1 b.2) (phi c.1 c.2) = br a b * (br b c * br b c) := by simp only [blk, dot, cross, phi, Phi, br]; grind
theorem blk_phi2 {a b c : P2} : blk (phi a.1 a.2) (Phi a b) (phi c.1 c.2) = br a b * (br c a * br c a) := by simp only [blk, dot, cross, phi, Phi, br]; grind
theorem blk_phi3 {a b : P2} : blk (phi a.1 a.2) (phi b.1 b.2) (Phi a b) = -(br a b * (br a b * br a b)) := by simp only [blk, dot, cross, phi, Phi, br]; grind
theorem Uo_c {a b c : P2} : (br b c * a.1 + br c a * b.1 = -br a b * c.1) ∧ (br b c * a.2 + br c a * b.2 = -br a b * c.2) := by constructor <;> simp only [br] <;> grind
theorem fr_phi {a b c : P2} : fr (phi a.1 a.2) (phi b.1 b.2) (phi c.1 c.2) (Phi a b) = sM (-br a b) (mm (Sy (Uo a b c)) f0) := by
  have t2 : ∀ (n : Int) (x y z : V3), sM n (tr ⟨x, y, z⟩) = tr ⟨sm n x, sm n y, sm n z⟩ := fun n x y z => rfl
  have e : mm (Sy (Uo a b c)) f0 = tr ⟨sm (-(br b c * br b c)) (phi a.1 a.2), sm (-(br c a * br c a)) (phi b.1 b.2), sm (br a b * br a b) (phi c.1 c.2)⟩ := by
    have col : ∀ (A : M3) (x y z : V3), mm A (tr ⟨x, y, z⟩) = tr ⟨mv A x, mv A y, mv A z⟩ := fun A x y z => rfl
    have e0 : f0 = tr ⟨⟨-1, 0, 0⟩, ⟨0, 0, -1⟩, phi 1 1⟩ := rfl
    rw [e0, col]
    have g1 : mv (Sy (Uo a b c)) ⟨-1, 0, 0⟩ = sm (-(br b c * br b c)) (phi a.1 a.2) := by
      ext <;> simp only [mv, Sy, Uo, dot, sm, phi] <;> grind
    have g2 : mv (Sy (Uo a b c)) ⟨0, 0, -1⟩ = sm (-(br c a * br c a)) (phi b.1 b.2) := by
      ext <;> simp only [mv, Sy, Uo, dot, sm, phi] <;> grind
    have g3 : mv (Sy (Uo a b c)) (phi 1 1) = sm (br a b * br a b) (phi c.1 c.2) := by
      have := Sy_phi (g := Uo a b c) (x := (1, 1))
      have h : mv (Sy (Uo a b c)) (phi 1 1) = phi ((Uo a b c).ap (1, 1)).1 ((Uo a b c).ap (1, 1)).2 := this
      have u : (Uo a b c).ap (1, 1) = (-br a b * c.1, -br a b * c.2) := by
        obtain ⟨u1, u2⟩ := Uo_c (a := a) (b := b) (c := c)
        refine Prod.ext ?_ ?_
        · show br b c * a.1 * 1 + br c a * b.1 * 1 = _
          rw [Int.mul_one, Int.mul_one, u1]
        · show br b c * a.2 * 1 + br c a * b.2 * 1 = _
          rw [Int.mul_one, Int.mul_one, u2]
      rw [h, u]
      ext <;> simp only [phi, sm] <;> grind
    rw [g1, g2, g3]
  rw [e, t2]
  unfold fr
  rw [blk_phi1, blk_phi2, blk_phi3]
  have z : ∀ (k m : Int) (v : V3), k = m → sm k v = sm m v := fun k m v h => by rw [h]
  congr 1
  rw [sm_sm, sm_sm, sm_sm]
  refine m3_of (z _ _ _ ?_) (z _ _ _ ?_) (z _ _ _ ?_) <;> grind
theorem polar_mv {M : M3} (hM : det M ≠ 0) (v : V3) : Pr (mv (tb (tc M base)) (mv M v)) (mv (nn M) (mv (tb base) v)) := by
  have h0 : rc (adj M) base ≠ o6 := full_ne (full_rc (det_adj_ne hM) base_full)
  have p1 : Pr (mv (tb (tc M base)) (mv M v)) (mv (tb (rc (adj M) base)) (mv M v)) := by
    refine ⟨sgd (rc (adj M) base).l, 1, sgd_ne (live6.mpr h0), by decide, ?_⟩
    rw [sm_one, ← tb_s6]
    have := p6_s h0
    unfold tc
    rw [← this]
  refine p1.trans ?_
  rw [tb_rc, mv_mm, mv_mm, adj_mv, mv_sm, mv_sm]
  exact Pr.of_sm hM
structure Tri (M : M3) (a b c : P2) : Prop where
  hM : det M ≠ 0
  na : nz2 a
  nb : nz2 b
  nc : nz2 c
  ab : br a b ≠ 0
  ac : br a c ≠ 0
  cb : br c b ≠ 0
section
variable {M : M3} {a b c : P2} (A : Tri M a b c)
include A
theorem Tri.bc : br b c ≠ 0 := fun z => A.cb (by have : br c b = -br b c := by (simp only [br]; grind)
                                                 rw [this, z]; rfl)
theorem Tri.ca : br c a ≠ 0 := fun z => A.ac (by have : br a c = -br c a := by (simp only [br]; grind)
                                                 rw [this, z]; rfl)
theorem Tri.cross : cross (pt M a) (pt M b) ≠ o3 := fun z => A.ab ((pt_eq A.hM A.na A.nb).mp ((par_pr z (pt_ne A.hM A.na) (pt_ne A.hM A.nb)).eq (pt_plain A.hM A.na) (pt_plain A.hM A.nb)))
theorem Tri.pole_ne : mv (adj (tb (tc M base))) (p3 (PyD.cross (pt M a) (pt M b))) ≠ o3 := mv_ne (det_adj_ne (full_tc A.hM base_full)) (p3_ne A.cross)
theorem Tri.pole_pr : Pr (pol (tc M base) (pt M a) (pt M b)) (mv M (Phi a b)) := by
  have hk := full_tc A.hM base_full
  have l1 : Pr (p3 (PyD.cross (pt M a) (pt M b))) (mv (nn M) (Ln a b)) := by
    have := ln_pr A.hM A.na A.nb
    unfold ln at this
    rw [if_neg fun z => A.ab ((pt_eq A.hM A.na A.nb).mp (l_inj z))] at this
    exact this
  have l2 : Pr (mv (tb (tc M base)) (mv M (Phi a b))) (mv (nn M) (Ln a b)) := by
    refine (polar_mv A.hM _).trans ?_
    have : mv (tb base) (Phi a b) = sm (-2) (Ln a b) := by ext <;> simp only [mv, tb, base, Phi, sm, Ln, dot] <;> grind
    rw [this, mv_sm]
    exact Pr.of_sm (by decide)
  have l3 := (l2.trans l1.symm).mv (M := adj (tb (tc M base)))
  rw [adj_mv] at l3
  exact (p3_pr A.pole_ne).trans (((Pr.of_sm hk).symm.trans l3).symm)
theorem Tri.fr_pr : PrM (fr (pt M a) (pt M b) (pt M c) (pol (tc M base) (pt M a) (pt M b))) (mm (mm M (Sy (Uo a b c))) f0) := by
  obtain ⟨k1, m1, hk1, hm1, h1⟩ := pt_pr A.hM A.na
  obtain ⟨k2, m2, hk2, hm2, h2⟩ := pt_pr A.hM A.nb
  obtain ⟨k3, m3, hk3, hm3, h3⟩ := pt_pr A.hM A.nc
  obtain ⟨k4, m4, hk4, hm4, h4⟩ := A.pole_pr
  have e := fr_sm h1 h2 h3 h4
  rw [fr_mv, fr_phi, sM_mm2, sM_sM, sM_sM, ← mm_assoc] at e
  have nab : -br a b ≠ 0 := by have := A.ab; omega
  exact ⟨_, _, Int.mul_ne_zero (Int.mul_ne_zero (Int.mul_ne_zero hk1 hk2) hk3) hk4, Int.mul_ne_zero (Int.mul_ne_zero (Int.mul_ne_zero (Int.mul_ne_zero hm1 hm2) hm3) hm4) (Int.mul_ne_zero A.hM nab), by rw [e, Int.mul_assoc]⟩
theorem Tri.dt : (Uo a b c).dt ≠ 0 := by
  have : (Uo a b c).dt = br b c * br c a * br a b := by simp only [G2.dt, Uo, br]; grind
  rw [this]
  exact Int.mul_ne_zero (Int.mul_ne_zero A.bc A.ca) A.ab
end
/-- the view from one to the other, by parameters -/
def vc (M1 M2 : M3) (g : G2) : M3 := mm (mm M2 (Sy g)) (adj M1)
def gO (a b c a' b' c' : P2) : G2 := (Uo a' b' c').mu (Uo a b c).ad
section
variable {M M' : M3} {a b c a' b' c' : P2} (A : Tri M a b c) (A' : Tri M' a' b' c')
include A A'
theorem gO_dt : (gO a b c a' b' c').dt ≠ 0 := by
  unfold gO
  rw [dt_mu, dt_ad]
  exact Int.mul_ne_zero A'.dt A.dt
theorem vc_det' : det (vc M M' (gO a b c a' b' c')) ≠ 0 := by
  unfold vc
  exact det_mm_ne (det_mm_ne A'.hM (Sy_det_ne (gO_dt A A'))) (det_adj_ne A.hM)
theorem vb_pr : PrM (mm (fr (pt M' a') (pt M' b') (pt M' c') (pol (tc M' base) (pt M' a') (pt M' b'))) (adj (fr (pt M a) (pt M b) (pt M c) (pol (tc M base) (pt M a) (pt M b))))) (vc M M' (gO a b c a' b' c')) := by
  refine (A'.fr_pr.mm1).trans ((A.fr_pr.adj.mm2).trans ?_)
  rw [adj_mm' (A := mm M (Sy (Uo a b c))), adj_mm' (A := M), Sy_ad, sM_mm1, sM_mm2, sM_mm2]
  refine (PrM.of_sM A.dt).trans ?_
  rw [← mm_assoc, mm_assoc (B := f0), mm_adj, sM_mm2, mm_i, sM_mm1]
  refine (PrM.of_sM f0_det).trans (PrM.of_eq ?_)
  unfold vc gO
  simp only [Sy_mu, mm_assoc]
theorem vb_eq : pM (mm (fr (pt M' a') (pt M' b') (pt M' c') (pol (tc M' base) (pt M' a') (pt M' b'))) (adj (fr (pt M a) (pt M b) (pt M c) (pol (tc M base) (pt M a) (pt M b))))) = pM (vc M M' (gO a b c a' b' c')) :=
  pM_eq ((vb_pr A A').symm.det (vc_det' A A')) (vb_pr A A')
end
/-! what such a view does -/
section
variable {M M' : M3} {g : G2} (hM : det M ≠ 0) (hM' : det M' ≠ 0) (hg : g.dt ≠ 0)
include hM hM' hg
theorem vc_det : det (vc M M' g) ≠ 0 := det_mm_ne (det_mm_ne hM' (Sy_det_ne hg)) (det_adj_ne hM)
theorem vc_mm : PrM (mm (pM (vc M M' g)) M) (mm M' (Sy g)) := by
  refine ((pM_pr (vc_det hM hM' hg)).mm1).trans ?_
  unfold vc
  rw [mm_assoc, adj_mmS, sM_mm2, mm_i]
  exact PrM.of_sM hM

theorem ap_nz {x : P2} (hx : nz2 x) : nz2 (g.ap x) := by
  refine Classical.byContradiction fun hn => ?_
  have z1 : (g.ap x).1 = 0 := Classical.byContradiction fun z => hn (.inl z)
  have z2 : (g.ap x).2 = 0 := Classical.byContradiction fun z => hn (.inr z)
  have e1 : g.dt * x.1 = g.s * (g.ap x).1 - g.q * (g.ap x).2 := by simp only [G2.dt, G2.ap]; grind
  have e2 : g.dt * x.2 = g.p * (g.ap x).2 - g.r * (g.ap x).1 := by simp only [G2.dt, G2.ap]; grind
  rw [z1, z2, Int.mul_zero, Int.mul_zero] at e1 e2
  rcases hx with h | h
  · exact Int.mul_ne_zero hg h e1
  · exact Int.mul_ne_zero hg h e2
theorem vc_pt {x : P2} (hx : nz2 x) : p3 (mv (pM (vc M M' g)) (pt M x)) = pt M' (g.ap x) := by
  have hT := pM_det (vc_det hM hM' hg)
  rw [pt_pt hT hM hx, pt_prM (vc_mm hM hM' hg) (det_mm_ne hT hM) hx]
  show p3 (mv (mm M' (Sy g)) (phi x.1 x.2)) = _
  rw [mv_mm, Sy_phi]; rfl
theorem vc_tc : tc (pM (vc M M' g)) (tc M base) = tc M' base := by
  have hT := pM_det (vc_det hM hM' hg)
  rw [tc_tc hT hM base_full, tc_prM (vc_mm hM hM' hg) (det_mm_ne hT hM) base_full, ← tc_tc hM' (Sy_det_ne hg) base_full, tc_Sy hg]
theorem vc_back : pM (adj (pM (vc M M' g))) = pM (vc M' M g.ad) := by
  have hT := pM_det (vc_det hM hM' hg)
  refine pM_eq (det_adj_ne hT) (((pM_pr (vc_det hM hM' hg)).adj).trans ?_)
  unfold vc
  rw [adj_mm', adj_mm', adj_adj, Sy_ad, sM_mm1, sM_mm1, sM_mm2]
  refine (PrM.of_sM hM).trans ((PrM.of_sM hg).trans (PrM.of_eq ?_))
  rw [mm_assoc]
end
theorem vc_chain {M M' V : M3} {g : G2} (hM : det M ≠ 0) (hM' : det M' ≠ 0) (hV : det V ≠ 0) (hg : g.dt ≠ 0) : pM (mm (pM (vc M M' g)) (pM (adj V))) = pM (vc (mm V M) M' g) := by
  have hT := pM_det (vc_det hM hM' hg)
  have hA := det_adj_ne hV
  refine pM_eq (det_mm_ne hT (pM_det hA)) (((pM_pr (vc_det hM hM' hg)).mm1).trans (((pM_pr hA).mm2).trans (PrM.of_eq ?_)))
  unfold vc
  rw [adj_mm', mm_assoc]
theorem Sy_self {g : G2} : Sy (g.mu g.ad) = sM (g.dt * g.dt) i3 := by
  obtain ⟨p, q, r, s⟩ := g
  refine m3_of ?_ ?_ ?_ <;> ext <;> simp only [Sy, G2.mu, G2.ad, G2.dt, sM, sm, i3] <;> grind
theorem vc_self {M V : M3} {a b c : P2} (A : Tri M a b c) (hV : det V ≠ 0) (pV : PlainL V.l) : pM (vc M (mm V M) (gO a b c a b c)) = V := by
  have e : PrM (vc M (mm V M) (gO a b c a b c)) V := by
    unfold vc gO
    rw [Sy_self, sM_mm2, mm_i, sM_mm1, mm_assoc, mm_adj, sM_mm2, mm_i]
    exact (PrM.of_sM (Int.mul_ne_zero A.dt A.dt)).trans (PrM.of_sM A.hM)
  rw [pM_eq (e.symm.det hV) e, pM_id pV]
theorem i3_plain : PlainL i3.l := by constructor <;> decide
theorem i3_det : det i3 ≠ 0 := by decide
theorem vc_still {M : M3} {a b c : P2} (A : Tri M a b c) : pM (vc M M (gO a b c a b c)) = i3 := by
  have := vc_self (V := i3) A i3_det i3_plain
  rwa [i_mm] at this
theorem gO_back {a b c a' b' c' : P2} : (gO a b c a' b' c').ad = gO a' b' c' a b c := by
  unfold gO
  rw [ad_mu, ad_ad]
/-! where the three go -/
theorem gO_a {a b c a' b' c' : P2} : (gO a b c a' b' c').ap a = (br c a * br a b * br b' c' * a'.1, br c a * br a b * br b' c' * a'.2) := by
  unfold gO
  rw [ap_mu]
  have : (Uo a b c).ad.ap a = (br c a * br a b, 0) := by refine Prod.ext ?_ ?_ <;> simp only [G2.ap, G2.ad, Uo, br] <;> grind
  rw [this]
  refine Prod.ext ?_ ?_ <;> simp only [G2.ap, Uo] <;> grind
theorem gO_b {a b c a' b' c' : P2} : (gO a b c a' b' c').ap b = (br b c * br a b * br c' a' * b'.1, br b c * br a b * br c' a' * b'.2) := by
  unfold gO
  rw [ap_mu]
  have : (Uo a b c).ad.ap b = (0, br b c * br a b) := by refine Prod.ext ?_ ?_ <;> simp only [G2.ap, G2.ad, Uo, br] <;> grind
  rw [this]
  refine Prod.ext ?_ ?_ <;> simp only [G2.ap, Uo] <;> grind
theorem gO_c {a b c a' b' c' : P2} : (gO a b c a' b' c').ap c = (br c a * br b c * br a' b' * c'.1, br c a * br b c * br a' b' * c'.2) := by
  unfold gO
  rw [ap_mu]
  have : (Uo a b c).ad.ap c = (-(br c a * br b c), -(br c a * br b c)) := by refine Prod.ext ?_ ?_ <;> simp only [G2.ap, G2.ad, Uo, br] <;> grind
  rw [this]
  obtain ⟨u1, u2⟩ := Uo_c (a := a') (b := b') (c := c')
  refine Prod.ext ?_ ?_
  · show br b' c' * a'.1 * -(br c a * br b c) + br c' a' * b'.1 * -(br c a * br b c) = _
    have : br b' c' * a'.1 * -(br c a * br b c) + br c' a' * b'.1 * -(br c a * br b c) = -(br c a * br b c) * (br b' c' * a'.1 + br c' a' * b'.1) := by grind
    rw [this, u1]; grind
  · show br b' c' * a'.2 * -(br c a * br b c) + br c' a' * b'.2 * -(br c a * br b c) = _
    have : br b' c' * a'.2 * -(br c a * br b c) + br c' a' * b'.2 * -(br c a * br b c) = -(br c a * br b c) * (br b' c' * a'.2 + br c' a' * b'.2) := by grind
    rw [this, u2]; grind
theorem br_s1 {k : Int} {x y : P2} : br (k * x.1, k * x.2) y = k * br x y := by simp only [br]; grind
theorem br_s2 {k : Int} {x y : P2} : br x (k * y.1, k * y.2) = k * br x y := by simp only [br]; grind
theorem br_xx {x : P2} : br x x = 0 := by simp only [br]; grind
section
variable {M M' : M3} {a b c a' b' c' : P2} (A : Tri M a b c) (A' : Tri M' a' b' c')
include A A'
theorem go_pt_a : pt M' ((gO a b c a' b' c').ap a) = pt M' a' := (pt_eq A'.hM (ap_nz A.hM A'.hM (gO_dt A A') A.na) A'.na).mpr (by rw [gO_a, br_s1, br_xx, Int.mul_zero])
theorem go_pt_b : pt M' ((gO a b c a' b' c').ap b) = pt M' b' := (pt_eq A'.hM (ap_nz A.hM A'.hM (gO_dt A A') A.nb) A'.nb).mpr (by rw [gO_b, br_s1, br_xx, Int.mul_zero])
theorem go_pt_c : pt M' ((gO a b c a' b' c').ap c) = pt M' c' := (pt_eq A'.hM (ap_nz A.hM A'.hM (gO_dt A A') A.nc) A'.nc).mpr (by rw [gO_c, br_s1, br_xx, Int.mul_zero])
theorem go_cr {x : P2} (hx : nz2 x) : cr a' b' c' ((gO a b c a' b' c').ap x) = cr a b c x := by
  have hg := gO_dt A A'
  have nx := ap_nz A.hM A'.hM hg hx
  have ea := gO_a (a := a) (b := b) (c := c) (a' := a') (b' := b') (c' := c')
  have eb := gO_b (a := a) (b := b) (c := c) (a' := a') (b' := b') (c' := c')
  have ec := gO_c (a := a) (b := b) (c := c) (a' := a') (b' := b') (c' := c')
  have hl : br c a * br a b * br b' c' ≠ 0 := Int.mul_ne_zero (Int.mul_ne_zero A.ca A.ab) A'.bc
  have hm : br b c * br a b * br c' a' ≠ 0 := Int.mul_ne_zero (Int.mul_ne_zero A.bc A.ab) A'.ca
  have hn : br c a * br b c * br a' b' ≠ 0 := Int.mul_ne_zero (Int.mul_ne_zero A.ca A.bc) A'.ab
  generalize hgg : gO a b c a' b' c' = g at *
  generalize br c a * br a b * br b' c' = l at *
  generalize br b c * br a b * br c' a' = m at *
  generalize br c a * br b c * br a' b' = n at *
  have e1 : m * (l * n) * (br (g.ap x) b' * br a' c') = g.dt * g.dt * (br x b * br a c) := by
    have h1 : m * br (g.ap x) b' = g.dt * br x b := by rw [← br_s2, ← eb, br_ap]
    have h2 : l * n * br a' c' = g.dt * br a c := by
      rw [← br_ap, ea, ec, br_s1, br_s2]; grind
    have : m * (l * n) * (br (g.ap x) b' * br a' c') = (m * br (g.ap x) b') * (l * n * br a' c') := by grind
    rw [this, h1, h2]; grind
  have e2 : m * (l * n) * (br a' (g.ap x) * br c' b') = g.dt * g.dt * (br a x * br c b) := by
    have h1 : l * br a' (g.ap x) = g.dt * br a x := by rw [← br_s1, ← ea, br_ap]
    have h2 : n * m * br c' b' = g.dt * br c b := by
      rw [← br_ap, ec, eb, br_s1, br_s2]; grind
    have : m * (l * n) * (br a' (g.ap x) * br c' b') = (l * br a' (g.ap x)) * (n * m * br c' b') := by grind
    rw [this, h1, h2]; grind
  exact p2_prop (cr_nz A'.ab A'.ac A'.cb nx) (cr_nz A.ab A.ac A.cb hx) (Int.mul_ne_zero hm (Int.mul_ne_zero hl hn)) (Int.mul_ne_zero hg hg) e1 e2
end
end PyD

set_option Elab.async false
set_option linter.all false
set_option maxRecDepth 100000
set_option maxHeartbeats 4000000
/-! CnI: pencils of conics, the last common point, in plain Lean. -/
namespace PyD
def c6 (u v : Int) (k o : V6) : V6 := ⟨u * k.a + v * o.a, u * k.b + v * o.b, u * k.c + v * o.c, u * k.d + v * o.d, u * k.e + v * o.e, u * k.f + v * o.f⟩
def lns (l m : V3) : V6 := ⟨l.x * m.x, l.y * m.y, l.z * m.z, l.y * m.z + l.z * m.y, l.x * m.z + l.z * m.x, l.x * m.y + l.y * m.x⟩
theorem qv_c6 {u v : Int} {k o : V6} {p : V3} : qv (c6 u v k o) p = u * qv k p + v * qv o p := by simp only [qv, c6]; grind
theorem bf_c6 {u v : Int} {k o : V6} {p q : V3} : bf (c6 u v k o) p q = u * bf k p q + v * bf o p q := by simp only [bf, tb, mv, dot, c6]; grind
theorem qv_lns {l m p : V3} : qv (lns l m) p = dot l p * dot m p := by simp only [qv, lns, dot]; grind
theorem bf_lns {l m p q : V3} : bf (lns l m) p q = dot l p * dot m q + dot l q * dot m p := by simp only [bf, tb, mv, lns, dot]; grind
theorem v6_ext {s t : V6} (h : ∀ x, qv s x = qv t x) : s = t := by
  have h1 := h ⟨1, 0, 0⟩
  have h2 := h ⟨0, 1, 0⟩
  have h3 := h ⟨0, 0, 1⟩
  have h4 := h ⟨0, 1, 1⟩
  have h5 := h ⟨1, 0, 1⟩
  have h6 := h ⟨1, 1, 0⟩
  simp only [qv, Int.mul_one, Int.mul_zero, Int.add_zero, Int.zero_add] at h1 h2 h3 h4 h5 h6
  ext <;> omega
theorem plain6_ne {k : V6} (h : PlainL k.l) : k ≠ o6 := live6.mp (plain_ne h)
/-- two plain conics, proportional: one -/
theorem plain6_eq {k o : V6} {u v : Int} (hk : PlainL k.l) (ho : PlainL o.l) (hu : u ≠ 0) (hv : v ≠ 0) (h : s6 u k = s6 v o) : k = o :=
  l6_inj (plain_prop hu hv hk ho (by rw [← s6_l, ← s6_l, h]))
section
variable {k o : V6} (hk : PlainL k.l) (ho : PlainL o.l) (hn : k ≠ o)
include hk ho hn
theorem c6_ne {u v : Int} (h : u ≠ 0 ∨ v ≠ 0) : c6 u v k o ≠ o6 := fun z => by
  have e : s6 u k = s6 (-v) o := by
    have h1 := congrArg V6.a z
    have h2 := congrArg V6.b z
    have h3 := congrArg V6.c z
    have h4 := congrArg V6.d z
    have h5 := congrArg V6.e z
    have h6 := congrArg V6.f z
    simp only [c6, o6] at h1 h2 h3 h4 h5 h6
    ext <;> simp only [s6] <;> grind
  by_cases hu : u = 0
  · have hv : v ≠ 0 := h.elim (fun y => absurd hu y) id
    have e2 : s6 (-v) o = o6 := by rw [← e, hu]; ext <;> simp [s6, o6]
    have hv' : -v ≠ 0 := by omega
    have := live_mul hv' o.l
    rw [← s6_l, e2] at this
    exact Int.mul_ne_zero hv' (plain_ne ho) this.symm
  · by_cases hv : v = 0
    · have e2 : s6 u k = o6 := by rw [e, hv]; ext <;> simp [s6, o6]
      have := live_mul hu k.l
      rw [← s6_l, e2] at this
      exact Int.mul_ne_zero hu (plain_ne hk) this.symm
    · exact hn (plain6_eq hk ho hu (by omega) e)
end
/-- the curve of the pencil through a point -/
def pen (k o : V6) (p : V3) : V6 := p6 (c6 (qv o p) (-(qv k p)) k o)
section
variable {k o : V6} (hk : PlainL k.l) (ho : PlainL o.l) (hn : k ≠ o) {p : V3} (hp : qv k p ≠ 0 ∨ qv o p ≠ 0)
include hk ho hn hp
theorem pen_ne : c6 (qv o p) (-(qv k p)) k o ≠ o6 := c6_ne hk ho hn (hp.elim (fun h => .inr (by omega)) .inl)
theorem pen_s : ∃ g : Int, g ≠ 0 ∧ c6 (qv o p) (-(qv k p)) k o = s6 g (pen k o p) := ⟨_, sgd_ne (live6.mpr (pen_ne hk ho hn hp)), p6_s (pen_ne hk ho hn hp)⟩
theorem pen_plain : PlainL (pen k o p).l := p6_plain (pen_ne hk ho hn hp)
theorem pen_on : qv (pen k o p) p = 0 := by
  rw [pen, qv_p6 (pen_ne hk ho hn hp), qv_c6]
  grind
theorem pen_k : pen k o p = k ↔ qv k p = 0 := by
  obtain ⟨g, hg, e⟩ := pen_s hk ho hn hp
  constructor
  · intro h
    refine Classical.byContradiction fun h1 => ?_
    rw [h] at e
    have e2 : s6 (qv o p - g) k = s6 (qv k p) o := by
      have h1 := congrArg V6.a e
      have h2 := congrArg V6.b e
      have h3 := congrArg V6.c e
      have h4 := congrArg V6.d e
      have h5 := congrArg V6.e e
      have h6 := congrArg V6.f e
      simp only [c6, s6] at h1 h2 h3 h4 h5 h6
      ext <;> simp only [s6] <;> grind
    by_cases hz : qv o p - g = 0
    · have e3 : s6 (qv k p) o = o6 := by rw [← e2, hz]; ext <;> simp [s6, o6]
      have := live_mul h1 o.l
      rw [← s6_l, e3] at this
      exact Int.mul_ne_zero h1 (plain_ne ho) this.symm
    · exact hn (plain6_eq hk ho hz h1 e2)
  · intro h
    have ho' : qv o p ≠ 0 := hp.elim (fun y => absurd h y) id
    rw [pen, h]
    have : c6 (qv o p) (-0) k o = s6 (qv o p) k := by ext <;> simp [c6, s6]
    rw [this, p6_s6 (plain6_ne hk) ho']
    exact l6_inj (pl_id hk)
theorem pen_o : pen k o p = o ↔ qv o p = 0 := by
  obtain ⟨g, hg, e⟩ := pen_s hk ho hn hp
  constructor
  · intro h
    refine Classical.byContradiction fun h1 => ?_
    rw [h] at e
    have e2 : s6 (qv o p) k = s6 (g + qv k p) o := by
      have h1 := congrArg V6.a e
      have h2 := congrArg V6.b e
      have h3 := congrArg V6.c e
      have h4 := congrArg V6.d e
      have h5 := congrArg V6.e e
      have h6 := congrArg V6.f e
      simp only [c6, s6] at h1 h2 h3 h4 h5 h6
      ext <;> simp only [s6] <;> grind
    by_cases hz : g + qv k p = 0
    · have e3 : s6 (qv o p) k = o6 := by rw [e2, hz]; ext <;> simp [s6, o6]
      have := live_mul h1 k.l
      rw [← s6_l, e3] at this
      exact Int.mul_ne_zero h1 (plain_ne hk) this.symm
    · exact hn (plain6_eq hk ho h1 hz e2)
  · intro h
    have hk' : qv k p ≠ 0 := hp.elim id (fun y => absurd h y)
    rw [pen, h]
    have : c6 0 (-(qv k p)) k o = s6 (-(qv k p)) o := by ext <;> simp [c6, s6]
    rw [this, p6_s6 (plain6_ne ho) (by omega)]
    exact l6_inj (pl_id ho)
end
/-! the other line of a conic that holds a line -/
def oln (s : V6) (l : V3) : V3 :=
  if l.x ≠ 0 then p3 ⟨s.a * l.x, s.f * l.x - l.y * s.a, s.e * l.x - l.z * s.a⟩
  else if l.y ≠ 0 then p3 ⟨s.f * l.y - l.x * s.b, s.b * l.y, s.d * l.y - l.z * s.b⟩
  else p3 ⟨s.e * l.z - l.x * s.c, s.d * l.z - l.y * s.c, s.c * l.z⟩
theorem p3_of {R m : V3} {K L : Int} (hK : K ≠ 0) (hL : L ≠ 0) (hm : m ≠ o3) (e : sm K R = sm L m) : R ≠ o3 ∧ p3 R = p3 m := by
  have hR : R ≠ o3 := fun z => by
    rw [z] at e
    have : sm K o3 = o3 := by ext <;> simp [sm, o3]
    rw [this] at e
    exact sm_ne hL hm e.symm
  exact ⟨hR, p3_eq hR ⟨K, L, hK, hL, e⟩⟩
theorem oln_eq {s : V6} {l m : V3} {K L : Int} (hl : l ≠ o3) (hm : m ≠ o3) (hK : K ≠ 0) (hL : L ≠ 0) (h : s6 K s = s6 L (lns l m)) : oln s l = p3 m := by
  have h1 := congrArg V6.a h
  have h2 := congrArg V6.b h
  have h3 := congrArg V6.c h
  have h4 := congrArg V6.d h
  have h5 := congrArg V6.e h
  have h6 := congrArg V6.f h
  simp only [s6, lns] at h1 h2 h3 h4 h5 h6
  unfold oln
  by_cases hx : l.x = 0
  · rw [if_neg (fun z => z hx)]
    by_cases hy : l.y = 0
    · rw [if_neg (fun z => z hy)]
      have hz : l.z ≠ 0 := by
        rcases ne3.mp hl with z | z | z
        · exact absurd hx z
        · exact absurd hy z
        · exact z
      refine (p3_of (L := L * (l.z * l.z)) hK (Int.mul_ne_zero hL (Int.mul_ne_zero hz hz)) hm ?_).2
      ext <;> simp only [sm] <;> grind
    · rw [if_pos hy]
      refine (p3_of (L := L * (l.y * l.y)) hK (Int.mul_ne_zero hL (Int.mul_ne_zero hy hy)) hm ?_).2
      ext <;> simp only [sm] <;> grind
  · rw [if_pos hx]
    refine (p3_of (L := L * (l.x * l.x)) hK (Int.mul_ne_zero hL (Int.mul_ne_zero hx hx)) hm ?_).2
    ext <;> simp only [sm] <;> grind
/-! a conic through three points that holds the line of two of them -/
def tri3 (α β γ : Int) (p q r : V3) : V3 := ad (ad (sm α p) (sm β q)) (sm γ r)
theorem qv_tri {k : V6} {α β γ : Int} {p q r : V3} : qv k (tri3 α β γ p q r) = α * α * qv k p + β * β * qv k q + γ * γ * qv k r + α * β * bf k p q + α * γ * bf k p r + β * γ * bf k q r := by
  simp only [qv, bf, tb, mv, dot, tri3, ad, sm]; grind
theorem cramer {p q r x : V3} : sm (blk p q r) x = tri3 (dot x (cross q r)) (dot x (cross r p)) (dot x (cross p q)) p q r := by
  ext <;> simp only [sm, blk, dot, cross, tri3, ad] <;> grind
def mln (s : V6) (p q r : V3) : V3 := ad (sm (bf s p r) (cross q r)) (sm (bf s q r) (cross r p))
theorem split_lns {s : V6} {p q r : V3} (h1 : qv s p = 0) (h2 : qv s q = 0) (h3 : qv s r = 0) (h12 : bf s p q = 0) : s6 (blk p q r * blk p q r) s = lns (cross p q) (mln s p q r) := by
  refine v6_ext fun x => ?_
  rw [qv_s6, ← qv_sm, cramer, qv_tri, h1, h2, h3, h12, qv_lns]
  have e : dot (mln s p q r) x = bf s p r * dot x (cross q r) + bf s q r * dot x (cross r p) := by
    simp only [mln, dot, ad, sm, cross]; grind
  have e2 : dot (cross p q) x = dot x (cross p q) := dot_comm
  rw [e, e2]
  generalize dot x (cross q r) = A
  generalize dot x (cross r p) = Bb
  generalize dot x (cross p q) = C
  generalize bf s p r = u
  generalize bf s q r = v
  grind
/-! the last common point -/
structure Com (k o : V6) (a b c d : V3) : Prop where
  pk : PlainL k.l
  po : PlainL o.l
  hk : det (tb k) ≠ 0
  ho : det (tb o) ≠ 0
  ne : k ≠ o
  pa : PlainL a.l
  pb : PlainL b.l
  pc : PlainL c.l
  pd : PlainL d.l
  ka : qv k a = 0
  kb : qv k b = 0
  kc : qv k c = 0
  kd : qv k d = 0
  oa : qv o a = 0
  ob : qv o b = 0
  oc : qv o c = 0
  od : qv o d = 0
  ab : a ≠ b
  ac : a ≠ c
  bc : b ≠ c
  lst : (d ≠ a ∧ d ≠ b ∧ d ≠ c) ∨ ((d = a ∨ d = b ∨ d = c) ∧ Pr (mv (tb k) d) (mv (tb o) d))
theorem Com.swap {k o : V6} {a b c d : V3} (C : Com k o a b c d) : Com o k a b c d :=
  ⟨C.po, C.pk, C.ho, C.hk, fun z => C.ne z.symm, C.pa, C.pb, C.pc, C.pd, C.oa, C.ob, C.oc, C.od, C.ka, C.kb, C.kc, C.kd, C.ab, C.ac, C.bc, C.lst.imp id fun ⟨h, p⟩ => ⟨h, p.symm⟩⟩
theorem Com.rev {k o : V6} {a b c d : V3} (C : Com k o a b c d) : Com k o c b a d :=
  ⟨C.pk, C.po, C.hk, C.ho, C.ne, C.pc, C.pb, C.pa, C.pd, C.kc, C.kb, C.ka, C.kd, C.oc, C.ob, C.oa, C.od, fun z => C.bc z.symm, fun z => C.ac z.symm, fun z => C.ab z.symm,
    C.lst.imp (fun ⟨h1, h2, h3⟩ => ⟨h3, h2, h1⟩) fun ⟨h, p⟩ => ⟨h.elim (fun z => .inr (.inr z)) fun h => h.elim (fun z => .inr (.inl z)) .inl, p⟩⟩
/-- three points of a full conic are in no line -/
theorem no_three {k : V6} {a b c : V3} (hk : det (tb k) ≠ 0) (pa : PlainL a.l) (pb : PlainL b.l) (pc : PlainL c.l) (ka : qv k a = 0) (kb : qv k b = 0) (kc : qv k c = 0) (ab : a ≠ b) (ac : a ≠ c) (bc : b ≠ c) : blk a b c ≠ 0 := fun z => by
  obtain ⟨h0, t, hb⟩ := line_thru hk pa pb ka (fun y => ab y.symm)
  have e1 := t.se_only pa pb kb hb (fun y => ab y.symm)
  have hc : dot c (p3 (cross a b)) = 0 := by
    rw [dot_comm]
    refine (p3_pr h0).symm.dot0 ?_
    have : dot (cross a b) c = blk a b c := by simp only [blk, dot, cross]; grind
    rw [this, z]
  have e2 := t.se_only pa pc kc hc (fun y => ac y.symm)
  exact bc (e1.symm.trans e2)
theorem bf_ne {k : V6} {a b : V3} (hk : det (tb k) ≠ 0) (pa : PlainL a.l) (pb : PlainL b.l) (ka : qv k a = 0) (kb : qv k b = 0) (ab : a ≠ b) : bf k a b ≠ 0 := fun z =>
  ab ((par_pr (no_line hk ka kb z) (pl3_ne pa) (pl3_ne pb)).eq pa pb)
theorem vec_of {u v : V3} {K L : Int} (h : ∀ x, K * dot u x = L * dot v x) : sm K u = sm L v := by
  have h1 := h ⟨1, 0, 0⟩
  have h2 := h ⟨0, 1, 0⟩
  have h3 := h ⟨0, 0, 1⟩
  simp only [dot, Int.mul_one, Int.mul_zero, Int.add_zero, Int.zero_add] at h1 h2 h3
  exact V3.ext h1 h2 h3
section
variable {k o : V6} {a b c d : V3} (C : Com k o a b c d)
include C
theorem Com.e_ne : ad a b ≠ o3 := fun z => bf_ne C.hk C.pa C.pb C.ka C.kb C.ab (by
  have := qv_add (k := k) (p := a) (q := b)
  rw [z, C.ka, C.kb] at this
  have z0 : qv k o3 = 0 := by simp [qv, o3]
  rw [← this, z0]; rfl)
theorem Com.e_off : qv k (p3 (ad a b)) ≠ 0 := fun z => bf_ne C.hk C.pa C.pb C.ka C.kb C.ab (by
  have h := (p3_pr C.e_ne).qv0 z
  have := qv_add (k := k) (p := a) (q := b)
  rw [h, C.ka, C.kb] at this
  rw [← this]; rfl)
/-- the split curve, not made plain -/
def spl (k o : V6) (a b : V3) : V6 := c6 (qv o (p3 (ad a b))) (-(qv k (p3 (ad a b)))) k o
theorem Com.sn : spl k o a b ≠ o6 := pen_ne C.pk C.po C.ne (.inl C.e_off)
theorem Com.s0 {x : V3} (h1 : qv k x = 0) (h2 : qv o x = 0) : qv (spl k o a b) x = 0 := by
  unfold spl
  rw [qv_c6, h1, h2]; grind
theorem Com.s12 : bf (spl k o a b) a b = 0 := by
  have h : qv (spl k o a b) (p3 (ad a b)) = 0 := by unfold spl; rw [qv_c6]; grind
  have h2 := (p3_pr C.e_ne).qv0 h
  have := qv_add (k := spl k o a b) (p := a) (q := b)
  rw [h2, C.s0 C.ka C.oa, C.s0 C.kb C.ob] at this
  rw [← this]; rfl
theorem Com.D : blk a b c ≠ 0 := no_three C.hk C.pa C.pb C.pc C.ka C.kb C.kc C.ab C.ac C.bc
theorem Com.lns : s6 (blk a b c * blk a b c) (spl k o a b) = PyD.lns (cross a b) (mln (spl k o a b) a b c) :=
  split_lns (C.s0 C.ka C.oa) (C.s0 C.kb C.ob) (C.s0 C.kc C.oc) C.s12
theorem Com.m_ne : mln (spl k o a b) a b c ≠ o3 := fun z => by
  have h := C.lns
  rw [z] at h
  have e : PyD.lns (cross a b) o3 = o6 := by ext <;> simp [PyD.lns, o3, o6]
  rw [e] at h
  have hD := Int.mul_ne_zero C.D C.D
  have := live_mul hD (spl k o a b).l
  rw [← s6_l, h] at this
  exact Int.mul_ne_zero hD (live6.mpr C.sn) this.symm
theorem Com.l_ne : cross a b ≠ o3 := fun z => C.D (by
  have : dot (cross a b) c = blk a b c := by simp only [blk, dot, cross]; grind
  rw [← this, z]; simp [dot, o3])
theorem Com.oln : oln (pen k o (p3 (ad a b))) (p3 (cross a b)) = p3 (mln (spl k o a b) a b c) := by
  obtain ⟨g, hg, e⟩ := pen_s C.pk C.po C.ne (.inl C.e_off)
  obtain ⟨u, v, hu, hv, e2⟩ := p3_pr C.l_ne
  have e' : spl k o a b = s6 g (pen k o (p3 (ad a b))) := e
  have h := C.lns
  rw [e'] at h
  have hD := Int.mul_ne_zero C.D C.D
  refine oln_eq (K := v * (blk a b c * blk a b c * g)) (L := u) (p3_ne C.l_ne) C.m_ne (Int.mul_ne_zero hv (Int.mul_ne_zero hD hg)) hu ?_
  rw [← e'] at h
  have h2 : ∀ m : V3, s6 u (PyD.lns (p3 (cross a b)) m) = s6 v (PyD.lns (cross a b) m) := fun m => by
    have x1 := congrArg V3.x e2
    have x2 := congrArg V3.y e2
    have x3 := congrArg V3.z e2
    simp only [sm] at x1 x2 x3
    ext <;> simp only [s6, PyD.lns] <;> grind
  rw [h2, ← h]
  have h3 : s6 (v * (blk a b c * blk a b c * g)) (pen k o (p3 (ad a b))) = s6 v (s6 (blk a b c * blk a b c) (s6 g (pen k o (p3 (ad a b))))) := by
    ext <;> simp only [s6] <;> grind
  rw [h3, ← e']
theorem Com.m_c : dot c (mln (spl k o a b) a b c) = 0 := by simp only [mln, dot, ad, sm, cross]; grind
theorem Com.m_v {x : V3} (h1 : qv k x = 0) (h2 : qv o x = 0) (hl : dot (cross a b) x ≠ 0) : dot x (mln (spl k o a b) a b c) = 0 := by
  have h := congrArg (fun s => qv s x) C.lns
  simp only [qv_s6, qv_lns] at h
  rw [C.s0 h1 h2, Int.mul_zero] at h
  rcases Int.mul_eq_zero.mp h.symm with z | z
  · exact absurd z hl
  · rw [dot_comm]; exact z
/-- what the touching lines' likeness says of the split curve -/
theorem Com.touch (hp : Pr (mv (tb k) d) (mv (tb o) d)) : ∃ u w : Int, u ≠ 0 ∧ ∀ x, u * bf (spl k o a b) d x = w * dot (mv (tb k) d) x := by
  obtain ⟨u, v, hu, hv, e⟩ := hp
  have hb : ∀ (q : V6) (x : V3), bf q d x = dot (mv (tb q) d) x := fun q x => by rw [bf_comm]; exact dot_comm
  refine ⟨v, v * qv o (p3 (ad a b)) - u * qv k (p3 (ad a b)), hv, fun x => ?_⟩
  have e2 : v * dot (mv (tb o) d) x = u * dot (mv (tb k) d) x := by
    have := congrArg (fun z => dot z x) e
    simp only [sm, dot] at this ⊢
    grind
  unfold spl
  rw [bf_c6, hb, hb]
  generalize dot (mv (tb o) d) x = A at *
  generalize dot (mv (tb k) d) x = Bb at *
  generalize qv o (p3 (ad a b)) = s at *
  generalize qv k (p3 (ad a b)) = t at *
  have : v * (s * Bb + -t * A) = v * s * Bb - t * (v * A) := by grind
  rw [this, e2]; grind
theorem Com.last : Thru k c (PyD.oln (pen k o (p3 (ad a b))) (p3 (cross a b))) ∧ se k c (PyD.oln (pen k o (p3 (ad a b))) (p3 (cross a b))) = d := by
  rw [C.oln]
  have hm := C.m_ne
  have pr := p3_pr hm
  have pm := p3_plain hm
  have thr : ∀ x, dot x (mln (spl k o a b) a b c) = 0 → dot x (p3 (mln (spl k o a b) a b c)) = 0 := fun x hx => by
    rw [dot_comm]; exact pr.symm.dot0 (by rw [dot_comm]; exact hx)
  have t : Thru k c (p3 (mln (spl k o a b) a b c)) := ⟨C.hk, pl3_ne C.pc, C.kc, p3_ne hm, thr c C.m_c⟩
  refine ⟨t, ?_⟩
  have lc : dot (cross a b) c = blk a b c := by simp only [blk, dot, cross]; grind
  have bl : ∀ x y, blk a b c * blk a b c * bf (spl k o a b) x y = dot (cross a b) x * dot (mln (spl k o a b) a b c) y + dot (cross a b) y * dot (mln (spl k o a b) a b c) x := fun x y => by
    have h := congrArg (fun s => bf s x y) C.lns
    simp only [bf_s6, bf_lns] at h
    exact h
  rcases C.lst with ⟨da, db, dc⟩ | ⟨hd, hp⟩
  · refine t.se_only C.pc C.pd C.kd (thr d (C.m_v C.kd C.od ?_)) dc
    have := no_three C.hk C.pa C.pb C.pd C.ka C.kb C.kd C.ab (fun z => da z.symm) (fun z => db z.symm)
    have e : dot (cross a b) d = blk a b d := by simp only [blk, dot, cross]; grind
    rw [e]; exact this
  · obtain ⟨u, w, hu, hx⟩ := C.touch hp
    have hT : mv (tb k) d ≠ o3 := mv_ne C.hk (pl3_ne C.pd)
    -- d on the line of a and b: then m goes through d
    have side : ∀ {x y : V3}, dot (cross a b) x = 0 → dot (cross a b) y = 0 → d = x → PlainL x.l → PlainL y.l → qv k x = 0 → qv k y = 0 → x ≠ y → dot x (mln (spl k o a b) a b c) = 0 := fun {x y} lx ly ex px py kx ky hxy => by
      subst ex
      refine Classical.byContradiction fun hm0 => ?_
      have e : sm (u * dot (mln (spl k o a b) a b c) d) (cross a b) = sm (blk a b c * blk a b c * w) (mv (tb k) d) := vec_of fun z => by
        have h1 := bl d z
        rw [lx, Int.zero_mul, Int.zero_add] at h1
        have h2 := hx z
        have : u * dot (mln (spl k o a b) a b c) d * dot (cross a b) z = u * (dot (cross a b) z * dot (mln (spl k o a b) a b c) d) := by grind
        rw [this, ← h1]
        have : u * (blk a b c * blk a b c * bf (spl k o a b) d z) = blk a b c * blk a b c * (u * bf (spl k o a b) d z) := by grind
        rw [this, h2]; grind
      have hl0 : u * dot (mln (spl k o a b) a b c) d ≠ 0 := Int.mul_ne_zero hu (by rw [dot_comm]; exact hm0)
      have hw : blk a b c * blk a b c * w ≠ 0 := fun z => by
        rw [z, sm_zero] at e
        exact sm_ne hl0 C.l_ne e
      have : Pr (cross a b) (mv (tb k) d) := ⟨_, _, hl0, hw, e⟩
      have hy := this.dot0 ly
      exact bf_ne C.hk py px ky kx (fun z => hxy z.symm) (by show dot y (mv (tb k) d) = 0; rw [dot_comm]; exact hy)
    have la : dot (cross a b) a = 0 := by rw [dot_comm]; exact dot_cross1
    have lb : dot (cross a b) b = 0 := by rw [dot_comm]; exact dot_cross2
    rcases hd with e | e | e
    · have := side la lb e C.pa C.pb C.ka C.kb C.ab
      rw [e]
      exact t.se_only C.pc C.pa C.ka (thr a this) C.ac
    · have := side lb la e C.pb C.pa C.kb C.ka (fun z => C.ab z.symm)
      rw [e]
      exact t.se_only C.pc C.pb C.kb (thr b this) C.bc
    · rw [e] at hx hT ⊢
      refine (t.se_touch C.pc pm).mpr (p3_eq hm ?_)
      have e2 : sm (u * blk a b c) (mln (spl k o a b) a b c) = sm (blk a b c * blk a b c * w) (mv (tb k) c) := vec_of fun z => by
        have h1 := bl c z
        have mc : dot (mln (spl k o a b) a b c) c = 0 := by rw [dot_comm]; exact C.m_c
        rw [lc, mc, Int.mul_zero, Int.add_zero] at h1
        have h2 := hx z
        have : u * blk a b c * dot (mln (spl k o a b) a b c) z = u * (blk a b c * dot (mln (spl k o a b) a b c) z) := by grind
        rw [this, ← h1]
        have : u * (blk a b c * blk a b c * bf (spl k o a b) c z) = blk a b c * blk a b c * (u * bf (spl k o a b) c z) := by grind
        rw [this, h2]; grind
      have hl0 : u * blk a b c ≠ 0 := Int.mul_ne_zero hu C.D
      have hw : blk a b c * blk a b c * w ≠ 0 := fun z => by
        rw [z, sm_zero] at e2
        exact sm_ne hl0 hm e2
      exact ⟨_, _, hl0, hw, e2⟩
end
/-- like touching lines at one of the three: it is the last one -/
theorem Com.only {k o : V6} {a b c d p : V3} (C : Com k o a b c d) (hp : p = a ∨ p = b ∨ p = c) (h : Pr (mv (tb k) p) (mv (tb o) p)) : p = d := by
  have pp : PlainL p.l ∧ qv k p = 0 ∧ qv o p = 0 := by
    rcases hp with rfl | rfl | rfl
    · exact ⟨C.pa, C.ka, C.oa⟩
    · exact ⟨C.pb, C.kb, C.ob⟩
    · exact ⟨C.pc, C.kc, C.oc⟩
  have C2 : Com k o a b c p := ⟨C.pk, C.po, C.hk, C.ho, C.ne, C.pa, C.pb, C.pc, pp.1, C.ka, C.kb, C.kc, pp.2.1, C.oa, C.ob, C.oc, pp.2.2, C.ab, C.ac, C.bc, .inr ⟨hp, h⟩⟩
  exact C2.last.2.symm.trans C.last.2
end PyD

set_option Elab.async false
set_option linter.all false
set_option maxRecDepth 100000
set_option maxHeartbeats 4000000
/-! CnJ: pairs of conics as k78's law draws them; turned ones; dependence by minors. -/
namespace PyD
theorem tb_c6 {u v : Int} {k o : V6} {p : V3} : mv (tb (c6 u v k o)) p = ad (sm u (mv (tb k) p)) (sm v (mv (tb o) p)) := by
  ext <;> simp only [mv, tb, c6, ad, sm, dot] <;> grind
theorem tb_p6 {k : V6} (h : k ≠ o6) (p : V3) : Pr (mv (tb (p6 k)) p) (mv (tb k) p) := by
  refine ⟨sgd k.l, 1, sgd_ne (live6.mpr h), by decide, ?_⟩
  rw [sm_one, ← tb_s6, ← p6_s h]
section
variable {k : V6} {a b c d : V3} {by' : Int} (pk : PlainL k.l) (hk : det (tb k) ≠ 0) (pa : PlainL a.l) (pb : PlainL b.l) (pc : PlainL c.l) (pd : PlainL d.l) (ka : qv k a = 0) (kb : qv k b = 0) (kc : qv k c = 0) (kd : qv k d = 0)
  (ab : a ≠ b) (ac : a ≠ c) (bc : b ≠ c)
include pk hk pa pb pc pd ka kb kc kd ab ac bc
theorem pair0 (hda : d ≠ a) (hdb : d ≠ b) (hdc : d ≠ c) (hf : det (tb (c6 1 by' k (lns (cross a b) (cross c d)))) ≠ 0) (ne : k ≠ p6 (c6 1 by' k (lns (cross a b) (cross c d)))) : Com k (p6 (c6 1 by' k (lns (cross a b) (cross c d)))) a b c d := by
  have h0 := full_ne hf
  have on : ∀ p : V3, qv k p = 0 → dot (cross a b) p * dot (cross c d) p = 0 → qv (p6 (c6 1 by' k (lns (cross a b) (cross c d)))) p = 0 := fun p h1 h2 => by
    rw [qv_p6 h0, qv_c6, qv_lns, h1, h2]; grind
  have la : dot (cross a b) a = 0 := by rw [dot_comm]; exact dot_cross1
  have lb : dot (cross a b) b = 0 := by rw [dot_comm]; exact dot_cross2
  have lc : dot (cross c d) c = 0 := by rw [dot_comm]; exact dot_cross1
  have ld : dot (cross c d) d = 0 := by rw [dot_comm]; exact dot_cross2
  exact ⟨pk, p6_plain h0, hk, full_p6 hf, ne, pa, pb, pc, pd, ka, kb, kc, kd, on a ka (by rw [la, Int.zero_mul]), on b kb (by rw [lb, Int.zero_mul]), on c kc (by rw [lc, Int.mul_zero]), on d kd (by rw [ld, Int.mul_zero]), ab, ac, bc, .inl ⟨hda, hdb, hdc⟩⟩
omit pd kd in
theorem pair1 (hf : det (tb (c6 1 by' k (lns (mv (tb k) a) (cross b c)))) ≠ 0) (ne : k ≠ p6 (c6 1 by' k (lns (mv (tb k) a) (cross b c)))) : Com k (p6 (c6 1 by' k (lns (mv (tb k) a) (cross b c)))) a b c a := by
  have h0 := full_ne hf
  have on : ∀ p : V3, qv k p = 0 → dot (mv (tb k) a) p * dot (cross b c) p = 0 → qv (p6 (c6 1 by' k (lns (mv (tb k) a) (cross b c)))) p = 0 := fun p h1 h2 => by
    rw [qv_p6 h0, qv_c6, qv_lns, h1, h2]; grind
  have ta : dot (mv (tb k) a) a = 0 := by
    have := bf_self (k := k) (p := a)
    rw [ka] at this
    rw [dot_comm]; simpa [bf] using this
  have lb : dot (cross b c) b = 0 := by rw [dot_comm]; exact dot_cross1
  have lc : dot (cross b c) c = 0 := by rw [dot_comm]; exact dot_cross2
  have hoa := on a ka (by rw [ta, Int.zero_mul])
  have hT : mv (tb k) a ≠ o3 := mv_ne hk (pl3_ne pa)
  have e : mv (tb (lns (mv (tb k) a) (cross b c))) a = sm (dot (cross b c) a) (mv (tb k) a) := by
    have h : ∀ l m p : V3, mv (tb (lns l m)) p = ad (sm (dot l p) m) (sm (dot m p) l) := fun l m p => by
      ext <;> simp only [mv, tb, lns, ad, sm, dot] <;> grind
    rw [h, ta]
    ext <;> simp [ad, sm]
  have e2 : mv (tb (c6 1 by' k (lns (mv (tb k) a) (cross b c)))) a = sm (1 + by' * dot (cross b c) a) (mv (tb k) a) := by
    rw [tb_c6, e]
    ext <;> simp only [ad, sm] <;> grind
  have hz : 1 + by' * dot (cross b c) a ≠ 0 := fun z => by
    rw [z, sm_zero] at e2
    exact mv_ne hf (pl3_ne pa) e2
  have pr : Pr (mv (tb k) a) (mv (tb (p6 (c6 1 by' k (lns (mv (tb k) a) (cross b c))))) a) := by
    refine Pr.trans ?_ (tb_p6 h0 a).symm
    rw [e2]
    exact (Pr.of_sm hz).symm
  exact ⟨pk, p6_plain h0, hk, full_p6 hf, ne, pa, pb, pc, pa, ka, kb, kc, ka, hoa, on b kb (by rw [lb, Int.mul_zero]), on c kc (by rw [lc, Int.mul_zero]), hoa, ab, ac, bc, .inr ⟨.inl rfl, pr⟩⟩
end
/-! turned -/
theorem tc_ne {V : M3} {k : V6} (hV : det V ≠ 0) (hk : det (tb k) ≠ 0) : rc (adj V) k ≠ o6 := full_ne (full_rc (det_adj_ne hV) hk)
theorem tc_inj {V : M3} {k o : V6} (hV : det V ≠ 0) (hk : det (tb k) ≠ 0) (ho : det (tb o) ≠ 0) (pk : PlainL k.l) (po : PlainL o.l) (h : tc V k = tc V o) : k = o := by
  have e1 := p6_s (tc_ne hV hk)
  have e2 := p6_s (tc_ne hV ho)
  have h' : p6 (rc (adj V) k) = p6 (rc (adj V) o) := h
  rw [h'] at e1
  have back : ∀ q : V6, rc V (rc (adj V) q) = s6 (det V * det V) q := fun q => by
    refine v6_ext fun x => ?_
    rw [qv_rc, qv_rc, adj_mv, qv_sm, qv_s6]
  have f1 := congrArg (rc V) e1
  have f2 := congrArg (rc V) e2
  rw [back, rc_s6] at f1 f2
  generalize rc V (p6 (rc (adj V) o)) = Z at f1 f2
  have s1 := sgd_ne (live6.mpr (tc_ne hV hk))
  have s2 := sgd_ne (live6.mpr (tc_ne hV ho))
  generalize sgd (rc (adj V) k).l = u at *
  generalize sgd (rc (adj V) o).l = v at *
  have hD := Int.mul_ne_zero hV hV
  refine plain6_eq (u := v * (det V * det V)) (v := u * (det V * det V)) pk po (Int.mul_ne_zero s2 hD) (Int.mul_ne_zero s1 hD) ?_
  have g : ∀ (x y : Int) (q : V6), s6 (x * y) q = s6 x (s6 y q) := fun x y q => by ext <;> simp only [s6] <;> grind
  rw [g, f1, g, f2]
  ext <;> simp only [s6] <;> grind
theorem polar_tc {V : M3} {k : V6} (hV : det V ≠ 0) (hk : det (tb k) ≠ 0) (p : V3) : Pr (mv (tb (tc V k)) (mv V p)) (mv (tr (adj V)) (mv (tb k) p)) := by
  refine (tb_p6 (tc_ne hV hk) _).trans ?_
  rw [tb_rc, mv_mm, mv_mm, adj_mv, mv_sm, mv_sm]
  exact Pr.of_sm hV
theorem Com.turn {k o : V6} {a b c d : V3} (C : Com k o a b c d) {V : M3} (hV : det V ≠ 0) : Com (tc V k) (tc V o) (p3 (mv V a)) (p3 (mv V b)) (p3 (mv V c)) (p3 (mv V d)) := by
  have nz : ∀ {p : V3}, PlainL p.l → mv V p ≠ o3 := fun h => mv_ne hV (pl3_ne h)
  have pl : ∀ {p : V3}, PlainL p.l → PlainL (p3 (mv V p)).l := fun h => p3_plain (nz h)
  have on : ∀ {q : V6} {p : V3}, det (tb q) ≠ 0 → PlainL p.l → qv q p = 0 → qv (tc V q) (p3 (mv V p)) = 0 := fun hq hp h => (p3_pr (nz hp)).symm.qv0 (qv_tc_mv hV hq h)
  have ds : ∀ {p q : V3}, PlainL p.l → PlainL q.l → p ≠ q → p3 (mv V p) ≠ p3 (mv V q) := fun {p q} hp hq h z => h (by
    have : Pr (mv V p) (mv V q) := (p3_pr (nz hp)).symm.trans (by rw [z]; exact p3_pr (nz hq))
    exact (this.of_mv hV).eq hp hq)
  refine ⟨plain_tc hV C.hk, plain_tc hV C.ho, full_tc hV C.hk, full_tc hV C.ho, fun z => C.ne (tc_inj hV C.hk C.ho C.pk C.po z), pl C.pa, pl C.pb, pl C.pc, pl C.pd, on C.hk C.pa C.ka, on C.hk C.pb C.kb, on C.hk C.pc C.kc, on C.hk C.pd C.kd,
    on C.ho C.pa C.oa, on C.ho C.pb C.ob, on C.ho C.pc C.oc, on C.ho C.pd C.od, ds C.pa C.pb C.ab, ds C.pa C.pc C.ac, ds C.pb C.pc C.bc, C.lst.imp (fun ⟨h1, h2, h3⟩ => ⟨ds C.pd C.pa h1, ds C.pd C.pb h2, ds C.pd C.pc h3⟩) fun ⟨h, p⟩ => ⟨?_, ?_⟩⟩
  · rcases h with rfl | rfl | rfl
    · exact .inl rfl
    · exact .inr (.inl rfl)
    · exact .inr (.inr rfl)
  · have hd := p3_pr (nz C.pd)
    refine (hd.mv).trans (((polar_tc hV C.hk d).trans (p.mv.trans (polar_tc hV C.ho d).symm)).trans hd.symm.mv)
/-! dependence -/
def at6 (k : V6) (i : Nat) : Int := match i with
  | 0 => k.a
  | 1 => k.b
  | 2 => k.c
  | 3 => k.d
  | 4 => k.e
  | _ => k.f
def pk3 (k : V6) (i j l : Nat) : V3 := ⟨at6 k i, at6 k j, at6 k l⟩
def mn (i j l : Nat) (k o t : V6) : Int := blk (pk3 k i j l) (pk3 o i j l) (pk3 t i j l)
def Dep (k o t : V6) : Prop := ∀ i j l : Nat, i < j → j < l → l < 6 → mn i j l k o t = 0
theorem mn_rev {i j l : Nat} {k o t : V6} : mn l j i k o t = -mn i j l k o t := by simp only [mn, blk, dot, cross, pk3]; grind
theorem at6_c6 {u v : Int} {k o : V6} (i : Nat) : at6 (c6 u v k o) i = u * at6 k i + v * at6 o i := by
  match i with
  | 0 => rfl
  | 1 => rfl
  | 2 => rfl
  | 3 => rfl
  | 4 => rfl
  | n + 5 => rfl
theorem at6_s6 {u : Int} {k : V6} (i : Nat) : at6 (s6 u k) i = u * at6 k i := by
  match i with
  | 0 => rfl
  | 1 => rfl
  | 2 => rfl
  | 3 => rfl
  | 4 => rfl
  | n + 5 => rfl
theorem mn_c6 {u v : Int} {k o : V6} {i j l : Nat} : mn i j l k o (c6 u v k o) = 0 := by
  simp only [mn, pk3, at6_c6, blk, dot, cross]; grind
theorem mn_s6 {u : Int} {k o t : V6} {i j l : Nat} : mn i j l k o (s6 u t) = u * mn i j l k o t := by
  simp only [mn, pk3, at6_s6, blk, dot, cross]; grind
theorem dep_pen {k o : V6} {p : V3} (hk : PlainL k.l) (ho : PlainL o.l) (hn : k ≠ o) (hp : qv k p ≠ 0 ∨ qv o p ≠ 0) : Dep k o (pen k o p) := fun i j l _ _ _ => by
  obtain ⟨g, hg, e⟩ := pen_s hk ho hn hp
  have := mn_c6 (u := qv o p) (v := -(qv k p)) (k := k) (o := o) (i := i) (j := j) (l := l)
  rw [e, mn_s6] at this
  rcases Int.mul_eq_zero.mp this with z | z
  · exact absurd z hg
  · exact z
/-! the other line, ahead of plain -/
def olr (s : V6) (l : V3) : V3 :=
  if l.x ≠ 0 then ⟨s.a * l.x, s.f * l.x - l.y * s.a, s.e * l.x - l.z * s.a⟩
  else if l.y ≠ 0 then ⟨s.f * l.y - l.x * s.b, s.b * l.y, s.d * l.y - l.z * s.b⟩
  else ⟨s.e * l.z - l.x * s.c, s.d * l.z - l.y * s.c, s.c * l.z⟩
theorem oln_olr {s : V6} {l : V3} : oln s l = p3 (olr s l) := by
  unfold oln olr
  split
  · rfl
  · split <;> rfl
end PyD

set_option Elab.async false
set_option linter.all false
set_option maxRecDepth 100000
set_option maxHeartbeats 0
namespace PyD
open PySem PySem.Spec PyProof.Rows L2
def bltsAll : List Str := ["len", "int", "tuple", "all", "any", "list", "abs", "sum", "min", "max", "divmod", "range", "enumerate", "zip", "isinstance", "bool", "str", "sorted", "set", "dict"]
def n_is_whole : List Str := ["value"]
def c_is_whole : CS := (.seq (.ret (.land (.isi .int (.var 0)) (.lnot (.isi .bool (.var 0))))) .next)
theorem k_is_whole : compSs 60 ⟨n_is_whole, (defScope s_is_whole).names, none, [], false, bltsAll, true⟩ (defBody s_is_whole) = some c_is_whole := by kernel_rfl
theorem z_is_whole : FnScope n_is_whole ["value"] (defScope s_is_whole) := ⟨rfl, rfl, rfl, by decide +kernel, rfl, by decide +kernel, by decide +kernel⟩
def n_is_tuple_up_to : List Str := ["value", "low", "high"]
def c_is_tuple_up_to : CS := (.seq (.ret (.land (.isi .tuple (.var 0)) (.chain .LtE .LtE (.var 1) (.bi .len (.cons (.var 0) .nil)) (.var 2)))) .next)
theorem k_is_tuple_up_to : compSs 60 ⟨n_is_tuple_up_to, (defScope s_is_tuple_up_to).names, none, [], false, bltsAll, true⟩ (defBody s_is_tuple_up_to) = some c_is_tuple_up_to := by kernel_rfl
theorem z_is_tuple_up_to : FnScope n_is_tuple_up_to ["value", "low", "high"] (defScope s_is_tuple_up_to) := ⟨rfl, rfl, rfl, by decide +kernel, rfl, by decide +kernel, by decide +kernel⟩
def n_is_tuple_of : List Str := ["value", "many"]
def c_is_tuple_of : CS := (.seq (.ret (.call "is_tuple_up_to" (.cons (.var 0) (.cons (.var 1) (.cons (.var 1) .nil))))) .next)
theorem k_is_tuple_of : compSs 60 ⟨n_is_tuple_of, (defScope s_is_tuple_of).names, none, [], false, bltsAll, true⟩ (defBody s_is_tuple_of) = some c_is_tuple_of := by kernel_rfl
theorem z_is_tuple_of : FnScope n_is_tuple_of ["value", "many"] (defScope s_is_tuple_of) := ⟨rfl, rfl, rfl, by decide +kernel, rfl, by decide +kernel, by decide +kernel⟩
def n_are_whole : List Str := ["value", "many", ".0", "each"]
def c_are_whole : CS := (.seq (.ret (.land (.call "is_tuple_of" (.cons (.var 0) (.cons (.var 1) .nil))) (.bi .all (.cons (.lc false (.seq (.var 0)) [2, 3] (.name 3) .yes (.call "is_whole" (.cons (.var 3) .nil))) .nil)))) .next)
theorem k_are_whole : compSs 60 ⟨n_are_whole, (defScope s_are_whole).names, none, [], false, bltsAll, true⟩ (defBody s_are_whole) = some c_are_whole := by kernel_rfl
theorem z_are_whole : FnScope n_are_whole ["value", "many"] (defScope s_are_whole) := ⟨rfl, rfl, rfl, by decide +kernel, rfl, by decide +kernel, by decide +kernel⟩
def n_divisor_of : List Str := ["numbers", "found", "number"]
def c_divisor_of : CS := (.seq (.asg (.lit (.int 0)) (.name 1)) (.seq (.forr (.seq (.var 0)) (.name 2) (.seq (.asg (.bi .gcd (.cons (.var 1) (.cons (.var 2) .nil))) (.name 1)) .next)) (.seq (.ret (.var 1)) .next)))
theorem k_divisor_of : compSs 60 ⟨n_divisor_of, (defScope s_divisor_of).names, none, [], false, bltsAll, true⟩ (defBody s_divisor_of) = some c_divisor_of := by kernel_rfl
theorem z_divisor_of : FnScope n_divisor_of ["numbers"] (defScope s_divisor_of) := ⟨rfl, rfl, rfl, by decide +kernel, rfl, by decide +kernel, by decide +kernel⟩
def n_first_live : List Str := ["numbers", "number"]
def c_first_live : CS := (.seq (.forr (.seq (.var 0)) (.name 1) (.seq (.iff (.bl (.cmp .NotEq (.var 1) (.lit (.int 0)))) (.seq (.ret (.var 1)) .next) .next) .next)) (.seq (.ret (.lit (.int 0))) .next))
theorem k_first_live : compSs 60 ⟨n_first_live, (defScope s_first_live).names, none, [], false, bltsAll, true⟩ (defBody s_first_live) = some c_first_live := by kernel_rfl
theorem z_first_live : FnScope n_first_live ["numbers"] (defScope s_first_live) := ⟨rfl, rfl, rfl, by decide +kernel, rfl, by decide +kernel, by decide +kernel⟩
def n_plain_of : List Str := ["numbers", "divisor", ".0", "number"]
def c_plain_of : CS := (.seq (.asg (.call "divisor_of" (.cons (.var 0) .nil)) (.name 1)) (.seq (.asg (.ifx (.bl (.cmp .Gt (.call "first_live" (.cons (.var 0) .nil)) (.lit (.int 0)))) (.var 1) (.neg (.var 1))) (.name 1)) (.seq (.ret (.bi .tuple (.cons (.lc false (.seq (.var 0)) [2, 3] (.name 3) .yes (.bin .FloorDiv (.var 3) (.var 1))) .nil))) .next)))
theorem k_plain_of : compSs 60 ⟨n_plain_of, (defScope s_plain_of).names, none, [], false, bltsAll, true⟩ (defBody s_plain_of) = some c_plain_of := by kernel_rfl
theorem z_plain_of : FnScope n_plain_of ["numbers"] (defScope s_plain_of) := ⟨rfl, rfl, rfl, by decide +kernel, rfl, by decide +kernel, by decide +kernel⟩
def n_is_plain : List Str := ["value", "many"]
def c_is_plain : CS := (.seq (.ret (.land (.call "are_whole" (.cons (.var 0) (.cons (.var 1) .nil))) (.land (.cmp .Eq (.call "divisor_of" (.cons (.var 0) .nil)) (.lit (.int 1))) (.cmp .Gt (.call "first_live" (.cons (.var 0) .nil)) (.lit (.int 0)))))) .next)
theorem k_is_plain : compSs 60 ⟨n_is_plain, (defScope s_is_plain).names, none, [], false, bltsAll, true⟩ (defBody s_is_plain) = some c_is_plain := by kernel_rfl
theorem z_is_plain : FnScope n_is_plain ["value", "many"] (defScope s_is_plain) := ⟨rfl, rfl, rfl, by decide +kernel, rfl, by decide +kernel, by decide +kernel⟩
def n_dot : List Str := ["one", "two", ".0", "first", "second"]
def c_dot : CS := (.seq (.ret (.bi .sum (.cons (.lc false (.zip (.cons (.var 0) (.cons (.var 1) .nil))) [2, 3, 4] (.tup 2 (.cons (.name 3) (.cons (.name 4) .nil))) .yes (.bin .Mult (.var 3) (.var 4))) .nil))) .next)
theorem k_dot : compSs 60 ⟨n_dot, (defScope s_dot).names, none, [], false, bltsAll, true⟩ (defBody s_dot) = some c_dot := by kernel_rfl
theorem z_dot : FnScope n_dot ["one", "two"] (defScope s_dot) := ⟨rfl, rfl, rfl, by decide +kernel, rfl, by decide +kernel, by decide +kernel⟩
def n_cross : List Str := ["one", "two"]
def c_cross : CS := (.seq (.ret (.tup (.cons (.bin .Sub (.bin .Mult (.idx (.var 0) (.lit (.int 1))) (.idx (.var 1) (.lit (.int 2)))) (.bin .Mult (.idx (.var 0) (.lit (.int 2))) (.idx (.var 1) (.lit (.int 1))))) (.cons (.bin .Sub (.bin .Mult (.idx (.var 0) (.lit (.int 2))) (.idx (.var 1) (.lit (.int 0)))) (.bin .Mult (.idx (.var 0) (.lit (.int 0))) (.idx (.var 1) (.lit (.int 2))))) (.cons (.bin .Sub (.bin .Mult (.idx (.var 0) (.lit (.int 0))) (.idx (.var 1) (.lit (.int 1)))) (.bin .Mult (.idx (.var 0) (.lit (.int 1))) (.idx (.var 1) (.lit (.int 0))))) .nil))))) .next)
theorem k_cross : compSs 60 ⟨n_cross, (defScope s_cross).names, none, [], false, bltsAll, true⟩ (defBody s_cross) = some c_cross := by kernel_rfl
theorem z_cross : FnScope n_cross ["one", "two"] (defScope s_cross) := ⟨rfl, rfl, rfl, by decide +kernel, rfl, by decide +kernel, by decide +kernel⟩
def n_block : List Str := ["one", "two", "three"]
def c_block : CS := (.seq (.ret (.call "dot" (.cons (.var 0) (.cons (.call "cross" (.cons (.var 1) (.cons (.var 2) .nil))) .nil)))) .next)
theorem k_block : compSs 60 ⟨n_block, (defScope s_block).names, none, [], false, bltsAll, true⟩ (defBody s_block) = some c_block := by kernel_rfl
theorem z_block : FnScope n_block ["one", "two", "three"] (defScope s_block) := ⟨rfl, rfl, rfl, by decide +kernel, rfl, by decide +kernel, by decide +kernel⟩
def n_scaled : List Str := ["triple", "number", ".0", "each"]
def c_scaled : CS := (.seq (.ret (.bi .tuple (.cons (.lc false (.seq (.var 0)) [2, 3] (.name 3) .yes (.bin .Mult (.var 1) (.var 3))) .nil))) .next)
theorem k_scaled : compSs 60 ⟨n_scaled, (defScope s_scaled).names, none, [], false, bltsAll, true⟩ (defBody s_scaled) = some c_scaled := by kernel_rfl
theorem z_scaled : FnScope n_scaled ["triple", "number"] (defScope s_scaled) := ⟨rfl, rfl, rfl, by decide +kernel, rfl, by decide +kernel, by decide +kernel⟩
def n_added : List Str := ["one", "two", ".0", "first", "second"]
def c_added : CS := (.seq (.ret (.bi .tuple (.cons (.lc false (.zip (.cons (.var 0) (.cons (.var 1) .nil))) [2, 3, 4] (.tup 2 (.cons (.name 3) (.cons (.name 4) .nil))) .yes (.bin .Add (.var 3) (.var 4))) .nil))) .next)
theorem k_added : compSs 60 ⟨n_added, (defScope s_added).names, none, [], false, bltsAll, true⟩ (defBody s_added) = some c_added := by kernel_rfl
theorem z_added : FnScope n_added ["one", "two"] (defScope s_added) := ⟨rfl, rfl, rfl, by decide +kernel, rfl, by decide +kernel, by decide +kernel⟩
def n_table_times : List Str := ["rows", "triple", ".0", "row"]
def c_table_times : CS := (.seq (.ret (.bi .tuple (.cons (.lc false (.seq (.var 0)) [2, 3] (.name 3) .yes (.call "dot" (.cons (.var 3) (.cons (.var 1) .nil)))) .nil))) .next)
theorem k_table_times : compSs 60 ⟨n_table_times, (defScope s_table_times).names, none, [], false, bltsAll, true⟩ (defBody s_table_times) = some c_table_times := by kernel_rfl
theorem z_table_times : FnScope n_table_times ["rows", "triple"] (defScope s_table_times) := ⟨rfl, rfl, rfl, by decide +kernel, rfl, by decide +kernel, by decide +kernel⟩
def n_turned_table : List Str := ["rows", ".0", "row", "at"]
def c_turned_table : CS := (.seq (.ret (.bi .tuple (.cons (.lc false (.rng1 (.cons (.lit (.int 3)) .nil)) [1, 3] (.name 3) .yes (.bi .tuple (.cons (.lc false (.seq (.var 0)) [1, 2] (.name 2) .yes (.idx (.var 2) (.var 3))) .nil))) .nil))) .next)
theorem k_turned_table : compSs 60 ⟨n_turned_table, (defScope s_turned_table).names, none, [], false, bltsAll, true⟩ (defBody s_turned_table) = some c_turned_table := by kernel_rfl
theorem z_turned_table : FnScope n_turned_table ["rows"] (defScope s_turned_table) := ⟨rfl, rfl, rfl, by decide +kernel, rfl, by decide +kernel, by decide +kernel⟩
def n_adjugate : List Str := ["rows", "one", "two", "three"]
def c_adjugate : CS := (.seq (.asg (.var 0) (.tup 3 (.cons (.name 1) (.cons (.name 2) (.cons (.name 3) .nil))))) (.seq (.ret (.call "turned_table" (.cons (.tup (.cons (.call "cross" (.cons (.var 2) (.cons (.var 3) .nil))) (.cons (.call "cross" (.cons (.var 3) (.cons (.var 1) .nil))) (.cons (.call "cross" (.cons (.var 1) (.cons (.var 2) .nil))) .nil)))) .nil))) .next))
theorem k_adjugate : compSs 60 ⟨n_adjugate, (defScope s_adjugate).names, none, [], false, bltsAll, true⟩ (defBody s_adjugate) = some c_adjugate := by kernel_rfl
theorem z_adjugate : FnScope n_adjugate ["rows"] (defScope s_adjugate) := ⟨rfl, rfl, rfl, by decide +kernel, rfl, by decide +kernel, by decide +kernel⟩
def n_table_of : List Str := ["rows", "other", "columns", ".0", "column", "row"]
def c_table_of : CS := (.seq (.asg (.call "turned_table" (.cons (.var 1) .nil)) (.name 2)) (.seq (.ret (.bi .tuple (.cons (.lc false (.seq (.var 0)) [3, 5] (.name 5) .yes (.bi .tuple (.cons (.lc false (.seq (.var 2)) [3, 4] (.name 4) .yes (.call "dot" (.cons (.var 5) (.cons (.var 4) .nil)))) .nil))) .nil))) .next))
theorem k_table_of : compSs 60 ⟨n_table_of, (defScope s_table_of).names, none, [], false, bltsAll, true⟩ (defBody s_table_of) = some c_table_of := by kernel_rfl
theorem z_table_of : FnScope n_table_of ["rows", "other"] (defScope s_table_of) := ⟨rfl, rfl, rfl, by decide +kernel, rfl, by decide +kernel, by decide +kernel⟩
def n_is_triple : List Str := ["value"]
def c_is_triple : CS := (.seq (.ret (.call "is_plain" (.cons (.var 0) (.cons (.lit (.int 3)) .nil)))) .next)
theorem k_is_triple : compSs 60 ⟨n_is_triple, (defScope s_is_triple).names, none, [], false, bltsAll, true⟩ (defBody s_is_triple) = some c_is_triple := by kernel_rfl
theorem z_is_triple : FnScope n_is_triple ["value"] (defScope s_is_triple) := ⟨rfl, rfl, rfl, by decide +kernel, rfl, by decide +kernel, by decide +kernel⟩
def n_wrong_in_figure : List Str := ["value", "low", "high", ".0", "at", "each"]
def c_wrong_in_figure : CS := (.seq (.iff (.not (.tru (.call "is_tuple_up_to" (.cons (.var 0) (.cons (.var 1) (.cons (.var 2) .nil)))))) (.seq (.ret (.lst (.cons (.lit .non) .nil))) .next) .next) (.seq (.ret (.sl (.lc false (.enum (.cons (.var 0) .nil)) [3, 4, 5] (.tup 2 (.cons (.name 4) (.cons (.name 5) .nil))) (.or (.not (.tru (.call "is_triple" (.cons (.var 5) .nil)))) (.bl (.cmp .In (.var 5) (.sl (.var 0) .no (.at (.var 4)))))) (.var 4)) .no (.at (.lit (.int 1))))) .next))
theorem k_wrong_in_figure : compSs 60 ⟨n_wrong_in_figure, (defScope s_wrong_in_figure).names, none, [], false, bltsAll, true⟩ (defBody s_wrong_in_figure) = some c_wrong_in_figure := by kernel_rfl
theorem z_wrong_in_figure : FnScope n_wrong_in_figure ["value", "low", "high"] (defScope s_wrong_in_figure) := ⟨rfl, rfl, rfl, by decide +kernel, rfl, by decide +kernel, by decide +kernel⟩
def n_is_view_of : List Str := ["value", ".0", "row"]
def c_is_view_of : CS := (.seq (.iff (.or (.not (.tru (.call "is_tuple_of" (.cons (.var 0) (.cons (.lit (.int 3)) .nil))))) (.not (.tru (.bi .all (.cons (.lc false (.seq (.var 0)) [1, 2] (.name 2) .yes (.call "are_whole" (.cons (.var 2) (.cons (.lit (.int 3)) .nil)))) .nil))))) (.seq (.ret (.lit (.bl false))) .next) .next) (.seq (.ret (.land (.call "is_plain" (.cons (.bin .Add (.bin .Add (.idx (.var 0) (.lit (.int 0))) (.idx (.var 0) (.lit (.int 1)))) (.idx (.var 0) (.lit (.int 2)))) (.cons (.lit (.int 9)) .nil))) (.cmp .NotEq (.call "block" (.cons (.idx (.var 0) (.lit (.int 0))) (.cons (.idx (.var 0) (.lit (.int 1))) (.cons (.idx (.var 0) (.lit (.int 2))) .nil)))) (.lit (.int 0))))) .next))
theorem k_is_view_of : compSs 60 ⟨n_is_view_of, (defScope s_is_view_of).names, none, [], false, bltsAll, true⟩ (defBody s_is_view_of) = some c_is_view_of := by kernel_rfl
theorem z_is_view_of : FnScope n_is_view_of ["value"] (defScope s_is_view_of) := ⟨rfl, rfl, rfl, by decide +kernel, rfl, by decide +kernel, by decide +kernel⟩
def n_check_point : List Str := ["point"]
def c_check_point : CS := (.seq (.iff (.not (.tru (.call "is_triple" (.cons (.var 0) .nil)))) (.seq .never .next) .next) .next)
theorem k_check_point : compSs 60 ⟨n_check_point, (defScope s_check_point).names, none, [], false, bltsAll, true⟩ (defBody s_check_point) = some c_check_point := by kernel_rfl
theorem z_check_point : FnScope n_check_point ["point"] (defScope s_check_point) := ⟨rfl, rfl, rfl, by decide +kernel, rfl, by decide +kernel, by decide +kernel⟩
def n_check_figure : List Str := ["figure", "low", "high", "index"]
def c_check_figure : CS := (.seq (.forr (.seq (.call "wrong_in_figure" (.cons (.var 0) (.cons (.var 1) (.cons (.var 2) .nil))))) (.name 3) (.seq .never .next)) .next)
theorem k_check_figure : compSs 60 ⟨n_check_figure, (defScope s_check_figure).names, none, [], false, bltsAll, true⟩ (defBody s_check_figure) = some c_check_figure := by kernel_rfl
theorem z_check_figure : FnScope n_check_figure ["figure", "low", "high"] (defScope s_check_figure) := ⟨rfl, rfl, rfl, by decide +kernel, rfl, by decide +kernel, by decide +kernel⟩
def n_check_view : List Str := ["view"]
def c_check_view : CS := (.seq (.iff (.not (.tru (.call "is_view_of" (.cons (.var 0) .nil)))) (.seq .never .next) .next) .next)
theorem k_check_view : compSs 60 ⟨n_check_view, (defScope s_check_view).names, none, [], false, bltsAll, true⟩ (defBody s_check_view) = some c_check_view := by kernel_rfl
theorem z_check_view : FnScope n_check_view ["view"] (defScope s_check_view) := ⟨rfl, rfl, rfl, by decide +kernel, rfl, by decide +kernel, by decide +kernel⟩
def n_table_by : List Str := ["curve", "one", "two", "three", "yz", "xz", "xy"]
def c_table_by : CS := (.seq (.asg (.var 0) (.tup 6 (.cons (.name 1) (.cons (.name 2) (.cons (.name 3) (.cons (.name 4) (.cons (.name 5) (.cons (.name 6) .nil)))))))) (.seq (.ret (.tup (.cons (.tup (.cons (.bin .Mult (.lit (.int 2)) (.var 1)) (.cons (.var 6) (.cons (.var 5) .nil)))) (.cons (.tup (.cons (.var 6) (.cons (.bin .Mult (.lit (.int 2)) (.var 2)) (.cons (.var 4) .nil)))) (.cons (.tup (.cons (.var 5) (.cons (.var 4) (.cons (.bin .Mult (.lit (.int 2)) (.var 3)) .nil)))) .nil))))) .next))
theorem k_table_by : compSs 60 ⟨n_table_by, (defScope s_table_by).names, none, [], false, bltsAll, true⟩ (defBody s_table_by) = some c_table_by := by kernel_rfl
theorem z_table_by : FnScope n_table_by ["curve"] (defScope s_table_by) := ⟨rfl, rfl, rfl, by decide +kernel, rfl, by decide +kernel, by decide +kernel⟩
def n_curve_of_table : List Str := ["table", "slope", ".0", "at"]
def c_curve_of_table : CS := (.seq (.asg (.lc false (.rng1 (.cons (.lit (.int 3)) .nil)) [2, 3] (.name 3) .yes (.bin .FloorDiv (.idx (.idx (.var 0) (.var 3)) (.var 3)) (.lit (.int 2)))) (.name 1)) (.seq (.ret (.call "plain_of" (.cons (.tup (.star (.var 1) (.cons (.idx (.idx (.var 0) (.lit (.int 1))) (.lit (.int 2))) (.cons (.idx (.idx (.var 0) (.lit (.int 0))) (.lit (.int 2))) (.cons (.idx (.idx (.var 0) (.lit (.int 0))) (.lit (.int 1))) .nil))))) .nil))) .next))
theorem k_curve_of_table : compSs 60 ⟨n_curve_of_table, (defScope s_curve_of_table).names, none, [], false, bltsAll, true⟩ (defBody s_curve_of_table) = some c_curve_of_table := by kernel_rfl
theorem z_curve_of_table : FnScope n_curve_of_table ["table"] (defScope s_curve_of_table) := ⟨rfl, rfl, rfl, by decide +kernel, rfl, by decide +kernel, by decide +kernel⟩
def n_is_full_by : List Str := ["curve", "one", "two", "three"]
def c_is_full_by : CS := (.seq (.asg (.call "table_by" (.cons (.var 0) .nil)) (.tup 3 (.cons (.name 1) (.cons (.name 2) (.cons (.name 3) .nil))))) (.seq (.ret (.cmp .NotEq (.call "block" (.cons (.var 1) (.cons (.var 2) (.cons (.var 3) .nil)))) (.lit (.int 0)))) .next))
theorem k_is_full_by : compSs 60 ⟨n_is_full_by, (defScope s_is_full_by).names, none, [], false, bltsAll, true⟩ (defBody s_is_full_by) = some c_is_full_by := by kernel_rfl
theorem z_is_full_by : FnScope n_is_full_by ["curve"] (defScope s_is_full_by) := ⟨rfl, rfl, rfl, by decide +kernel, rfl, by decide +kernel, by decide +kernel⟩
def n_products_of : List Str := ["point", "one", "two", "three"]
def c_products_of : CS := (.seq (.asg (.var 0) (.tup 3 (.cons (.name 1) (.cons (.name 2) (.cons (.name 3) .nil))))) (.seq (.ret (.tup (.cons (.bin .Mult (.var 1) (.var 1)) (.cons (.bin .Mult (.var 2) (.var 2)) (.cons (.bin .Mult (.var 3) (.var 3)) (.cons (.bin .Mult (.var 2) (.var 3)) (.cons (.bin .Mult (.var 1) (.var 3)) (.cons (.bin .Mult (.var 1) (.var 2)) .nil)))))))) .next))
theorem k_products_of : compSs 60 ⟨n_products_of, (defScope s_products_of).names, none, [], false, bltsAll, true⟩ (defBody s_products_of) = some c_products_of := by kernel_rfl
theorem z_products_of : FnScope n_products_of ["point"] (defScope s_products_of) := ⟨rfl, rfl, rfl, by decide +kernel, rfl, by decide +kernel, by decide +kernel⟩
def n_value_by : List Str := ["curve", "point"]
def c_value_by : CS := (.seq (.ret (.call "dot" (.cons (.var 0) (.cons (.call "products_of" (.cons (.var 1) .nil)) .nil)))) .next)
theorem k_value_by : compSs 60 ⟨n_value_by, (defScope s_value_by).names, none, [], false, bltsAll, true⟩ (defBody s_value_by) = some c_value_by := by kernel_rfl
theorem z_value_by : FnScope n_value_by ["curve", "point"] (defScope s_value_by) := ⟨rfl, rfl, rfl, by decide +kernel, rfl, by decide +kernel, by decide +kernel⟩
def n_is_on_by : List Str := ["curve", "point"]
def c_is_on_by : CS := (.seq (.ret (.cmp .Eq (.call "value_by_curvework" (.cons (.var 0) (.cons (.var 1) .nil))) (.lit (.int 0)))) .next)
theorem k_is_on_by : compSs 60 ⟨n_is_on_by, (defScope s_is_on_by).names, none, [], false, bltsAll, true⟩ (defBody s_is_on_by) = some c_is_on_by := by kernel_rfl
theorem z_is_on_by : FnScope n_is_on_by ["curve", "point"] (defScope s_is_on_by) := ⟨rfl, rfl, rfl, by decide +kernel, rfl, by decide +kernel, by decide +kernel⟩
def n_polar_by : List Str := ["curve", "point"]
def c_polar_by : CS := (.seq (.ret (.call "plain_of" (.cons (.call "table_times" (.cons (.call "table_by" (.cons (.var 0) .nil)) (.cons (.var 1) .nil))) .nil))) .next)
theorem k_polar_by : compSs 60 ⟨n_polar_by, (defScope s_polar_by).names, none, [], false, bltsAll, true⟩ (defBody s_polar_by) = some c_polar_by := by kernel_rfl
theorem z_polar_by : FnScope n_polar_by ["curve", "point"] (defScope s_polar_by) := ⟨rfl, rfl, rfl, by decide +kernel, rfl, by decide +kernel, by decide +kernel⟩
def n_turned_by : List Str := ["view", "curve", "back"]
def c_turned_by : CS := (.seq (.asg (.call "adjugate" (.cons (.var 0) .nil)) (.name 2)) (.seq (.ret (.call "curve_of_table" (.cons (.call "table_of" (.cons (.call "table_of" (.cons (.call "turned_table" (.cons (.var 2) .nil)) (.cons (.call "table_by" (.cons (.var 1) .nil)) .nil))) (.cons (.var 2) .nil))) .nil))) .next))
theorem k_turned_by : compSs 60 ⟨n_turned_by, (defScope s_turned_by).names, none, [], false, bltsAll, true⟩ (defBody s_turned_by) = some c_turned_by := by kernel_rfl
theorem z_turned_by : FnScope n_turned_by ["view", "curve"] (defScope s_turned_by) := ⟨rfl, rfl, rfl, by decide +kernel, rfl, by decide +kernel, by decide +kernel⟩
def n_is_curve_of : List Str := ["value"]
def c_is_curve_of : CS := (.seq (.ret (.call "is_plain" (.cons (.var 0) (.cons (.glo "SIZE") .nil)))) .next)
theorem k_is_curve_of : compSs 60 ⟨n_is_curve_of, (defScope s_is_curve_of).names, none, [], false, bltsAll, true⟩ (defBody s_is_curve_of) = some c_is_curve_of := by kernel_rfl
theorem z_is_curve_of : FnScope n_is_curve_of ["value"] (defScope s_is_curve_of) := ⟨rfl, rfl, rfl, by decide +kernel, rfl, by decide +kernel, by decide +kernel⟩
def n_check_curve : List Str := ["curve"]
def c_check_curve : CS := (.seq (.iff (.not (.tru (.call "is_curve_of" (.cons (.var 0) .nil)))) (.seq .never .next) .next) .next)
theorem k_check_curve : compSs 60 ⟨n_check_curve, (defScope s_check_curve).names, none, [], false, bltsAll, true⟩ (defBody s_check_curve) = some c_check_curve := by kernel_rfl
theorem z_check_curve : FnScope n_check_curve ["curve"] (defScope s_check_curve) := ⟨rfl, rfl, rfl, by decide +kernel, rfl, by decide +kernel, by decide +kernel⟩
def n_check_full : List Str := ["curve"]
def c_check_full : CS := (.seq (.iff (.not (.tru (.call "is_full_by" (.cons (.var 0) .nil)))) (.seq .never .next) .next) .next)
theorem k_check_full : compSs 60 ⟨n_check_full, (defScope s_check_full).names, none, [], false, bltsAll, true⟩ (defBody s_check_full) = some c_check_full := by kernel_rfl
theorem z_check_full : FnScope n_check_full ["curve"] (defScope s_check_full) := ⟨rfl, rfl, rfl, by decide +kernel, rfl, by decide +kernel, by decide +kernel⟩
def n_value_by_2 : List Str := ["curve", "point"]
def c_value_by_2 : CS := (.seq (.ret (.call "dot" (.cons (.var 0) (.cons (.call "products_of" (.cons (.var 1) .nil)) .nil)))) .next)
theorem k_value_by_2 : compSs 60 ⟨n_value_by_2, (defScope s_value_by_2).names, none, [], false, bltsAll, true⟩ (defBody s_value_by_2) = some c_value_by_2 := by kernel_rfl
theorem z_value_by_2 : FnScope n_value_by_2 ["curve", "point"] (defScope s_value_by_2) := ⟨rfl, rfl, rfl, by decide +kernel, rfl, by decide +kernel, by decide +kernel⟩
def n_are_on_by : List Str := ["curve", "points", ".0", "point"]
def c_are_on_by : CS := (.seq (.ret (.bi .all (.cons (.lc false (.seq (.var 1)) [2, 3] (.name 3) .yes (.cmp .Eq (.call "value_by_curvepointwork" (.cons (.var 0) (.cons (.var 3) .nil))) (.lit (.int 0)))) .nil))) .next)
theorem k_are_on_by : compSs 60 ⟨n_are_on_by, (defScope s_are_on_by).names, none, [], false, bltsAll, true⟩ (defBody s_are_on_by) = some c_are_on_by := by kernel_rfl
theorem z_are_on_by : FnScope n_are_on_by ["curve", "points"] (defScope s_are_on_by) := ⟨rfl, rfl, rfl, by decide +kernel, rfl, by decide +kernel, by decide +kernel⟩
def n_other_on : List Str := ["line", "point", "found", ".0", "each"]
def c_other_on : CS := (.seq (.asg (.lc false (.seq (.tup (.cons (.tup (.cons (.lit (.int 1)) (.cons (.lit (.int 0)) (.cons (.lit (.int 0)) .nil)))) (.cons (.tup (.cons (.lit (.int 0)) (.cons (.lit (.int 1)) (.cons (.lit (.int 0)) .nil)))) (.cons (.tup (.cons (.lit (.int 0)) (.cons (.lit (.int 0)) (.cons (.lit (.int 1)) .nil)))) .nil))))) [3, 4] (.name 4) .yes (.call "cross" (.cons (.var 0) (.cons (.var 4) .nil)))) (.name 2)) (.seq (.ret (.idx (.lc false (.seq (.var 2)) [3, 4] (.name 4) (.tru (.bi .any (.cons (.call "cross" (.cons (.var 4) (.cons (.var 1) .nil))) .nil))) (.call "plain_of" (.cons (.var 4) .nil))) (.lit (.int 0)))) .next))
theorem k_other_on : compSs 60 ⟨n_other_on, (defScope s_other_on).names, none, [], false, bltsAll, true⟩ (defBody s_other_on) = some c_other_on := by kernel_rfl
theorem z_other_on : FnScope n_other_on ["line", "point"] (defScope s_other_on) := ⟨rfl, rfl, rfl, by decide +kernel, rfl, by decide +kernel, by decide +kernel⟩
def n_second_by : List Str := ["curve", "point", "line", "other", "pull"]
def c_second_by : CS := (.seq (.asg (.call "other_on" (.cons (.var 2) (.cons (.var 1) .nil))) (.name 3)) (.seq (.asg (.call "dot" (.cons (.call "polar_by" (.cons (.var 0) (.cons (.var 1) .nil))) (.cons (.var 3) .nil))) (.name 4)) (.seq (.iff (.bl (.cmp .Eq (.var 4) (.lit (.int 0)))) (.seq (.ret (.var 1)) .next) .next) (.seq (.ret (.call "second_of" (.cons (.var 0) (.cons (.var 1) (.cons (.var 3) .nil))))) .next))))
theorem k_second_by : compSs 60 ⟨n_second_by, (defScope s_second_by).names, none, [], false, bltsAll, true⟩ (defBody s_second_by) = some c_second_by := by kernel_rfl
theorem z_second_by : FnScope n_second_by ["curve", "point", "line"] (defScope s_second_by) := ⟨rfl, rfl, rfl, by decide +kernel, rfl, by decide +kernel, by decide +kernel⟩
def n_second_of : List Str := ["curve", "point", "other", "both"]
def c_second_of : CS := (.seq (.asg (.bin .Sub (.bin .Sub (.call "value_by_curvepointwork" (.cons (.var 0) (.cons (.call "added" (.cons (.var 1) (.cons (.var 2) .nil))) .nil))) (.call "value_by_curvepointwork" (.cons (.var 0) (.cons (.var 1) .nil)))) (.call "value_by_curvepointwork" (.cons (.var 0) (.cons (.var 2) .nil)))) (.name 3)) (.seq (.ret (.call "plain_of" (.cons (.call "added" (.cons (.call "scaled" (.cons (.var 1) (.cons (.call "value_by_curvepointwork" (.cons (.var 0) (.cons (.var 2) .nil))) .nil))) (.cons (.call "scaled" (.cons (.var 2) (.cons (.neg (.var 3)) .nil))) .nil))) .nil))) .next))
theorem k_second_of : compSs 60 ⟨n_second_of, (defScope s_second_of).names, none, [], false, bltsAll, true⟩ (defBody s_second_of) = some c_second_of := by kernel_rfl
theorem z_second_of : FnScope n_second_of ["curve", "point", "other"] (defScope s_second_of) := ⟨rfl, rfl, rfl, by decide +kernel, rfl, by decide +kernel, by decide +kernel⟩
def n_mixed_curve : List Str := ["curve", "other", "one", "two", ".0", "first", "second"]
def c_mixed_curve : CS := (.seq (.ret (.call "plain_of" (.cons (.lc false (.zip (.cons (.var 0) (.cons (.var 1) .nil))) [4, 5, 6] (.tup 2 (.cons (.name 5) (.cons (.name 6) .nil))) .yes (.bin .Add (.bin .Mult (.var 2) (.var 5)) (.bin .Mult (.var 3) (.var 6)))) .nil))) .next)
theorem k_mixed_curve : compSs 60 ⟨n_mixed_curve, (defScope s_mixed_curve).names, none, [], false, bltsAll, true⟩ (defBody s_mixed_curve) = some c_mixed_curve := by kernel_rfl
theorem z_mixed_curve : FnScope n_mixed_curve ["curve", "other", "one", "two"] (defScope s_mixed_curve) := ⟨rfl, rfl, rfl, by decide +kernel, rfl, by decide +kernel, by decide +kernel⟩
def n_pencil_by : List Str := ["curve", "other", "point"]
def c_pencil_by : CS := (.seq (.ret (.call "mixed_curve" (.cons (.var 0) (.cons (.var 1) (.cons (.call "value_by_curvepointwork" (.cons (.var 1) (.cons (.var 2) .nil))) (.cons (.neg (.call "value_by_curvepointwork" (.cons (.var 0) (.cons (.var 2) .nil)))) .nil)))))) .next)
theorem k_pencil_by : compSs 60 ⟨n_pencil_by, (defScope s_pencil_by).names, none, [], false, bltsAll, true⟩ (defBody s_pencil_by) = some c_pencil_by := by kernel_rfl
theorem z_pencil_by : FnScope n_pencil_by ["curve", "other", "point"] (defScope s_pencil_by) := ⟨rfl, rfl, rfl, by decide +kernel, rfl, by decide +kernel, by decide +kernel⟩
def n_minors_of : List Str := ["rows", "places", "one", "two", "three", ".0", "place", "row", "number", "each"]
def c_minors_of : CS := (.seq (.asg (.lc false (.seq (.var 0)) [5, 7] (.name 7) .yes (.lc false (.seq (.var 1)) [5, 6] (.name 6) .yes (.idx (.var 7) (.var 6)))) (.tup 3 (.cons (.name 2) (.cons (.name 3) (.cons (.name 4) .nil))))) (.seq (.ret (.bi .sum (.cons (.lc false (.zip (.cons (.var 2) (.cons (.call "cross" (.cons (.var 3) (.cons (.var 4) .nil))) .nil))) [5, 8, 9] (.tup 2 (.cons (.name 8) (.cons (.name 9) .nil))) .yes (.bin .Mult (.var 8) (.var 9))) .nil))) .next))
theorem k_minors_of : compSs 60 ⟨n_minors_of, (defScope s_minors_of).names, none, [], false, bltsAll, true⟩ (defBody s_minors_of) = some c_minors_of := by kernel_rfl
theorem z_minors_of : FnScope n_minors_of ["rows", "places"] (defScope s_minors_of) := ⟨rfl, rfl, rfl, by decide +kernel, rfl, by decide +kernel, by decide +kernel⟩
def n_are_dependent : List Str := ["rows", "places", "lots", ".0", "one", "two", "three", "lot"]
def c_are_dependent : CS := (.seq (.asg (.lrg (.glo "SIZE")) (.name 1)) (.seq (.asg (.lcn (.seq (.var 1)) [3, 4, 5, 6] (.name 4) .yes (.cons (.seq (.var 1)) [5, 6] [5] (.name 5) .yes (.cons (.seq (.var 1)) [6] [6] (.name 6) (.bl (.chain .Lt .Lt (.var 4) (.var 5) (.var 6))) .nil)) (.tup (.cons (.var 4) (.cons (.var 5) (.cons (.var 6) .nil))))) (.name 2)) (.seq (.ret (.bi .all (.cons (.lc false (.seq (.var 2)) [3, 7] (.name 7) .yes (.cmp .Eq (.call "minors_of" (.cons (.var 0) (.cons (.var 7) .nil))) (.lit (.int 0)))) .nil))) .next)))
theorem k_are_dependent : compSs 60 ⟨n_are_dependent, (defScope s_are_dependent).names, none, [], false, bltsAll, true⟩ (defBody s_are_dependent) = some c_are_dependent := by kernel_rfl
theorem z_are_dependent : FnScope n_are_dependent ["rows"] (defScope s_are_dependent) := ⟨rfl, rfl, rfl, by decide +kernel, rfl, by decide +kernel, by decide +kernel⟩
def n_beyond : List Str := ["one", "two", ".0", "first", "second"]
def c_beyond : CS := (.seq (.ret (.call "plain_of" (.cons (.lc false (.zip (.cons (.var 0) (.cons (.var 1) .nil))) [2, 3, 4] (.tup 2 (.cons (.name 3) (.cons (.name 4) .nil))) .yes (.bin .Add (.var 3) (.var 4))) .nil))) .next)
theorem k_beyond : compSs 60 ⟨n_beyond, (defScope s_beyond).names, none, [], false, bltsAll, true⟩ (defBody s_beyond) = some c_beyond := by kernel_rfl
theorem z_beyond : FnScope n_beyond ["one", "two"] (defScope s_beyond) := ⟨rfl, rfl, rfl, by decide +kernel, rfl, by decide +kernel, by decide +kernel⟩
def n_other_line : List Str := ["curve", "line", "one", "two", "three", "yz", "xz", "xy", "first", "second", "third"]
def c_other_line : CS := (.seq (.asg (.var 0) (.tup 6 (.cons (.name 2) (.cons (.name 3) (.cons (.name 4) (.cons (.name 5) (.cons (.name 6) (.cons (.name 7) .nil)))))))) (.seq (.asg (.var 1) (.tup 3 (.cons (.name 8) (.cons (.name 9) (.cons (.name 10) .nil))))) (.seq (.iff (.bl (.cmp .NotEq (.var 8) (.lit (.int 0)))) (.seq (.ret (.call "plain_of" (.cons (.tup (.cons (.bin .Mult (.var 2) (.var 8)) (.cons (.bin .Sub (.bin .Mult (.var 7) (.var 8)) (.bin .Mult (.var 9) (.var 2))) (.cons (.bin .Sub (.bin .Mult (.var 6) (.var 8)) (.bin .Mult (.var 10) (.var 2))) .nil)))) .nil))) .next) .next) (.seq (.iff (.bl (.cmp .NotEq (.var 9) (.lit (.int 0)))) (.seq (.ret (.call "plain_of" (.cons (.tup (.cons (.bin .Sub (.bin .Mult (.var 7) (.var 9)) (.bin .Mult (.var 8) (.var 3))) (.cons (.bin .Mult (.var 3) (.var 9)) (.cons (.bin .Sub (.bin .Mult (.var 5) (.var 9)) (.bin .Mult (.var 10) (.var 3))) .nil)))) .nil))) .next) .next) (.seq (.ret (.call "plain_of" (.cons (.tup (.cons (.bin .Sub (.bin .Mult (.var 6) (.var 10)) (.bin .Mult (.var 8) (.var 4))) (.cons (.bin .Sub (.bin .Mult (.var 5) (.var 10)) (.bin .Mult (.var 9) (.var 4))) (.cons (.bin .Mult (.var 4) (.var 10)) .nil)))) .nil))) .next)))))
theorem k_other_line : compSs 60 ⟨n_other_line, (defScope s_other_line).names, none, [], false, bltsAll, true⟩ (defBody s_other_line) = some c_other_line := by kernel_rfl
theorem z_other_line : FnScope n_other_line ["curve", "line"] (defScope s_other_line) := ⟨rfl, rfl, rfl, by decide +kernel, rfl, by decide +kernel, by decide +kernel⟩
def n_last_by : List Str := ["curve", "other", "three", "one", "two", "last", "split"]
def c_last_by : CS := (.seq (.asg (.var 2) (.tup 3 (.cons (.name 3) (.cons (.name 4) (.cons (.name 5) .nil))))) (.seq (.asg (.call "pencil_by" (.cons (.var 0) (.cons (.var 1) (.cons (.call "beyond" (.cons (.var 3) (.cons (.var 4) .nil))) .nil)))) (.name 6)) (.seq (.ret (.call "second_by" (.cons (.var 0) (.cons (.var 5) (.cons (.call "other_line" (.cons (.var 6) (.cons (.call "plain_of" (.cons (.call "cross" (.cons (.var 3) (.cons (.var 4) .nil))) .nil)) .nil))) .nil))))) .next)))
theorem k_last_by : compSs 60 ⟨n_last_by, (defScope s_last_by).names, none, [], false, bltsAll, true⟩ (defBody s_last_by) = some c_last_by := by kernel_rfl
theorem z_last_by : FnScope n_last_by ["curve", "other", "three"] (defScope s_last_by) := ⟨rfl, rfl, rfl, by decide +kernel, rfl, by decide +kernel, by decide +kernel⟩
def n_check_two_curves : List Str := ["curve", "other"]
def c_check_two_curves : CS := (.seq (.expr (.call "check_curve" (.cons (.var 0) .nil))) (.seq (.expr (.call "check_curve" (.cons (.var 1) .nil))) (.seq (.iff (.bl (.cmp .Eq (.var 0) (.var 1))) (.seq .never .next) .next) .next)))
theorem k_check_two_curves : compSs 60 ⟨n_check_two_curves, (defScope s_check_two_curves).names, none, [], false, bltsAll, true⟩ (defBody s_check_two_curves) = some c_check_two_curves := by kernel_rfl
theorem z_check_two_curves : FnScope n_check_two_curves ["curve", "other"] (defScope s_check_two_curves) := ⟨rfl, rfl, rfl, by decide +kernel, rfl, by decide +kernel, by decide +kernel⟩
def n_pencil_curve : List Str := ["curve", "other", "point"]
def c_pencil_curve : CS := (.seq (.expr (.call "check_two_curves" (.cons (.var 0) (.cons (.var 1) .nil)))) (.seq (.expr (.call "check_point" (.cons (.var 2) .nil))) (.seq (.iff (.and (.bl (.cmp .Eq (.call "value_by_curvepointwork" (.cons (.var 0) (.cons (.var 2) .nil))) (.lit (.int 0)))) (.bl (.cmp .Eq (.call "value_by_curvepointwork" (.cons (.var 1) (.cons (.var 2) .nil))) (.lit (.int 0))))) (.seq .never .next) .next) (.seq (.ret (.call "pencil_by" (.cons (.var 0) (.cons (.var 1) (.cons (.var 2) .nil))))) .next))))
theorem k_pencil_curve : compSs 60 ⟨n_pencil_curve, (defScope s_pencil_curve).names, none, [], false, bltsAll, true⟩ (defBody s_pencil_curve) = some c_pencil_curve := by kernel_rfl
theorem z_pencil_curve : FnScope n_pencil_curve ["curve", "other", "point"] (defScope s_pencil_curve) := ⟨rfl, rfl, rfl, by decide +kernel, rfl, by decide +kernel, by decide +kernel⟩
def n_are_in_pencil : List Str := ["curve", "other", "third"]
def c_are_in_pencil : CS := (.seq (.expr (.call "check_two_curves" (.cons (.var 0) (.cons (.var 1) .nil)))) (.seq (.expr (.call "check_curve" (.cons (.var 2) .nil))) (.seq (.ret (.call "are_dependent" (.cons (.tup (.cons (.var 0) (.cons (.var 1) (.cons (.var 2) .nil)))) .nil))) .next)))
theorem k_are_in_pencil : compSs 60 ⟨n_are_in_pencil, (defScope s_are_in_pencil).names, none, [], false, bltsAll, true⟩ (defBody s_are_in_pencil) = some c_are_in_pencil := by kernel_rfl
theorem z_are_in_pencil : FnScope n_are_in_pencil ["curve", "other", "third"] (defScope s_are_in_pencil) := ⟨rfl, rfl, rfl, by decide +kernel, rfl, by decide +kernel, by decide +kernel⟩
def n_last_common : List Str := ["curve", "other", "three"]
def c_last_common : CS := (.seq (.expr (.call "check_two_curves" (.cons (.var 0) (.cons (.var 1) .nil)))) (.seq (.expr (.call "check_figure" (.cons (.var 2) (.cons (.lit (.int 3)) (.cons (.lit (.int 3)) .nil))))) (.seq (.iff (.or (.not (.tru (.call "is_full_by" (.cons (.var 0) .nil)))) (.not (.tru (.call "is_full_by" (.cons (.var 1) .nil))))) (.seq .never .next) .next) (.seq (.iff (.or (.not (.tru (.call "are_on_by" (.cons (.var 0) (.cons (.var 2) .nil))))) (.not (.tru (.call "are_on_by" (.cons (.var 1) (.cons (.var 2) .nil)))))) (.seq .never .next) .next) (.seq (.ret (.call "last_by" (.cons (.var 0) (.cons (.var 1) (.cons (.var 2) .nil))))) .next)))))
theorem k_last_common : compSs 60 ⟨n_last_common, (defScope s_last_common).names, none, [], false, bltsAll, true⟩ (defBody s_last_common) = some c_last_common := by kernel_rfl
theorem z_last_common : FnScope n_last_common ["curve", "other", "three"] (defScope s_last_common) := ⟨rfl, rfl, rfl, by decide +kernel, rfl, by decide +kernel, by decide +kernel⟩
def n_is_on_curve : List Str := ["curve", "point"]
def c_is_on_curve : CS := (.seq (.expr (.call "check_curve" (.cons (.var 0) .nil))) (.seq (.expr (.call "check_point" (.cons (.var 1) .nil))) (.seq (.ret (.call "is_on_by" (.cons (.var 0) (.cons (.var 1) .nil)))) .next)))
theorem k_is_on_curve : compSs 60 ⟨n_is_on_curve, (defScope s_is_on_curve).names, none, [], false, bltsAll, true⟩ (defBody s_is_on_curve) = some c_is_on_curve := by kernel_rfl
theorem z_is_on_curve : FnScope n_is_on_curve ["curve", "point"] (defScope s_is_on_curve) := ⟨rfl, rfl, rfl, by decide +kernel, rfl, by decide +kernel, by decide +kernel⟩
def n_polar : List Str := ["curve", "point"]
def c_polar : CS := (.seq (.expr (.call "check_curve" (.cons (.var 0) .nil))) (.seq (.expr (.call "check_point" (.cons (.var 1) .nil))) (.seq (.expr (.call "check_full" (.cons (.var 0) .nil))) (.seq (.ret (.call "polar_by" (.cons (.var 0) (.cons (.var 1) .nil)))) .next))))
theorem k_polar : compSs 60 ⟨n_polar, (defScope s_polar).names, none, [], false, bltsAll, true⟩ (defBody s_polar) = some c_polar := by kernel_rfl
theorem z_polar : FnScope n_polar ["curve", "point"] (defScope s_polar) := ⟨rfl, rfl, rfl, by decide +kernel, rfl, by decide +kernel, by decide +kernel⟩
def n_turned_curve : List Str := ["view", "curve"]
def c_turned_curve : CS := (.seq (.expr (.call "check_view" (.cons (.var 0) .nil))) (.seq (.expr (.call "check_curve" (.cons (.var 1) .nil))) (.seq (.ret (.call "turned_by" (.cons (.var 0) (.cons (.var 1) .nil)))) .next)))
theorem k_turned_curve : compSs 60 ⟨n_turned_curve, (defScope s_turned_curve).names, none, [], false, bltsAll, true⟩ (defBody s_turned_curve) = some c_turned_curve := by kernel_rfl
theorem z_turned_curve : FnScope n_turned_curve ["view", "curve"] (defScope s_turned_curve) := ⟨rfl, rfl, rfl, by decide +kernel, rfl, by decide +kernel, by decide +kernel⟩
def n__law_pool : List Str := ["script", "lap", "cell", "stirred", "each"]
def c__law_pool : CS := (.seq (.asg (.ifx (.bl (.cmp .Lt (.var 1) (.bi .len (.cons (.var 0) .nil)))) (.bi .int (.cons (.idx (.var 0) (.var 1)) .nil)) (.bin .Add (.bin .Mult (.lit (.int 7495)) (.var 1)) (.lit (.int 757)))) (.name 2)) (.seq (.asg (.bin .Add (.lit (.int 67439)) (.bin .Mult (.lit (.int 8965)) (.var 1))) (.name 3)) (.seq (.forr (.seq (.sl (.var 0) .no (.at (.lit (.int 12))))) (.name 4) (.seq (.asg (.bin .Mod (.bi .int (.cons (.bin .Add (.bin .Add (.bin .Mult (.var 3) (.lit (.int 53469))) (.bin .Mod (.bi .int (.cons (.var 4) .nil)) (.lit (.int 2147483587)))) (.lit (.int 71))) .nil)) (.lit (.int 2147483647))) (.name 3)) .next)) (.seq (.asg (.bin .Mod (.bi .int (.cons (.bin .Add (.bin .Add (.bin .Mult (.var 3) (.lit (.int 81))) (.bin .Mult (.bin .Mod (.bi .int (.cons (.var 2) .nil)) (.lit (.int 2147483587))) (.lit (.int 27187)))) (.lit (.int 11))) .nil)) (.lit (.int 2147483647))) (.name 3)) (.seq (.ret (.own (.cons (.ifx (.or (.bl (.cmp .Lt (.var 2) (.lit (.int 0)))) (.bl (.cmp .GtE (.var 2) (.bin .Pow (.lit (.int 10)) (.lit (.int 15)))))) (.bin .Mod (.bi .int (.cons (.bi .abs (.cons (.var 2) .nil)) .nil)) (.bin .Pow (.lit (.int 10)) (.lit (.int 60)))) (.lit (.int 0))) (.cons (.var 3) (.cons (.lit (.int 0)) .nil))))) .next)))))
theorem k__law_pool : compSs 60 ⟨n__law_pool, (defScope s__law_pool).names, none, [], true, bltsAll, true⟩ (defBody s__law_pool) = some c__law_pool := by kernel_rfl
theorem z__law_pool : FnScope n__law_pool ["script", "lap"] (defScope s__law_pool) := ⟨rfl, rfl, rfl, by decide +kernel, rfl, by decide +kernel, by decide +kernel⟩
def n__law_below : List Str := ["pool", "many", "figure", "stirred"]
def c__law_below : CS := (.seq (.iff (.bl (.cmp .Gt (.idx (.var 0) (.lit (.int 0))) (.lit (.int 0)))) (.seq (.asg (.bi .divmod (.cons (.idx (.var 0) (.lit (.int 0))) (.cons (.var 1) .nil))) (.tup 2 (.cons (.sub (.var 0) (.lit (.int 0))) (.cons (.name 2) .nil)))) (.seq (.ret (.var 2)) .next)) .next) (.seq (.asg (.bin .Add (.idx (.var 0) (.lit (.int 2))) (.lit (.int 1))) (.sub (.var 0) (.lit (.int 2)))) (.seq (.asg (.bin .Mod (.bi .int (.cons (.bin .Add (.bin .Add (.bin .Mult (.idx (.var 0) (.lit (.int 1))) (.lit (.int 38013))) (.bin .Mult (.lit (.int 3257)) (.idx (.var 0) (.lit (.int 2))))) (.lit (.int 71))) .nil)) (.lit (.int 2147483563))) (.name 3)) (.seq (.asg (.bin .Mod (.bi .int (.cons (.bin .Add (.bin .Mult (.var 3) (.bin .Add (.bin .Mod (.bi .int (.cons (.var 3) .nil)) (.lit (.int 3989))) (.lit (.int 12437)))) (.idx (.var 0) (.lit (.int 2)))) .nil)) (.lit (.int 2147483563))) (.sub (.var 0) (.lit (.int 1)))) (.seq (.ret (.bin .Mod (.bi .int (.cons (.bin .FloorDiv (.idx (.var 0) (.lit (.int 1))) (.lit (.int 359))) .nil)) (.var 1))) .next)))))
theorem k__law_below : compSs 60 ⟨n__law_below, (defScope s__law_below).names, none, ["pool"], false, bltsAll, true⟩ (defBody s__law_below) = some c__law_below := by kernel_rfl
theorem z__law_below : FnScope n__law_below ["pool", "many"] (defScope s__law_below) := ⟨rfl, rfl, rfl, by decide +kernel, rfl, by decide +kernel, by decide +kernel⟩
def n__law_one : List Str := ["pool", "some"]
def c__law_one : CS := (.seq (.ret (.idx (.var 1) (.call "_law_below" (.cons (.var 0) (.cons (.bi .len (.cons (.var 1) .nil)) .nil))))) .next)
theorem k__law_one : compSs 60 ⟨n__law_one, (defScope s__law_one).names, none, [], false, bltsAll, true⟩ (defBody s__law_one) = some c__law_one := by kernel_rfl
theorem z__law_one : FnScope n__law_one ["pool", "some"] (defScope s__law_one) := ⟨rfl, rfl, rfl, by decide +kernel, rfl, by decide +kernel, by decide +kernel⟩
def n__law_common : List Str := ["numbers", "found", "each", "one", "two"]
def c__law_common : CS := (.seq (.asg (.lit (.int 0)) (.name 1)) (.seq (.forr (.seq (.var 0)) (.name 2) (.seq (.par2 3 4 (.cons (.var 1) (.cons (.bi .abs (.cons (.var 2) .nil)) .nil))) (.seq (.whil (.bl (.cmp .Gt (.var 4) (.lit (.int 0)))) (.seq (.par2 3 4 (.cons (.var 4) (.cons (.bin .Mod (.bi .int (.cons (.var 3) .nil)) (.var 4)) .nil))) .next)) (.seq (.asg (.var 3) (.name 1)) .next)))) (.seq (.ret (.var 1)) .next)))
theorem k__law_common : compSs 60 ⟨n__law_common, (defScope s__law_common).names, none, [], false, bltsAll, true⟩ (defBody s__law_common) = some c__law_common := by kernel_rfl
theorem z__law_common : FnScope n__law_common ["numbers"] (defScope s__law_common) := ⟨rfl, rfl, rfl, by decide +kernel, rfl, by decide +kernel, by decide +kernel⟩
def n__law_plain : List Str := ["numbers", "by", "first", ".0", "each"]
def c__law_plain : CS := (.seq (.asg (.call "_law_common" (.cons (.var 0) .nil)) (.name 1)) (.seq (.asg (.idx (.lc false (.seq (.var 0)) [3, 4] (.name 4) (.bl (.cmp .NotEq (.var 4) (.lit (.int 0)))) (.var 4)) (.lit (.int 0))) (.name 2)) (.seq (.asg (.ifx (.bl (.cmp .Gt (.var 2) (.lit (.int 0)))) (.var 1) (.bin .Sub (.lit (.int 0)) (.var 1))) (.name 1)) (.seq (.ret (.bi .tuple (.cons (.lc false (.seq (.var 0)) [3, 4] (.name 4) .yes (.bin .FloorDiv (.var 4) (.var 1))) .nil))) .next))))
theorem k__law_plain : compSs 60 ⟨n__law_plain, (defScope s__law_plain).names, none, [], false, bltsAll, true⟩ (defBody s__law_plain) = some c__law_plain := by kernel_rfl
theorem z__law_plain : FnScope n__law_plain ["numbers"] (defScope s__law_plain) := ⟨rfl, rfl, rfl, by decide +kernel, rfl, by decide +kernel, by decide +kernel⟩
def n__law_cross : List Str := ["one", "two"]
def c__law_cross : CS := (.seq (.ret (.tup (.cons (.bin .Sub (.bin .Mult (.idx (.var 0) (.lit (.int 1))) (.idx (.var 1) (.lit (.int 2)))) (.bin .Mult (.idx (.var 0) (.lit (.int 2))) (.idx (.var 1) (.lit (.int 1))))) (.cons (.bin .Sub (.bin .Mult (.idx (.var 0) (.lit (.int 2))) (.idx (.var 1) (.lit (.int 0)))) (.bin .Mult (.idx (.var 0) (.lit (.int 0))) (.idx (.var 1) (.lit (.int 2))))) (.cons (.bin .Sub (.bin .Mult (.idx (.var 0) (.lit (.int 0))) (.idx (.var 1) (.lit (.int 1)))) (.bin .Mult (.idx (.var 0) (.lit (.int 1))) (.idx (.var 1) (.lit (.int 0))))) .nil))))) .next)
theorem k__law_cross : compSs 60 ⟨n__law_cross, (defScope s__law_cross).names, none, [], false, bltsAll, true⟩ (defBody s__law_cross) = some c__law_cross := by kernel_rfl
theorem z__law_cross : FnScope n__law_cross ["one", "two"] (defScope s__law_cross) := ⟨rfl, rfl, rfl, by decide +kernel, rfl, by decide +kernel, by decide +kernel⟩
def n__law_dot : List Str := ["one", "two", ".0", "x", "y"]
def c__law_dot : CS := (.seq (.ret (.bi .sum (.cons (.lc false (.zip (.cons (.var 0) (.cons (.var 1) .nil))) [2, 3, 4] (.tup 2 (.cons (.name 3) (.cons (.name 4) .nil))) .yes (.bin .Mult (.var 3) (.var 4))) .nil))) .next)
theorem k__law_dot : compSs 60 ⟨n__law_dot, (defScope s__law_dot).names, none, [], false, bltsAll, true⟩ (defBody s__law_dot) = some c__law_dot := by kernel_rfl
theorem z__law_dot : FnScope n__law_dot ["one", "two"] (defScope s__law_dot) := ⟨rfl, rfl, rfl, by decide +kernel, rfl, by decide +kernel, by decide +kernel⟩
def n__law_block : List Str := ["one", "two", "three"]
def c__law_block : CS := (.seq (.ret (.call "_law_dot" (.cons (.var 0) (.cons (.call "_law_cross" (.cons (.var 1) (.cons (.var 2) .nil))) .nil)))) .next)
theorem k__law_block : compSs 60 ⟨n__law_block, (defScope s__law_block).names, none, [], false, bltsAll, true⟩ (defBody s__law_block) = some c__law_block := by kernel_rfl
theorem z__law_block : FnScope n__law_block ["one", "two", "three"] (defScope s__law_block) := ⟨rfl, rfl, rfl, by decide +kernel, rfl, by decide +kernel, by decide +kernel⟩
def n__law_times : List Str := ["rows", "point", ".0", "row"]
def c__law_times : CS := (.seq (.ret (.bi .tuple (.cons (.lc false (.seq (.var 0)) [2, 3] (.name 3) .yes (.call "_law_dot" (.cons (.var 3) (.cons (.var 1) .nil)))) .nil))) .next)
theorem k__law_times : compSs 60 ⟨n__law_times, (defScope s__law_times).names, none, [], false, bltsAll, true⟩ (defBody s__law_times) = some c__law_times := by kernel_rfl
theorem z__law_times : FnScope n__law_times ["rows", "point"] (defScope s__law_times) := ⟨rfl, rfl, rfl, by decide +kernel, rfl, by decide +kernel, by decide +kernel⟩
def n__law_point : List Str := ["pool", "wide", "found", ".0", "spot"]
def c__law_point : CS := (.seq (.asg (.bi .tuple (.cons (.lc false (.rng1 (.cons (.lit (.int 3)) .nil)) [3, 4] (.name 4) .yes (.bin .Sub (.call "_law_below" (.cons (.var 0) (.cons (.bin .Add (.bin .Mult (.lit (.int 2)) (.var 1)) (.lit (.int 1))) .nil))) (.var 1))) .nil)) (.name 2)) (.seq (.ret (.ifx (.tru (.bi .any (.cons (.var 2) .nil))) (.call "_law_plain" (.cons (.var 2) .nil)) (.tup (.cons (.lit (.int 1)) (.cons (.lit (.int 0)) (.cons (.lit (.int 0)) .nil)))))) .next))
theorem k__law_point : compSs 60 ⟨n__law_point, (defScope s__law_point).names, none, [], false, bltsAll, true⟩ (defBody s__law_point) = some c__law_point := by kernel_rfl
theorem z__law_point : FnScope n__law_point ["pool", "wide"] (defScope s__law_point) := ⟨rfl, rfl, rfl, by decide +kernel, rfl, by decide +kernel, by decide +kernel⟩
def n__law_view : List Str := ["pool", "wide", "lap", "rows", "flat", ".0", "spot"]
def c__law_view : CS := (.seq (.forr (.rng1 (.cons (.lit (.int 6)) .nil)) (.name 2) (.seq (.asg (.lc false (.rng1 (.cons (.lit (.int 3)) .nil)) [5, 6] (.name 6) .yes (.call "_law_point" (.cons (.var 0) (.cons (.var 1) .nil)))) (.name 3)) (.seq (.iff (.bl (.cmp .NotEq (.call "_law_block" (.cons (.idx (.var 3) (.lit (.int 0))) (.cons (.idx (.var 3) (.lit (.int 1))) (.cons (.idx (.var 3) (.lit (.int 2))) .nil)))) (.lit (.int 0)))) (.seq (.asg (.call "_law_plain" (.cons (.bin .Add (.bin .Add (.idx (.var 3) (.lit (.int 0))) (.idx (.var 3) (.lit (.int 1)))) (.idx (.var 3) (.lit (.int 2)))) .nil)) (.name 4)) (.seq (.ret (.tup (.cons (.sl (.var 4) .no (.at (.lit (.int 3)))) (.cons (.sl (.var 4) (.at (.lit (.int 3))) (.at (.lit (.int 6)))) (.cons (.sl (.var 4) (.at (.lit (.int 6))) .no) .nil))))) .next)) .next) .next))) (.seq (.ret (.tup (.cons (.tup (.cons (.lit (.int 1)) (.cons (.lit (.int 0)) (.cons (.lit (.int 0)) .nil)))) (.cons (.tup (.cons (.lit (.int 0)) (.cons (.lit (.int 1)) (.cons (.lit (.int 0)) .nil)))) (.cons (.tup (.cons (.lit (.int 0)) (.cons (.lit (.int 0)) (.cons (.lit (.int 1)) .nil)))) .nil))))) .next))
theorem k__law_view : compSs 60 ⟨n__law_view, (defScope s__law_view).names, none, [], false, bltsAll, true⟩ (defBody s__law_view) = some c__law_view := by kernel_rfl
theorem z__law_view : FnScope n__law_view ["pool", "wide"] (defScope s__law_view) := ⟨rfl, rfl, rfl, by decide +kernel, rfl, by decide +kernel, by decide +kernel⟩
def n__law_turn : List Str := ["view_there", "point"]
def c__law_turn : CS := (.seq (.ret (.call "_law_plain" (.cons (.call "_law_times" (.cons (.var 0) (.cons (.var 1) .nil))) .nil))) .next)
theorem k__law_turn : compSs 60 ⟨n__law_turn, (defScope s__law_turn).names, none, [], false, bltsAll, true⟩ (defBody s__law_turn) = some c__law_turn := by kernel_rfl
theorem z__law_turn : FnScope n__law_turn ["view_there", "point"] (defScope s__law_turn) := ⟨rfl, rfl, rfl, by decide +kernel, rfl, by decide +kernel, by decide +kernel⟩
def n__law_adjugate : List Str := ["rows", "one", "two", "three", "cols", ".0", "col", "spot"]
def c__law_adjugate : CS := (.seq (.asg (.var 0) (.tup 3 (.cons (.name 1) (.cons (.name 2) (.cons (.name 3) .nil))))) (.seq (.asg (.tup (.cons (.call "_law_cross" (.cons (.var 2) (.cons (.var 3) .nil))) (.cons (.call "_law_cross" (.cons (.var 3) (.cons (.var 1) .nil))) (.cons (.call "_law_cross" (.cons (.var 1) (.cons (.var 2) .nil))) .nil)))) (.name 4)) (.seq (.ret (.bi .tuple (.cons (.lc false (.rng1 (.cons (.lit (.int 3)) .nil)) [5, 7] (.name 7) .yes (.bi .tuple (.cons (.lc false (.seq (.var 4)) [5, 6] (.name 6) .yes (.idx (.var 6) (.var 7))) .nil))) .nil))) .next)))
theorem k__law_adjugate : compSs 60 ⟨n__law_adjugate, (defScope s__law_adjugate).names, none, [], false, bltsAll, true⟩ (defBody s__law_adjugate) = some c__law_adjugate := by kernel_rfl
theorem z__law_adjugate : FnScope n__law_adjugate ["rows"] (defScope s__law_adjugate) := ⟨rfl, rfl, rfl, by decide +kernel, rfl, by decide +kernel, by decide +kernel⟩
def n__law_table : List Str := ["curve", "a", "b", "c", "d", "e", "f"]
def c__law_table : CS := (.seq (.asg (.var 0) (.tup 6 (.cons (.name 1) (.cons (.name 2) (.cons (.name 3) (.cons (.name 4) (.cons (.name 5) (.cons (.name 6) .nil)))))))) (.seq (.ret (.tup (.cons (.tup (.cons (.bin .Mult (.lit (.int 2)) (.var 1)) (.cons (.var 6) (.cons (.var 5) .nil)))) (.cons (.tup (.cons (.var 6) (.cons (.bin .Mult (.lit (.int 2)) (.var 2)) (.cons (.var 4) .nil)))) (.cons (.tup (.cons (.var 5) (.cons (.var 4) (.cons (.bin .Mult (.lit (.int 2)) (.var 3)) .nil)))) .nil))))) .next))
theorem k__law_table : compSs 60 ⟨n__law_table, (defScope s__law_table).names, none, [], false, bltsAll, true⟩ (defBody s__law_table) = some c__law_table := by kernel_rfl
theorem z__law_table : FnScope n__law_table ["curve"] (defScope s__law_table) := ⟨rfl, rfl, rfl, by decide +kernel, rfl, by decide +kernel, by decide +kernel⟩
def n__law_value : List Str := ["curve", "point", "x", "y", "z"]
def c__law_value : CS := (.seq (.asg (.var 1) (.tup 3 (.cons (.name 2) (.cons (.name 3) (.cons (.name 4) .nil))))) (.seq (.ret (.call "_law_dot" (.cons (.var 0) (.cons (.tup (.cons (.bin .Mult (.var 2) (.var 2)) (.cons (.bin .Mult (.var 3) (.var 3)) (.cons (.bin .Mult (.var 4) (.var 4)) (.cons (.bin .Mult (.var 3) (.var 4)) (.cons (.bin .Mult (.var 2) (.var 4)) (.cons (.bin .Mult (.var 2) (.var 3)) .nil))))))) .nil)))) .next))
theorem k__law_value : compSs 60 ⟨n__law_value, (defScope s__law_value).names, none, [], false, bltsAll, true⟩ (defBody s__law_value) = some c__law_value := by kernel_rfl
theorem z__law_value : FnScope n__law_value ["curve", "point"] (defScope s__law_value) := ⟨rfl, rfl, rfl, by decide +kernel, rfl, by decide +kernel, by decide +kernel⟩
def n__law_is_full : List Str := ["curve", "rows"]
def c__law_is_full : CS := (.seq (.asg (.call "_law_table" (.cons (.var 0) .nil)) (.name 1)) (.seq (.ret (.cmp .NotEq (.call "_law_block" (.cons (.idx (.var 1) (.lit (.int 0))) (.cons (.idx (.var 1) (.lit (.int 1))) (.cons (.idx (.var 1) (.lit (.int 2))) .nil)))) (.lit (.int 0)))) .next))
theorem k__law_is_full : compSs 60 ⟨n__law_is_full, (defScope s__law_is_full).names, none, [], false, bltsAll, true⟩ (defBody s__law_is_full) = some c__law_is_full := by kernel_rfl
theorem z__law_is_full : FnScope n__law_is_full ["curve"] (defScope s__law_is_full) := ⟨rfl, rfl, rfl, by decide +kernel, rfl, by decide +kernel, by decide +kernel⟩
def n__law_turned_curve : List Str := ["view_there", "curve", "back", "rows", "cols", "new", ".0", "row", "spot", "two", "one"]
def c__law_turned_curve : CS := (.seq (.asg (.tup (.cons (.call "_law_adjugate" (.cons (.var 0) .nil)) (.cons (.call "_law_table" (.cons (.var 1) .nil)) .nil))) (.tup 2 (.cons (.name 2) (.cons (.name 3) .nil)))) (.seq (.asg (.bi .tuple (.cons (.lc false (.rng1 (.cons (.lit (.int 3)) .nil)) [6, 8] (.name 8) .yes (.bi .tuple (.cons (.lc false (.seq (.var 2)) [6, 7] (.name 7) .yes (.idx (.var 7) (.var 8))) .nil))) .nil)) (.name 4)) (.seq (.asg (.lc false (.seq (.var 4)) [6, 10] (.name 10) .yes (.lc false (.seq (.var 4)) [6, 9] (.name 9) .yes (.call "_law_dot" (.cons (.var 10) (.cons (.call "_law_times" (.cons (.var 3) (.cons (.var 9) .nil))) .nil))))) (.name 5)) (.seq (.ret (.call "_law_plain" (.cons (.tup (.cons (.idx (.idx (.var 5) (.lit (.int 0))) (.lit (.int 0))) (.cons (.idx (.idx (.var 5) (.lit (.int 1))) (.lit (.int 1))) (.cons (.idx (.idx (.var 5) (.lit (.int 2))) (.lit (.int 2))) (.cons (.bin .Mult (.lit (.int 2)) (.idx (.idx (.var 5) (.lit (.int 1))) (.lit (.int 2)))) (.cons (.bin .Mult (.lit (.int 2)) (.idx (.idx (.var 5) (.lit (.int 0))) (.lit (.int 2)))) (.cons (.bin .Mult (.lit (.int 2)) (.idx (.idx (.var 5) (.lit (.int 0))) (.lit (.int 1)))) .nil))))))) .nil))) .next))))
theorem k__law_turned_curve : compSs 60 ⟨n__law_turned_curve, (defScope s__law_turned_curve).names, none, [], false, bltsAll, true⟩ (defBody s__law_turned_curve) = some c__law_turned_curve := by kernel_rfl
theorem z__law_turned_curve : FnScope n__law_turned_curve ["view_there", "curve"] (defScope s__law_turned_curve) := ⟨rfl, rfl, rfl, by decide +kernel, rfl, by decide +kernel, by decide +kernel⟩
def n__law_round : List Str := ["pool", "many", "wide", "view_there", "found", "lap", "s", "t", "some", "left"]
def c__law_round : CS := (.seq (.par2 3 4 (.cons (.call "_law_view" (.cons (.var 0) (.cons (.var 2) .nil))) (.cons .newD .nil))) (.seq (.forr (.rng1 (.cons (.bin .Mult (.lit (.int 4)) (.var 1)) .nil)) (.name 5) (.seq (.par2 6 7 (.cons (.bin .Sub (.call "_law_below" (.cons (.var 0) (.cons (.bin .Add (.bin .Mult (.lit (.int 2)) (.var 1)) (.lit (.int 5))) .nil))) (.var 1)) (.cons (.call "_law_one" (.cons (.var 0) (.cons (.tup (.cons (.lit (.int 1)) (.cons (.lit (.int 1)) (.cons (.lit (.int 1)) (.cons (.lit (.int 2)) (.cons (.lit (.int 3)) .nil)))))) .nil))) .nil))) (.seq (.iff (.bl (.cmp .Lt (.bi .len (.cons (.var 4) .nil)) (.var 1))) (.seq (.asg (.lit (.bl true)) (.sub (.var 4) (.call "_law_turn" (.cons (.var 3) (.cons (.tup (.cons (.bin .Mult (.var 6) (.var 6)) (.cons (.bin .Mult (.var 6) (.var 7)) (.cons (.bin .Mult (.var 7) (.var 7)) .nil)))) .nil))))) .next) .next) .next))) (.seq (.forr (.rng2 (.cons (.lit (.int 20)) (.cons (.bin .Sub (.bin .Add (.lit (.int 20)) (.var 1)) (.bi .len (.cons (.var 4) .nil))) .nil))) (.name 6) (.seq (.asg (.lit (.bl true)) (.sub (.var 4) (.call "_law_turn" (.cons (.var 3) (.cons (.tup (.cons (.bin .Mult (.var 6) (.var 6)) (.cons (.var 6) (.cons (.lit (.int 1)) .nil)))) .nil))))) .next)) (.seq (.par2 8 9 (.cons (.own .nil) (.cons (.bi .sortedO (.cons (.var 4) .nil)) .nil))) (.seq (.forr (.rng1 (.cons (.var 1) .nil)) (.name 5) (.seq (.expr (.app (.var 8) (.cons (.pop (.var 9) (.cons (.call "_law_below" (.cons (.var 0) (.cons (.bi .len (.cons (.var 9) .nil)) .nil))) .nil)) .nil))) .next)) (.seq (.ret (.tup (.cons (.call "_law_turned_curve" (.cons (.var 3) (.cons (.tup (.cons (.lit (.int 0)) (.cons (.lit (.int 1)) (.cons (.lit (.int 0)) (.cons (.lit (.int 0)) (.cons (.neg (.lit (.int 1))) (.cons (.lit (.int 0)) .nil))))))) .nil))) (.cons (.bi .tuple (.cons (.var 8) .nil)) .nil)))) .next))))))
theorem k__law_round : compSs 60 ⟨n__law_round, (defScope s__law_round).names, none, ["found", "some", "left"], false, bltsAll, true⟩ (defBody s__law_round) = some c__law_round := by kernel_rfl
theorem z__law_round : FnScope n__law_round ["pool", "many", "wide"] (defScope s__law_round) := ⟨rfl, rfl, rfl, by decide +kernel, rfl, by decide +kernel, by decide +kernel⟩
def n__law_curve : List Str := ["pool", "wide", "way", "found", ".0", "spot"]
def c__law_curve : CS := (.seq (.asg (.call "_law_below" (.cons (.var 0) (.cons (.lit (.int 4)) .nil))) (.name 2)) (.seq (.iff (.bl (.cmp .Eq (.var 2) (.lit (.int 0)))) (.seq (.ret (.idx (.call "_law_round" (.cons (.var 0) (.cons (.lit (.int 3)) (.cons (.var 1) .nil)))) (.lit (.int 0)))) .next) .next) (.seq (.iff (.bl (.cmp .Eq (.var 2) (.lit (.int 1)))) (.seq (.ret (.call "_law_turned_curve" (.cons (.call "_law_view" (.cons (.var 0) (.cons (.var 1) .nil))) (.cons (.call "_law_one" (.cons (.var 0) (.cons (.tup (.cons (.tup (.cons (.lit (.int 1)) (.cons (.lit (.int 1)) (.cons (.lit (.int 1)) (.cons (.lit (.int 0)) (.cons (.lit (.int 0)) (.cons (.lit (.int 0)) .nil))))))) (.cons (.tup (.cons (.lit (.int 1)) (.cons (.lit (.int 1)) (.cons (.neg (.lit (.int 1))) (.cons (.lit (.int 0)) (.cons (.lit (.int 0)) (.cons (.lit (.int 0)) .nil))))))) (.cons (.tup (.cons (.lit (.int 0)) (.cons (.lit (.int 0)) (.cons (.lit (.int 0)) (.cons (.lit (.int 0)) (.cons (.lit (.int 0)) (.cons (.lit (.int 1)) .nil))))))) (.cons (.tup (.cons (.lit (.int 1)) (.cons (.lit (.int 0)) (.cons (.lit (.int 0)) (.cons (.lit (.int 0)) (.cons (.lit (.int 0)) (.cons (.lit (.int 0)) .nil))))))) (.cons (.tup (.cons (.lit (.int 1)) (.cons (.lit (.int 1)) (.cons (.lit (.int 0)) (.cons (.lit (.int 0)) (.cons (.lit (.int 0)) (.cons (.lit (.int 0)) .nil))))))) (.cons (.tup (.cons (.lit (.int 1)) (.cons (.lit (.int 2)) (.cons (.lit (.int 3)) (.cons (.lit (.int 0)) (.cons (.lit (.int 0)) (.cons (.lit (.int 0)) .nil))))))) .nil))))))) .nil))) .nil)))) .next) .next) (.seq (.asg (.bi .tuple (.cons (.lc false (.rng1 (.cons (.lit (.int 6)) .nil)) [4, 5] (.name 5) .yes (.bin .Sub (.call "_law_below" (.cons (.var 0) (.cons (.bin .Add (.bin .Mult (.lit (.int 2)) (.var 1)) (.lit (.int 1))) .nil))) (.var 1))) .nil)) (.name 3)) (.seq (.ret (.ifx (.tru (.bi .any (.cons (.var 3) .nil))) (.call "_law_plain" (.cons (.var 3) .nil)) (.tup (.cons (.lit (.int 1)) (.cons (.lit (.int 0)) (.cons (.lit (.int 0)) (.cons (.lit (.int 0)) (.cons (.lit (.int 0)) (.cons (.lit (.int 0)) .nil))))))))) .next)))))
theorem k__law_curve : compSs 60 ⟨n__law_curve, (defScope s__law_curve).names, none, [], false, bltsAll, true⟩ (defBody s__law_curve) = some c__law_curve := by kernel_rfl
theorem z__law_curve : FnScope n__law_curve ["pool", "wide"] (defScope s__law_curve) := ⟨rfl, rfl, rfl, by decide +kernel, rfl, by decide +kernel, by decide +kernel⟩
def n__law_same : List Str := ["told", "due", ".0", "x", "y"]
def c__law_same : CS := (.seq (.iff (.bl (.cmp .Is (.var 1) (.lit .non))) (.seq (.ret (.cmp .Is (.var 0) (.lit .non))) .next) .next) (.seq (.iff (.tru (.isi .bool (.var 1))) (.seq (.ret (.land (.isi .bool (.var 0)) (.cmp .Eq (.var 0) (.var 1)))) .next) .next) (.seq (.iff (.tru (.isi .int (.var 1))) (.seq (.ret (.land (.isi .int (.var 0)) (.land (.lnot (.isi .bool (.var 0))) (.cmp .Eq (.var 0) (.var 1))))) .next) .next) (.seq (.iff (.tru (.isi .str (.var 1))) (.seq (.ret (.land (.isi .str (.var 0)) (.cmp .Eq (.var 0) (.var 1)))) .next) .next) (.seq (.iff (.or (.not (.tru (.isi .tuple (.var 0)))) (.bl (.cmp .NotEq (.bi .len (.cons (.var 0) .nil)) (.bi .len (.cons (.var 1) .nil))))) (.seq (.ret (.lit (.bl false))) .next) .next) (.seq (.ret (.bi .all (.cons (.lc false (.zip (.cons (.var 0) (.cons (.var 1) .nil))) [2, 3, 4] (.tup 2 (.cons (.name 3) (.cons (.name 4) .nil))) .yes (.call "_law_same" (.cons (.var 3) (.cons (.var 4) .nil)))) .nil))) .next))))))
theorem k__law_same : compSs 60 ⟨n__law_same, (defScope s__law_same).names, none, [], false, bltsAll, true⟩ (defBody s__law_same) = some c__law_same := by kernel_rfl
theorem z__law_same : FnScope n__law_same ["told", "due"] (defScope s__law_same) := ⟨rfl, rfl, rfl, by decide +kernel, rfl, by decide +kernel, by decide +kernel⟩
def n__law_lines : List Str := ["one", "two", "a", "b", "c", "d", "e", "f"]
def c__law_lines : CS := (.seq (.asg (.var 0) (.tup 3 (.cons (.name 2) (.cons (.name 3) (.cons (.name 4) .nil))))) (.seq (.asg (.var 1) (.tup 3 (.cons (.name 5) (.cons (.name 6) (.cons (.name 7) .nil))))) (.seq (.ret (.tup (.cons (.bin .Mult (.var 2) (.var 5)) (.cons (.bin .Mult (.var 3) (.var 6)) (.cons (.bin .Mult (.var 4) (.var 7)) (.cons (.bin .Add (.bin .Mult (.var 3) (.var 7)) (.bin .Mult (.var 4) (.var 6))) (.cons (.bin .Add (.bin .Mult (.var 2) (.var 7)) (.bin .Mult (.var 4) (.var 5))) (.cons (.bin .Add (.bin .Mult (.var 2) (.var 6)) (.bin .Mult (.var 3) (.var 5))) .nil)))))))) .next)))
theorem k__law_lines : compSs 60 ⟨n__law_lines, (defScope s__law_lines).names, none, [], false, bltsAll, true⟩ (defBody s__law_lines) = some c__law_lines := by kernel_rfl
theorem z__law_lines : FnScope n__law_lines ["one", "two"] (defScope s__law_lines) := ⟨rfl, rfl, rfl, by decide +kernel, rfl, by decide +kernel, by decide +kernel⟩
def n__law_is_mixed : List Str := ["curve", "other", "third", "i", "j", "k", "rows", ".0", "each"]
def c__law_is_mixed : CS := (.seq (.forr (.rng1 (.cons (.lit (.int 6)) .nil)) (.name 3) (.seq (.forr (.rng1 (.cons (.var 3) .nil)) (.name 4) (.seq (.forr (.rng1 (.cons (.var 4) .nil)) (.name 5) (.seq (.asg (.lc false (.seq (.tup (.cons (.var 0) (.cons (.var 1) (.cons (.var 2) .nil))))) [7, 8] (.name 8) .yes (.tup (.cons (.idx (.var 8) (.var 3)) (.cons (.idx (.var 8) (.var 4)) (.cons (.idx (.var 8) (.var 5)) .nil))))) (.name 6)) (.seq (.iff (.bl (.cmp .NotEq (.call "_law_block" (.cons (.idx (.var 6) (.lit (.int 0))) (.cons (.idx (.var 6) (.lit (.int 1))) (.cons (.idx (.var 6) (.lit (.int 2))) .nil)))) (.lit (.int 0)))) (.seq (.ret (.lit (.bl false))) .next) .next) .next))) .next)) .next)) (.seq (.ret (.lit (.bl true))) .next))
theorem k__law_is_mixed : compSs 60 ⟨n__law_is_mixed, (defScope s__law_is_mixed).names, none, [], false, bltsAll, true⟩ (defBody s__law_is_mixed) = some c__law_is_mixed := by kernel_rfl
theorem z__law_is_mixed : FnScope n__law_is_mixed ["curve", "other", "third"] (defScope s__law_is_mixed) := ⟨rfl, rfl, rfl, by decide +kernel, rfl, by decide +kernel, by decide +kernel⟩
def n__law_pair : List Str := ["pool", "way", "curve", "points", "a", "b", "c", "d", "mate", "lap", "by", "second", ".0", "x", "y"]
def c__law_pair : CS := (.seq (.asg (.call "_law_round" (.cons (.var 0) (.cons (.lit (.int 4)) (.cons (.lit (.int 3)) .nil)))) (.tup 2 (.cons (.name 2) (.cons (.name 3) .nil)))) (.seq (.asg (.var 3) (.tup 4 (.cons (.name 4) (.cons (.name 5) (.cons (.name 6) (.cons (.name 7) .nil)))))) (.seq (.iff (.bl (.cmp .Eq (.var 1) (.lit (.int 0)))) (.seq (.asg (.call "_law_lines" (.cons (.call "_law_cross" (.cons (.var 4) (.cons (.var 5) .nil))) (.cons (.call "_law_cross" (.cons (.var 6) (.cons (.var 7) .nil))) .nil))) (.name 8)) .next) (.seq (.par2 8 7 (.cons (.call "_law_lines" (.cons (.call "_law_times" (.cons (.call "_law_table" (.cons (.var 2) .nil)) (.cons (.var 4) .nil))) (.cons (.call "_law_cross" (.cons (.var 5) (.cons (.var 6) .nil))) .nil))) (.cons (.var 4) .nil))) .next)) (.seq (.forr (.rng2 (.cons (.lit (.int 1)) (.cons (.lit (.int 9)) .nil))) (.name 9) (.seq (.asg (.bin .Add (.call "_law_one" (.cons (.var 0) (.cons (.tup (.cons (.lit (.int 1)) (.cons (.neg (.lit (.int 1))) (.cons (.lit (.int 2)) (.cons (.lit (.int 3)) .nil))))) .nil))) (.var 9)) (.name 10)) (.seq (.asg (.bi .tuple (.cons (.lc false (.zip (.cons (.var 2) (.cons (.var 8) .nil))) [12, 13, 14] (.tup 2 (.cons (.name 13) (.cons (.name 14) .nil))) .yes (.bin .Add (.var 13) (.bin .Mult (.var 10) (.var 14)))) .nil)) (.name 11)) (.seq (.iff (.and (.tru (.bi .any (.cons (.var 11) .nil))) (.tru (.call "_law_is_full" (.cons (.var 11) .nil)))) (.seq (.ret (.tup (.cons (.var 2) (.cons (.call "_law_plain" (.cons (.var 11) .nil)) (.cons (.tup (.cons (.var 4) (.cons (.var 5) (.cons (.var 6) .nil)))) (.cons (.var 7) .nil)))))) .next) .next) .next)))) (.seq (.ret (.tup (.cons (.var 2) (.cons (.lit .non) (.cons (.tup (.cons (.var 4) (.cons (.var 5) (.cons (.var 6) .nil)))) (.cons (.var 7) .nil)))))) .next)))))
theorem k__law_pair : compSs 60 ⟨n__law_pair, (defScope s__law_pair).names, none, [], false, bltsAll, true⟩ (defBody s__law_pair) = some c__law_pair := by kernel_rfl
theorem z__law_pair : FnScope n__law_pair ["pool", "way"] (defScope s__law_pair) := ⟨rfl, rfl, rfl, by decide +kernel, rfl, by decide +kernel, by decide +kernel⟩
def n__law_is_point_right : List Str := ["curve", "other", "point", "is_named", "told", "one", "two", ".0", "x", "y"]
def c__law_is_point_right : CS := (.seq (.iff (.and (.bl (.cmp .Eq (.call "_law_value" (.cons (.var 0) (.cons (.var 2) .nil))) (.lit (.int 0)))) (.bl (.cmp .Eq (.call "_law_value" (.cons (.var 1) (.cons (.var 2) .nil))) (.lit (.int 0))))) (.seq (.ret (.lit (.bl true))) .next) .next) (.seq (.asg (.ifx (.tru (.var 3)) (.callk "pencil_curve" ["point", "other", "curve"] (.cons (.var 2) (.cons (.var 1) (.cons (.var 0) .nil)))) (.call "pencil_curve" (.cons (.var 0) (.cons (.var 1) (.cons (.var 2) .nil))))) (.name 4)) (.seq (.asg (.tup (.cons (.call "_law_value" (.cons (.var 0) (.cons (.var 2) .nil))) (.cons (.call "_law_value" (.cons (.var 1) (.cons (.var 2) .nil))) .nil))) (.tup 2 (.cons (.name 5) (.cons (.name 6) .nil)))) (.seq (.iff (.or (.not (.tru (.call "_law_same" (.cons (.var 4) (.cons (.call "_law_plain" (.cons (.bi .tuple (.cons (.lc false (.zip (.cons (.var 0) (.cons (.var 1) .nil))) [7, 8, 9] (.tup 2 (.cons (.name 8) (.cons (.name 9) .nil))) .yes (.bin .Sub (.bin .Mult (.var 6) (.var 8)) (.bin .Mult (.var 5) (.var 9)))) .nil)) .nil)) .nil))))) (.bl (.cmp .IsNot (.call "is_on_curve" (.cons (.var 4) (.cons (.var 2) .nil))) (.lit (.bl true))))) (.seq (.ret (.lit (.bl false))) .next) .next) (.seq (.iff (.or (.bl (.cmp .NotEq (.cmp .Eq (.var 4) (.var 0)) (.cmp .Eq (.var 5) (.lit (.int 0))))) (.bl (.cmp .NotEq (.cmp .Eq (.var 4) (.var 1)) (.cmp .Eq (.var 6) (.lit (.int 0)))))) (.seq (.ret (.lit (.bl false))) .next) .next) (.seq (.ret (.ifx (.tru (.var 3)) (.cmp .Is (.callk "are_in_pencil" ["third", "other", "curve"] (.cons (.var 4) (.cons (.var 1) (.cons (.var 0) .nil)))) (.lit (.bl true))) (.cmp .Is (.call "are_in_pencil" (.cons (.var 0) (.cons (.var 1) (.cons (.var 4) .nil)))) (.lit (.bl true))))) .next))))))
theorem k__law_is_point_right : compSs 60 ⟨n__law_is_point_right, (defScope s__law_is_point_right).names, none, [], false, bltsAll, true⟩ (defBody s__law_is_point_right) = some c__law_is_point_right := by kernel_rfl
theorem z__law_is_point_right : FnScope n__law_is_point_right ["curve", "other", "point", "is_named"] (defScope s__law_is_point_right) := ⟨rfl, rfl, rfl, by decide +kernel, rfl, by decide +kernel, by decide +kernel⟩
def n__law_right : List Str := ["pool", "lap", "curve", "other", "three", "last", "told", "touches", "view_there", "some", "one", "two", "third", ".0", "point", "turn"]
def c__law_right : CS := (.seq (.forr (.rng1 (.cons (.lit (.int 16)) .nil)) (.name 1) (.seq (.asg (.call "_law_pair" (.cons (.var 0) (.cons (.bin .Mod (.bi .int (.cons (.var 1) .nil)) (.lit (.int 2))) .nil))) (.tup 4 (.cons (.name 2) (.cons (.name 3) (.cons (.name 4) (.cons (.name 5) .nil)))))) (.seq (.iff (.and (.bl (.cmp .IsNot (.var 3) (.lit .non))) (.bl (.cmp .NotEq (.var 3) (.var 2)))) (.seq (.asg (.ifx (.bl (.cmp .Eq (.var 1) (.lit (.int 1)))) (.callk "last_common" ["three", "other", "curve"] (.cons (.var 4) (.cons (.var 3) (.cons (.var 2) .nil)))) (.call "last_common" (.cons (.var 2) (.cons (.var 3) (.cons (.var 4) .nil))))) (.name 6)) (.seq (.iff (.or (.not (.tru (.call "_law_same" (.cons (.var 6) (.cons (.var 5) .nil))))) (.or (.not (.tru (.call "_law_same" (.cons (.call "last_common" (.cons (.var 3) (.cons (.var 2) (.cons (.rev (.var 4)) .nil)))) (.cons (.var 5) .nil))))) (.or (.bl (.cmp .NotEq (.call "_law_value" (.cons (.var 2) (.cons (.var 6) .nil))) (.lit (.int 0)))) (.bl (.cmp .NotEq (.call "_law_value" (.cons (.var 3) (.cons (.var 6) .nil))) (.lit (.int 0))))))) (.seq (.ret (.lit (.bl false))) .next) .next) (.seq (.asg (.lc false (.seq (.var 4)) [13, 14] (.name 14) (.bl (.cmp .Eq (.call "polar" (.cons (.var 2) (.cons (.var 14) .nil))) (.call "polar" (.cons (.var 3) (.cons (.var 14) .nil))))) (.var 14)) (.name 7)) (.seq (.iff (.or (.bl (.cmp .NotEq (.cmp .In (.var 6) (.var 4)) (.cmp .NotEq (.var 7) (.lst .nil)))) (.and (.bl (.cmp .NotEq (.var 7) (.lst .nil))) (.bl (.cmp .NotEq (.var 6) (.idx (.var 7) (.lit (.int 0))))))) (.seq (.ret (.lit (.bl false))) .next) .next) (.seq (.asg (.call "_law_view" (.cons (.var 0) (.cons (.lit (.int 3)) .nil))) (.name 8)) (.seq (.asg (.bi .tuple (.cons (.lc false (.seq (.var 4)) [13, 14] (.name 14) .yes (.call "_law_turn" (.cons (.var 8) (.cons (.var 14) .nil)))) .nil)) (.name 9)) (.seq (.iff (.not (.tru (.call "_law_same" (.cons (.call "last_common" (.cons (.call "turned_curve" (.cons (.var 8) (.cons (.var 2) .nil))) (.cons (.call "turned_curve" (.cons (.var 8) (.cons (.var 3) .nil))) (.cons (.var 9) .nil)))) (.cons (.call "_law_turn" (.cons (.var 8) (.cons (.var 6) .nil))) .nil))))) (.seq (.ret (.lit (.bl false))) .next) .next) .next))))))) .next) (.seq (.asg (.tup (.cons (.call "_law_curve" (.cons (.var 0) (.cons (.lit (.int 4)) .nil))) (.cons (.call "_law_curve" (.cons (.var 0) (.cons (.lit (.int 4)) .nil))) .nil))) (.tup 2 (.cons (.name 10) (.cons (.name 11) .nil)))) (.seq (.iff (.bl (.cmp .NotEq (.var 10) (.var 11))) (.seq (.iff (.not (.tru (.bi .all (.cons (.lc false (.rng1 (.cons (.lit (.int 3)) .nil)) [13, 15] (.name 15) .yes (.call "_law_is_point_right" (.cons (.var 10) (.cons (.var 11) (.cons (.call "_law_point" (.cons (.var 0) (.cons (.lit (.int 4)) .nil))) (.cons (.cmp .Eq (.var 1) (.lit (.int 2))) .nil)))))) .nil)))) (.seq (.ret (.lit (.bl false))) .next) .next) (.seq (.asg (.call "_law_one" (.cons (.var 0) (.cons (.tup (.cons (.call "_law_curve" (.cons (.var 0) (.cons (.lit (.int 4)) .nil))) (.cons (.var 10) (.cons (.var 11) .nil)))) .nil))) (.name 12)) (.seq (.iff (.not (.tru (.call "_law_same" (.cons (.call "are_in_pencil" (.cons (.var 10) (.cons (.var 11) (.cons (.var 12) .nil)))) (.cons (.call "_law_is_mixed" (.cons (.var 10) (.cons (.var 11) (.cons (.var 12) .nil)))) .nil))))) (.seq (.ret (.lit (.bl false))) .next) .next) .next))) .next) (.seq (.iff (.and (.bl (.cmp .IsNot (.var 3) (.lit .non))) (.and (.bl (.cmp .NotEq (.var 3) (.var 2))) (.not (.tru (.bi .all (.cons (.lc false (.seq (.tup (.cons (.var 5) (.cons (.tup (.cons (.lit (.int 1)) (.cons (.lit (.int 2)) (.cons (.lit (.int 3)) .nil)))) (.cons (.tup (.cons (.lit (.int 3)) (.cons (.lit (.int 1)) (.cons (.lit (.int 1)) .nil)))) .nil))))) [13, 14] (.name 14) .yes (.call "_law_is_point_right" (.cons (.var 2) (.cons (.var 3) (.cons (.var 14) (.cons (.lit (.bl false)) .nil)))))) .nil)))))) (.seq (.ret (.lit (.bl false))) .next) .next) .next)))))) (.seq (.ret (.lit (.bl true))) .next))
theorem k__law_right : compSs 60 ⟨n__law_right, (defScope s__law_right).names, none, [], false, bltsAll, true⟩ (defBody s__law_right) = some c__law_right := by kernel_rfl
theorem z__law_right : FnScope n__law_right ["pool"] (defScope s__law_right) := ⟨rfl, rfl, rfl, by decide +kernel, rfl, by decide +kernel, by decide +kernel⟩
def n_law : List Str := ["script", ".0", "lap"]
def c_law : CS := (.seq (.ret (.bi .all (.cons (.lc false (.rng1 (.cons (.bi .max (.cons (.lit (.int 1)) (.cons (.bi .min (.cons (.bi .len (.cons (.var 0) .nil)) (.cons (.lit (.int 2)) .nil))) .nil))) .nil)) [1, 2] (.name 2) .yes (.call "_law_right" (.cons (.call "_law_pool" (.cons (.var 0) (.cons (.var 2) .nil))) .nil))) .nil))) .next)
theorem k_law : compSs 60 ⟨n_law, (defScope s_law).names, none, [], false, bltsAll, true⟩ (defBody s_law) = some c_law := by kernel_rfl
theorem z_law : FnScope n_law ["script"] (defScope s_law) := ⟨rfl, rfl, rfl, by decide +kernel, rfl, by decide +kernel, by decide +kernel⟩
end PyD

set_option Elab.async false
set_option linter.all false
set_option maxRecDepth 100000
set_option maxHeartbeats 1000000
set_option exponentiation.threshold 10000
/-! CnB: readings of the program's defs on triples, tables, conics. -/
namespace PyD
open PySem PySem.Spec PyProof.Rows L2
def t3 (v : V3) : D := ti v.l
def t6 (k : V6) : D := ti k.l
def vw (M : M3) : D := .tup [t3 M.a, t3 M.b, t3 M.c]
def tv (ps : List V3) : D := .tup (ps.map t3)
def BL (n : Nat) (is : List Int) : Prop := ∀ i ∈ is, B n i
def V3.B (n : Nat) (v : V3) : Prop := PyD.B n v.x ∧ PyD.B n v.y ∧ PyD.B n v.z
structure V6.B (n : Nat) (k : V6) : Prop where
  a : PyD.B n k.a
  b : PyD.B n k.b
  c : PyD.B n k.c
  d : PyD.B n k.d
  e : PyD.B n k.e
  f : PyD.B n k.f
def M3.B (n : Nat) (M : M3) : Prop := M.a.B n ∧ M.b.B n ∧ M.c.B n
theorem V3.B.mono {n m : Nat} {v : V3} (h : v.B n) (hm : n ≤ m) : v.B m := ⟨h.1.mono hm, h.2.1.mono hm, h.2.2.mono hm⟩
theorem V6.B.mono {n m : Nat} {v : V6} (h : v.B n) (hm : n ≤ m) : v.B m := ⟨h.a.mono hm, h.b.mono hm, h.c.mono hm, h.d.mono hm, h.e.mono hm, h.f.mono hm⟩
theorem M3.B.mono {n m : Nat} {v : M3} (h : v.B n) (hm : n ≤ m) : v.B m := ⟨h.1.mono hm, h.2.1.mono hm, h.2.2.mono hm⟩
theorem V3.B.l {n : Nat} {v : V3} (h : v.B n) : BL n v.l := fun i hi => by
  simp only [V3.l, List.mem_cons, List.not_mem_nil, or_false] at hi
  rcases hi with rfl | rfl | rfl
  · exact h.1
  · exact h.2.1
  · exact h.2.2
theorem V3.B.of {n : Nat} {v : V3} (h : BL n v.l) : v.B n := ⟨h _ (by simp [V3.l]), h _ (by simp [V3.l]), h _ (by simp [V3.l])⟩
theorem V6.B.l {n : Nat} {v : V6} (h : v.B n) : BL n v.l := fun i hi => by
  simp only [V6.l, List.mem_cons, List.not_mem_nil, or_false] at hi
  rcases hi with rfl | rfl | rfl | rfl | rfl | rfl
  · exact h.a
  · exact h.b
  · exact h.c
  · exact h.d
  · exact h.e
  · exact h.f
theorem V6.B.of {n : Nat} {v : V6} (h : BL n v.l) : v.B n := ⟨h _ (by simp [V6.l]), h _ (by simp [V6.l]), h _ (by simp [V6.l]), h _ (by simp [V6.l]), h _ (by simp [V6.l]), h _ (by simp [V6.l])⟩
theorem BL.mono {n m : Nat} {is : List Int} (h : BL n is) (hm : n ≤ m) : BL m is := fun i hi => (h i hi).mono hm
theorem B_le {n : Nat} {x : Int} {N : Nat} (h : x.natAbs ≤ N) (hN : N < 2 ^ n) : B n x := Nat.lt_of_le_of_lt h hN
theorem B_lt {n : Nat} {x : Int} (h0 : 0 ≤ x) (h : x < 2 ^ n) : B n x := by
  unfold B
  have : ((2 ^ n : Nat) : Int) = (2 : Int) ^ n := by simp
  omega
theorem pl_B {n : Nat} {is : List Int} (h : BL n is) : BL n (pl is) := fun j hj => by
  unfold pl at hj
  obtain ⟨i, hi, rfl⟩ := List.mem_map.mp hj
  exact Nat.lt_of_le_of_lt (fdiv_abs_le (sgd_dvd hi)) (h i hi)
theorem sgd_B {n : Nat} {is : List Int} (h : BL n is) (hl : live is ≠ 0) : B n (sgd is) := Nat.lt_of_le_of_lt (sgd_le hl) (h _ (live_mem hl))
theorem V3.B.p3 {n : Nat} {v : V3} (h : v.B n) : (p3 v).B n := V3.B.of (pl_B h.l)
theorem V6.B.p6 {n : Nat} {v : V6} (h : v.B n) : (p6 v).B n := V6.B.of (pl_B h.l)
theorem V3.B.cross {n m : Nat} {a b : V3} (ha : a.B n) (hb : b.B m) : (cross a b).B (n + m + 1) := ⟨(ha.2.1.mul hb.2.2).sub (ha.2.2.mul hb.2.1), (ha.2.2.mul hb.1).sub (ha.1.mul hb.2.2), (ha.1.mul hb.2.1).sub (ha.2.1.mul hb.1)⟩
theorem V3.B.dot {n m : Nat} {a b : V3} (ha : a.B n) (hb : b.B m) : PyD.B (n + m + 2) (dot a b) := ((ha.1.mul hb.1).add (ha.2.1.mul hb.2.1)).add ((ha.2.2.mul hb.2.2).mono (by omega))
theorem V3.B.sm {n m : Nat} {a : V3} {k : Int} (hk : PyD.B n k) (ha : a.B m) : (sm k a).B (n + m) := ⟨hk.mul ha.1, hk.mul ha.2.1, hk.mul ha.2.2⟩
theorem V3.B.ad {n : Nat} {a b : V3} (ha : a.B n) (hb : b.B n) : (ad a b).B (n + 1) := ⟨ha.1.add hb.1, ha.2.1.add hb.2.1, ha.2.2.add hb.2.2⟩
theorem M3.B.mv {n m : Nat} {M : M3} {v : V3} (hM : M.B n) (hv : v.B m) : (mv M v).B (n + m + 2) := ⟨hM.1.dot hv, hM.2.1.dot hv, hM.2.2.dot hv⟩
theorem M3.B.tr {n : Nat} {M : M3} (h : M.B n) : (tr M).B n := ⟨⟨h.1.1, h.2.1.1, h.2.2.1⟩, ⟨h.1.2.1, h.2.1.2.1, h.2.2.2.1⟩, ⟨h.1.2.2, h.2.1.2.2, h.2.2.2.2⟩⟩
theorem M3.B.adj {n : Nat} {M : M3} (h : M.B n) : (adj M).B (n + n + 1) := M3.B.tr ⟨h.2.1.cross h.2.2, h.2.2.cross h.1, h.1.cross h.2.1⟩
theorem M3.B.mm {n m : Nat} {A C : M3} (ha : A.B n) (hb : C.B m) : (mm A C).B (n + m + 2) := ⟨⟨ha.1.dot hb.tr.1, ha.1.dot hb.tr.2.1, ha.1.dot hb.tr.2.2⟩, ⟨ha.2.1.dot hb.tr.1, ha.2.1.dot hb.tr.2.1, ha.2.1.dot hb.tr.2.2⟩, ⟨ha.2.2.dot hb.tr.1, ha.2.2.dot hb.tr.2.1, ha.2.2.dot hb.tr.2.2⟩⟩
theorem B2 : B 2 2 := by unfold B; decide
theorem V6.B.tb {n : Nat} {k : V6} (h : k.B n) : (tb k).B (n + 2) :=
  ⟨⟨(B2.mul h.a).mono (by omega), h.f.mono (by omega), h.e.mono (by omega)⟩, ⟨h.f.mono (by omega), (B2.mul h.b).mono (by omega), h.d.mono (by omega)⟩, ⟨h.e.mono (by omega), h.d.mono (by omega), (B2.mul h.c).mono (by omega)⟩⟩
theorem V6.B.bf {n m r : Nat} {k : V6} {p q : V3} (h : k.B n) (hp : p.B m) (hq : q.B r) : PyD.B (m + (n + 2 + r + 2) + 2) (bf k p q) := hp.dot (h.tb.mv hq)
theorem V6.B.qv {n m : Nat} {k : V6} {p : V3} (h : k.B n) (hp : p.B m) : PyD.B (n + (m + m) + 5) (qv k p) := by
  have e : ∀ {x : Int} {y z : Int}, PyD.B n x → PyD.B m y → PyD.B m z → PyD.B (n + (m + m)) (x * (y * z)) := fun a b c => a.mul (b.mul c)
  exact (((((e h.a hp.1 hp.1).add (e h.b hp.2.1 hp.2.1)).add ((e h.c hp.2.2 hp.2.2).mono (by omega))).add ((e h.d hp.2.1 hp.2.2).mono (by omega))).add ((e h.e hp.1 hp.2.2).mono (by omega))).add ((e h.f hp.1 hp.2.1).mono (by omega))
theorem ax_B (i : Nat) : (ax i).B 1 := by
  refine ⟨?_, ?_, ?_⟩ <;> unfold ax B <;> simp only <;> split <;> decide
theorem oth_B {n : Nat} {l p : V3} (h : l.B n) : (oth l p).B (n + 2) := (h.cross (ax_B _)).mono (by omega)
theorem sec_B {a b c : Nat} {k : V6} {p l : V3} (hk : k.B a) (hp : p.B b) (hl : l.B c) : (sec k p l).B (a + b + c + c + 20) := by
  have ho : (oth l p).B (c + 2) := oth_B hl
  have h1 : PyD.B (a + c + c + 9) (qv k (oth l p)) := (hk.qv ho).mono (by omega)
  have h2 : PyD.B (b + (a + 2 + (c + 2) + 2) + 2) (-(bf k p (oth l p))) := (hk.bf hp ho).neg
  have h3 : (sm (qv k (oth l p)) p).B (a + b + c + c + 19) := (V3.B.sm h1 hp).mono (by omega)
  have h4 : (sm (-(bf k p (oth l p))) (oth l p)).B (a + b + c + c + 19) := (V3.B.sm h2 ho).mono (by omega)
  exact (h3.ad h4).mono (by omega)
theorem rc_B {a b : Nat} {A : M3} {k : V6} (hA : A.B a) (hk : k.B b) : (rc A k).B (b + a + a + 10) := by
  have h := hA.tr
  exact ⟨(hk.qv h.1).mono (by omega), (hk.qv h.2.1).mono (by omega), (hk.qv h.2.2).mono (by omega), (hk.bf h.2.1 h.2.2).mono (by omega), (hk.bf h.1 h.2.2).mono (by omega), (hk.bf h.1 h.2.1).mono (by omega)⟩
theorem tc_B {a b : Nat} {V : M3} {k : V6} (hV : V.B a) (hk : k.B b) : (tc V k).B (b + a + a + a + a + 12) := ((rc_B hV.adj hk).p6).mono (by omega)
/-! ### readings of data -/
theorem seqOf_ref {S : Sto} {a : Addr} {ds : List D} (h : S a = some (.ml ds)) : seqOf S (.ref a) = some ds := by
  show (match S a with | some (.ml ds) => some ds | _ => none) = _
  rw [h]
theorem seqW_of {S : Sto} {d : D} {ds : List D} {P : List D → Prop} (h : seqOf S d = some ds) (p : P ds) : seqW S d P := by
  cases d with
  | tup xs => cases h; exact p
  | ctu xs => cases h; exact p
  | scr xs => cases h; exact p
  | lst xs => cases h; exact p
  | ref a =>
    have h' : (match S a with | some (.ml ds) => some ds | _ => none) = some ds := h
    cases e : S a with
    | none => rw [e] at h'; cases h'
    | some m =>
      rw [e] at h'
      cases m with
      | ml es => cases h'; exact refW_of e p
      | _ => cases h'
  | _ => cases h
theorem q_idxL {xs : List D} {n : Nat} {d : D} {S : Sto} {Q : QD} (h : xs[n]? = some d) (q : Q d S) : dIdx (.lst xs) (.int (n : Int)) S Q := by
  show (match xs[n]? with | some d => Q d S | none => False)
  rw [h]; exact q
theorem q_idxT {xs : List D} {n : Nat} {d : D} {S : Sto} {Q : QD} (h : xs[n]? = some d) (q : Q d S) : dIdx (.tup xs) (.int (n : Int)) S Q := by
  show (match xs[n]? with | some d => Q d S | none => False)
  rw [h]; exact q
theorem zipD_mem : ∀ {is js : List Int} {x : D}, x ∈ zipD (is.map D.int) (js.map D.int) → ∃ a b, a ∈ is ∧ b ∈ js ∧ x = .tup [.int a, .int b]
  | [], _, _, h => by cases h
  | _ :: _, [], _, h => by cases h
  | i :: is, j :: js, x, h => by
    rw [List.map_cons, List.map_cons, zipD] at h
    rcases List.mem_cons.mp h with rfl | h
    · exact ⟨i, j, List.mem_cons_self .., List.mem_cons_self .., rfl⟩
    · obtain ⟨a, b, h1, h2, e⟩ := zipD_mem h
      exact ⟨a, b, List.mem_cons_of_mem _ h1, List.mem_cons_of_mem _ h2, e⟩
def onP (f : Int → Int → D) (d : D) : D := match d with
  | .tup [.int a, .int b] => f a b
  | _ => .non
theorem zipD_map {f : Int → Int → D} : ∀ {is js : List Int}, (zipD (is.map D.int) (js.map D.int)).map (onP f) = (is.zip js).map fun p => f p.1 p.2
  | [], _ => rfl
  | _ :: _, [] => rfl
  | i :: is, j :: js => by
    rw [List.map_cons, List.map_cons, zipD, List.map_cons, zipD_map, List.zip_cons_cons, List.map_cons]; rfl
theorem zipI_len : ∀ {is js : List Int}, (zipD (is.map D.int) (js.map D.int)).length ≤ is.length
  | [], _ => Nat.zero_le _
  | _ :: _, [] => Nat.zero_le _
  | i :: is, j :: js => by
    rw [List.map_cons, List.map_cons, zipD, List.length_cons, List.length_cons]
    exact Nat.succ_le_succ zipI_len
/-- a walk over two rows of ints at once -/
theorem tc_zip {g : GD} {te : TD} {chk : Sto → Prop} {σ : SD} {S : Sto} {Q : List D → Sto → Prop} (f : Int → Int → D) (hs : chk S) {is js : List Int} (hl : is.length ≤ 100000)
    (h : ∀ a ∈ is, ∀ b ∈ js, ∀ N : D → Sto → Prop, N (f a b) S → g (.tup [.int a, .int b]) σ S fun σ2 S2 => te σ2 S2 N) (q : Q ((is.zip js).map fun p => f p.1 p.2) S) : tcomp g tyes te chk σ Q (zipD (is.map D.int) (js.map D.int)) [] S := by
  refine tcomp_map (onP f) hs _ [] (by have := zipI_len (is := is) (js := js); simp; omega) (fun x hx N hN => ?_) ?_
  · obtain ⟨a, b, ha, hb, rfl⟩ := zipD_mem hx
    exact h a ha b hb N hN
  · rw [List.nil_append, zipD_map]; exact q
/-- a walk over a row of ints -/
theorem tc_ints {g : GD} {te : TD} {chk : Sto → Prop} {σ : SD} {S : Sto} {Q : List D → Sto → Prop} (f : Int → D) (hs : chk S) {is : List Int} (hl : is.length ≤ 100000)
    (h : ∀ a ∈ is, ∀ N : D → Sto → Prop, N (f a) S → g (.int a) σ S fun σ2 S2 => te σ2 S2 N) (q : Q (is.map f) S) : tcomp g tyes te chk σ Q (is.map D.int) [] S := by
  refine tcomp_map (fun d => match d with | .int a => f a | _ => .non) hs _ [] (by simp; omega) (fun x hx N hN => ?_) ?_
  · obtain ⟨a, ha, rfl⟩ := List.mem_map.mp hx
    exact h a ha N hN
  · rw [List.nil_append, List.map_map]; exact q
def dotL (is js : List Int) : Int := ((is.zip js).map fun p => p.1 * p.2).sum
theorem dotL3 {a b : V3} : dotL a.l b.l = dot a b := by simp [dotL, V3.l, dot]; omega
theorem q_any3 {S : Sto} {Q : QD} {v : V3} (q : Q (.bl (decide (v.x ≠ 0 ∨ v.y ≠ 0 ∨ v.z ≠ 0))) S) : dAnyX (fun ks => ks.any id) [t3 v] S Q := by
  unfold dAnyX
  show Q (.bl ([v.x != 0, v.y != 0, v.z != 0].any id)) S
  have e : ([v.x != 0, v.y != 0, v.z != 0].any id) = decide (v.x ≠ 0 ∨ v.y ≠ 0 ∨ v.z ≠ 0) := by
    by_cases h1 : v.x = 0 <;> by_cases h2 : v.y = 0 <;> by_cases h3 : v.z = 0 <;> simp [h1, h2, h3]
  rw [e]; exact q
/-! ### promises -/
def e_is_whole : DSp := fun ds S Q => ∃ i, ds = [.int i] ∧ Q (.bl true) S
def e_up_to : DSp := fun ds S Q => ∃ xs lo hi, ds = [.tup xs, .int lo, .int hi] ∧ lo ≤ xs.length ∧ xs.length ≤ hi ∧ Q (.bl true) S
def e_tuple_of : DSp := fun ds S Q => ∃ (xs : List D) (m : Int), ds = [.tup xs, .int m] ∧ m = xs.length ∧ Q (.bl true) S
def e_are_whole : DSp := fun ds S Q => ∃ (is : List Int) (m : Int), ds = [ti is, .int m] ∧ m = is.length ∧ is.length ≤ 1000 ∧ Q (.bl true) S
def e_divisor_of : DSp := fun ds S Q => ∃ (x : D) (is : List Int), ds = [x] ∧ seqOf S x = some (is.map D.int) ∧ Q (.int (gcdL is)) S
def e_first_live : DSp := fun ds S Q => ∃ (x : D) (is : List Int), ds = [x] ∧ seqOf S x = some (is.map D.int) ∧ Q (.int (live is)) S
def e_plain : DSp := fun ds S Q => ∃ (x : D) (is : List Int), ds = [x] ∧ seqOf S x = some (is.map D.int) ∧ is.length ≤ 1000 ∧ live is ≠ 0 ∧ BL 8000 is ∧ Q (ti (pl is)) S
def e_is_plain : DSp := fun ds S Q => ∃ (is : List Int) (m : Int), ds = [ti is, .int m] ∧ m = is.length ∧ is.length ≤ 1000 ∧ PlainL is ∧ Q (.bl true) S
def e_dot : DSp := fun ds S Q => ∃ (x y : D) (is js : List Int), ds = [x, y] ∧ seqOf S x = some (is.map D.int) ∧ seqOf S y = some (js.map D.int) ∧ is.length ≤ 1000 ∧ BL 300000 is ∧ BL 300000 js ∧ Q (.int (dotL is js)) S
def e_cross : DSp := fun ds S Q => ∃ a b, ds = [t3 a, t3 b] ∧ a.B 100000 ∧ b.B 100000 ∧ Q (t3 (cross a b)) S
def e_block : DSp := fun ds S Q => ∃ a b c, ds = [t3 a, t3 b, t3 c] ∧ a.B 100000 ∧ b.B 100000 ∧ c.B 100000 ∧ Q (.int (blk a b c)) S
def e_scaled : DSp := fun ds S Q => ∃ v k, ds = [t3 v, .int k] ∧ v.B 100000 ∧ B 100000 k ∧ Q (t3 (sm k v)) S
def e_added : DSp := fun ds S Q => ∃ a b, ds = [t3 a, t3 b] ∧ Q (t3 (ad a b)) S
def e_times : DSp := fun ds S Q => ∃ M v, ds = [vw M, t3 v] ∧ M.B 100000 ∧ v.B 100000 ∧ Q (t3 (mv M v)) S
def e_trt : DSp := fun ds S Q => ∃ M, ds = [vw M] ∧ Q (vw (tr M)) S
def e_adj : DSp := fun ds S Q => ∃ M, ds = [vw M] ∧ M.B 100000 ∧ Q (vw (adj M)) S
def e_table_of : DSp := fun ds S Q => ∃ A C, ds = [vw A, vw C] ∧ A.B 100000 ∧ C.B 100000 ∧ Q (vw (mm A C)) S
def e_is_triple : DSp := fun ds S Q => ∃ v : V3, ds = [t3 v] ∧ PlainL v.l ∧ Q (.bl true) S
def e_check3 : DSp := fun ds S Q => ∃ v : V3, ds = [t3 v] ∧ PlainL v.l ∧ Q .non S
structure ViewOk (M : M3) : Prop where
  p : PlainL (M.a.l ++ M.b.l ++ M.c.l)
  d : det M ≠ 0
def e_is_view : DSp := fun ds S Q => ∃ M : M3, ds = [vw M] ∧ ViewOk M ∧ M.B 100000 ∧ Q (.bl true) S
def e_check_view : DSp := fun ds S Q => ∃ M : M3, ds = [vw M] ∧ ViewOk M ∧ M.B 100000 ∧ Q .non S
def e_table_by : DSp := fun ds S Q => ∃ k : V6, ds = [t6 k] ∧ k.B 100000 ∧ Q (vw (tb k)) S
def e_curve_of_table : DSp := fun ds S Q => ∃ k : V6, ds = [vw (tb k)] ∧ k.B 8000 ∧ k ≠ o6 ∧ Q (t6 (p6 k)) S
def e_is_full : DSp := fun ds S Q => ∃ k : V6, ds = [t6 k] ∧ k.B 10000 ∧ det (tb k) ≠ 0 ∧ Q (.bl true) S
def e_products : DSp := fun ds S Q => ∃ p : V3, ds = [t3 p] ∧ p.B 100000 ∧ Q (ti [p.x * p.x, p.y * p.y, p.z * p.z, p.y * p.z, p.x * p.z, p.x * p.y]) S
def e_value : DSp := fun ds S Q => ∃ (k : V6) (p : V3), ds = [t6 k, t3 p] ∧ k.B 100000 ∧ p.B 100000 ∧ Q (.int (qv k p)) S
def e_is_on : DSp := fun ds S Q => ∃ (k : V6) (p : V3), ds = [t6 k, t3 p] ∧ k.B 100000 ∧ p.B 100000 ∧ Q (.bl (decide (qv k p = 0))) S
def e_sign : DSp := fun ds S Q => ∃ i, ds = [.int i] ∧ Q (.int (sgn i)) S
def e_empty : DSp := fun ds S Q => ∃ k : V6, ds = [t6 k] ∧ k.B 10000 ∧ Q (.bl (emp k)) S
def e_polar_by : DSp := fun ds S Q => ∃ (k : V6) (p : V3), ds = [t6 k, t3 p] ∧ k.B 3000 ∧ p.B 3000 ∧ mv (tb k) p ≠ o3 ∧ Q (t3 (p3 (mv (tb k) p))) S
def e_turned : DSp := fun ds S Q => ∃ (V : M3) (k : V6), ds = [vw V, t6 k] ∧ V.B 1000 ∧ k.B 1000 ∧ rc (adj V) k ≠ o6 ∧ Q (t6 (tc V k)) S
def e_is_curve : DSp := fun ds S Q => ∃ k : V6, ds = [t6 k] ∧ PlainL k.l ∧ Q (.bl true) S
def e_check_curve : DSp := fun ds S Q => ∃ k : V6, ds = [t6 k] ∧ PlainL k.l ∧ Q .non S
def e_check_full : DSp := fun ds S Q => ∃ k : V6, ds = [t6 k] ∧ k.B 10000 ∧ det (tb k) ≠ 0 ∧ Q .non S
section
variable {Γ : Gam}
theorem r_is_whole : ∀ ds S Q, ds.length = 1 → e_is_whole ds S Q → evS Γ c_is_whole (endsD Q) (startD n_is_whole.length ds) S := by
  rintro ds S Q _ ⟨i, rfl, q⟩
  exact VQ.same q
theorem r_up_to : ∀ ds S Q, ds.length = 3 → e_up_to ds S Q → evS Γ c_is_tuple_up_to (endsD Q) (startD n_is_tuple_up_to.length ds) S := by
  rintro ds S Q _ ⟨xs, lo, hi, rfl, h1, h2, q⟩
  refine ite_d (p := lo ≤ xs.length) (fun _ => ?_) fun h => absurd h1 h
  rw [← decide_eq_true h2] at q
  exact VQ.same q
theorem r_tuple_of (h : Γ.f "is_tuple_up_to" = some (3, e_up_to)) : ∀ ds S Q, ds.length = 2 → e_tuple_of ds S Q → evS Γ c_is_tuple_of (endsD Q) (startD n_is_tuple_of.length ds) S := by
  rintro ds S Q _ ⟨xs, m, rfl, hm, q⟩
  exact tcl_of h ⟨rfl, xs, m, m, rfl, by omega, by omega, VQ.same q⟩
theorem r_are_whole (h : Γ.f "is_tuple_of" = some (2, e_tuple_of)) (h2 : Γ.f "is_whole" = some (1, e_is_whole)) : ∀ ds S Q, ds.length = 2 → e_are_whole ds S Q → evS Γ c_are_whole (endsD Q) (startD n_are_whole.length ds) S := by
  rintro ds S Q _ ⟨is, m, rfl, hm, hl, q⟩
  refine tcl_of h ⟨rfl, is.map D.int, m, rfl, by simpa using hm, if_t ?_⟩
  refine tcomp_map (fun _ => .bl true) (by rfl) (is.map D.int) [] (by simp; omega) (fun x hx N hN => ?_) ?_
  · obtain ⟨i, _, rfl⟩ := List.mem_map.mp hx
    exact tcl_of h2 ⟨rfl, i, rfl, hN⟩
  · exact q_allT (by simp) (VQ.same q)
theorem r_divisor_of : ∀ ds S Q, ds.length = 1 → e_divisor_of ds S Q → evS Γ c_divisor_of (endsD Q) (startD n_divisor_of.length ds) S := by
  rintro ds S Q _ ⟨x, is, rfl, hx, q⟩
  refine seqW_of hx ?_
  refine sloop_inv (fun xs σ S' => S' = S ∧ ∃ (js : List Int) (g : Nat) (o : Option D), xs = js.map D.int ∧ σ = [some x, some (.int g), o] ∧ js.foldl (fun g i => Nat.gcd g i.natAbs) g = gcdL is) ?_ ?_ _ _ _ ⟨rfl, is, 0, none, rfl, rfl, rfl⟩
  · rintro y r σ S' N ⟨rfl, js, g, o, e, rfl, hg⟩ hN
    cases js with
    | nil => cases e
    | cons j js =>
      cases e
      refine ⟨hx, hN _ _ ⟨rfl, js, Nat.gcd g j.natAbs, some (.int j), rfl, ?_, hg⟩⟩
      simp
  · rintro σ S' ⟨rfl, js, g, o, e, rfl, hg⟩
    cases js with
    | cons j js => cases e
    | nil =>
      refine ⟨hx, VQ.same ?_⟩
      have hg' : g = gcdL is := hg
      rw [← hg'] at q
      exact q
theorem r_first_live : ∀ ds S Q, ds.length = 1 → e_first_live ds S Q → evS Γ c_first_live (endsD Q) (startD n_first_live.length ds) S := by
  rintro ds S Q _ ⟨x, is, rfl, hx, q⟩
  refine seqW_of hx ?_
  refine sloop_inv (fun xs σ S' => S' = S ∧ ∃ (js : List Int) (o : Option D), xs = js.map D.int ∧ σ = [some x, o] ∧ live js = live is) ?_ ?_ _ _ _ ⟨rfl, is, none, rfl, rfl, rfl⟩
  · rintro y r σ S' N ⟨rfl, js, o, e, rfl, hg⟩ hN
    cases js with
    | nil => cases e
    | cons j js =>
      cases e
      refine ⟨hx, q_ne eqD_int ?_⟩
      rw [live_cons] at hg
      by_cases hj : j = 0
      · rw [decide_eq_true hj]
        rw [if_pos hj] at hg
        exact hN _ _ ⟨rfl, js, _, rfl, rfl, hg⟩
      · rw [decide_eq_false hj]
        rw [if_neg hj] at hg
        rw [← hg] at q
        exact VQ.same q
  · rintro σ S' ⟨rfl, js, o, e, rfl, hg⟩
    cases js with
    | cons j js => cases e
    | nil =>
      rw [← hg] at q
      exact ⟨hx, VQ.same q⟩
theorem pl_tail {x : D} {is : List Int} {S : Sto} {Q : QD} {p1 : Option D} (hx : seqOf S x = some (is.map D.int)) (hlen : is.length ≤ 1000) (hl : live is ≠ 0) (hB : BL 8000 is) (q : Q (ti (pl is)) S) :
    evE Γ (.bi .tuple (.cons (.lc false (.seq (.var 0)) [2, 3] (.name 3) .yes (.bin .FloorDiv (.var 3) (.var 1))) .nil)) [some x, some (.int (sgd is)), none, none] S Q := by
  refine seqW_of hx ?_
  refine tc_ints (fun i => .int (i.fdiv (sgd is))) (by exact hx) (by omega) (fun i hi N h => ?_) ?_
  · exact ⟨(sgd_B hB hl).fd (sgd_ne hl), h⟩
  · have e : (is.map fun i => D.int (i.fdiv (sgd is))) = (pl is).map D.int := by unfold pl; rw [List.map_map]; rfl
    show Q (.tup (is.map fun i => D.int (i.fdiv (sgd is)))) S
    rw [e]; exact q
theorem r_plain_of (h : Γ.f "divisor_of" = some (1, e_divisor_of)) (h2 : Γ.f "first_live" = some (1, e_first_live)) : ∀ ds S Q, ds.length = 1 → e_plain ds S Q → evS Γ c_plain_of (endsD Q) (startD n_plain_of.length ds) S := by
  rintro ds S Q _ ⟨x, is, rfl, hx, hlen, hl, hB, q⟩
  refine tcl_of h ⟨rfl, x, is, rfl, hx, tcl_of h2 ⟨rfl, x, is, rfl, hx, ?_⟩⟩
  refine ite_d (p := 0 < live is) (fun hp => ?_) fun hp => ?_
  · have e : sgd is = gcdL is := by unfold sgd; rw [if_pos hp]
    have := pl_tail (Γ := Γ) (p1 := none) hx hlen hl hB (VQ.same q)
    rw [e] at this
    exact this
  · have e : sgd is = -(gcdL is : Int) := by unfold sgd; rw [if_neg hp]
    have := pl_tail (Γ := Γ) (p1 := none) hx hlen hl hB (VQ.same q)
    rw [e] at this
    exact this
theorem r_is_plain (h : Γ.f "are_whole" = some (2, e_are_whole)) (h2 : Γ.f "divisor_of" = some (1, e_divisor_of)) (h3 : Γ.f "first_live" = some (1, e_first_live)) : ∀ ds S Q, ds.length = 2 → e_is_plain ds S Q → evS Γ c_is_plain (endsD Q) (startD n_is_plain.length ds) S := by
  rintro ds S Q _ ⟨is, m, rfl, hm, hl, ⟨p1, p2⟩, q⟩
  refine tcl_of h ⟨rfl, is, m, rfl, hm, hl, ?_⟩
  refine tcl_of h2 ⟨rfl, ti is, is, rfl, rfl, q_eq eqD_int ?_⟩
  rw [p1]
  refine tcl_of h3 ⟨rfl, ti is, is, rfl, rfl, ?_⟩
  rw [← decide_eq_true p2] at q
  exact VQ.same q
theorem r_dot : ∀ ds S Q, ds.length = 2 → e_dot ds S Q → evS Γ c_dot (endsD Q) (startD n_dot.length ds) S := by
  rintro ds S Q _ ⟨x, y, is, js, rfl, hx, hy, hl, hi, hj, q⟩
  refine seqW_of hx (seqW_of hy ?_)
  refine tc_zip (fun a b => .int (a * b)) (by exact ⟨hx, hy⟩) (by omega) (fun a ha b hb N h => ⟨rfl, (hi a ha).mulW (hj b hb), h⟩) ?_
  have e : ((is.zip js).map fun p => D.int (p.1 * p.2)) = ((is.zip js).map fun p => p.1 * p.2).map D.int := by rw [List.map_map]; rfl
  rw [e]
  show dSum [.lst (((is.zip js).map fun p => p.1 * p.2).map D.int)] S _
  show (match intsD (((is.zip js).map fun p => p.1 * p.2).map D.int) with | some is => VQ Q (.int is.sum) S | none => False)
  rw [intsD_map]
  exact VQ.same q
theorem r_law_dot : ∀ ds S Q, ds.length = 2 → e_dot ds S Q → evS Γ c__law_dot (endsD Q) (startD n__law_dot.length ds) S := r_dot
theorem use_dot3 {a b : V3} {S : Sto} {Q : QD} (ha : a.B 300000) (hb : b.B 300000) (q : Q (.int (dot a b)) S) : e_dot [t3 a, t3 b] S Q :=
  ⟨t3 a, t3 b, a.l, b.l, rfl, rfl, rfl, (by show 3 ≤ 1000; decide), ha.l, hb.l, by rw [dotL3]; exact q⟩
theorem r_cross : ∀ ds S Q, ds.length = 2 → e_cross ds S Q → evS Γ c_cross (endsD Q) (startD n_cross.length ds) S := by
  rintro ds S Q _ ⟨a, b, rfl, ha, hb, q⟩
  obtain ⟨h1, h2, h3⟩ := ha
  obtain ⟨h4, h5, h6⟩ := hb
  exact ⟨h2.mulW h6, h3.mulW h5, h3.mulW h4, h1.mulW h6, h1.mulW h5, h2.mulW h4, sz_of (show 3 ≤ 1000000 by decide), VQ.same q⟩
theorem r_law_cross : ∀ ds S Q, ds.length = 2 → e_cross ds S Q → evS Γ c__law_cross (endsD Q) (startD n__law_cross.length ds) S := r_cross
theorem r_block (h : Γ.f "dot" = some (2, e_dot)) (h2 : Γ.f "cross" = some (2, e_cross)) : ∀ ds S Q, ds.length = 3 → e_block ds S Q → evS Γ c_block (endsD Q) (startD n_block.length ds) S := by
  rintro ds S Q _ ⟨a, b, c, rfl, ha, hb, hc, q⟩
  exact tcl_of h (tcl_of h2 ⟨rfl, b, c, rfl, hb, hc, rfl, use_dot3 (ha.mono (by omega)) ((hb.cross hc).mono (by omega)) (VQ.same q)⟩)
theorem r_law_block (h : Γ.f "_law_dot" = some (2, e_dot)) (h2 : Γ.f "_law_cross" = some (2, e_cross)) : ∀ ds S Q, ds.length = 3 → e_block ds S Q → evS Γ c__law_block (endsD Q) (startD n__law_block.length ds) S := by
  rintro ds S Q _ ⟨a, b, c, rfl, ha, hb, hc, q⟩
  exact tcl_of h (tcl_of h2 ⟨rfl, b, c, rfl, hb, hc, rfl, use_dot3 (ha.mono (by omega)) ((hb.cross hc).mono (by omega)) (VQ.same q)⟩)
theorem r_scaled : ∀ ds S Q, ds.length = 2 → e_scaled ds S Q → evS Γ c_scaled (endsD Q) (startD n_scaled.length ds) S := by
  rintro ds S Q _ ⟨v, k, rfl, hv, hk, q⟩
  exact tc_ints (is := v.l) (fun i => .int (k * i)) (by rfl) (by show 3 ≤ 100000; decide) (fun i hi N h => ⟨hk.mulW (hv.l i hi), h⟩) (VQ.same q)
theorem r_added : ∀ ds S Q, ds.length = 2 → e_added ds S Q → evS Γ c_added (endsD Q) (startD n_added.length ds) S := by
  rintro ds S Q _ ⟨a, b, rfl, q⟩
  exact tc_zip (is := a.l) (js := b.l) (fun x y => .int (x + y)) (by exact ⟨rfl, rfl⟩) (by show 3 ≤ 100000; decide) (fun x hx y hy N h => ⟨rfl, h⟩) (VQ.same q)
end
end PyD

set_option Elab.async false
set_option linter.all false
set_option maxRecDepth 100000
set_option maxHeartbeats 1000000
set_option exponentiation.threshold 10000
/-! CnC: readings: tables, conics. -/
namespace PyD
open PySem PySem.Spec PyProof.Rows L2
theorem det_blk {M : M3} : blk M.a M.b M.c = det M := rfl
theorem ne_t {i : Int} (h : i ≠ 0) : (!decide (i = 0)) = true := by simp [h]
theorem qv_dot {k : V6} {p : V3} : dotL k.l [p.x * p.x, p.y * p.y, p.z * p.z, p.y * p.z, p.x * p.z, p.x * p.y] = qv k p := by
  simp [dotL, V6.l, qv]; omega
theorem pr_B {n : Nat} {p : V3} (h : p.B n) : BL (n + n) [p.x * p.x, p.y * p.y, p.z * p.z, p.y * p.z, p.x * p.z, p.x * p.y] := fun i hi => by
  simp only [List.mem_cons, List.not_mem_nil, or_false] at hi
  rcases hi with rfl | rfl | rfl | rfl | rfl | rfl
  · exact h.1.mul h.1
  · exact h.2.1.mul h.2.1
  · exact h.2.2.mul h.2.2
  · exact h.2.1.mul h.2.2
  · exact h.1.mul h.2.2
  · exact h.1.mul h.2.1
section
variable {Γ : Gam}
theorem r_times (h : Γ.f "dot" = some (2, e_dot)) : ∀ ds S Q, ds.length = 2 → e_times ds S Q → evS Γ c_table_times (endsD Q) (startD n_table_times.length ds) S := by
  rintro ds S Q _ ⟨M, v, rfl, ⟨ha, hb, hc⟩, hv, q⟩
  refine tc_cons (by rfl) (tcl_of h ⟨rfl, use_dot3 (ha.mono (by omega)) (hv.mono (by omega)) ⟨lt_line (Nat.zero_le _), ?_⟩⟩)
  refine tc_cons (by rfl) (tcl_of h ⟨rfl, use_dot3 (hb.mono (by omega)) (hv.mono (by omega)) ⟨lt_line (show 1 ≤ 1000000 by decide), ?_⟩⟩)
  refine tc_cons (by rfl) (tcl_of h ⟨rfl, use_dot3 (hc.mono (by omega)) (hv.mono (by omega)) ⟨lt_line (show 2 ≤ 1000000 by decide), ?_⟩⟩)
  exact tc_nil (by rfl) (VQ.same q)
theorem r_law_times (h : Γ.f "_law_dot" = some (2, e_dot)) : ∀ ds S Q, ds.length = 2 → e_times ds S Q → evS Γ c__law_times (endsD Q) (startD n__law_times.length ds) S := by
  rintro ds S Q _ ⟨M, v, rfl, ⟨ha, hb, hc⟩, hv, q⟩
  refine tc_cons (by rfl) (tcl_of h ⟨rfl, use_dot3 (ha.mono (by omega)) (hv.mono (by omega)) ⟨lt_line (Nat.zero_le _), ?_⟩⟩)
  refine tc_cons (by rfl) (tcl_of h ⟨rfl, use_dot3 (hb.mono (by omega)) (hv.mono (by omega)) ⟨lt_line (show 1 ≤ 1000000 by decide), ?_⟩⟩)
  refine tc_cons (by rfl) (tcl_of h ⟨rfl, use_dot3 (hc.mono (by omega)) (hv.mono (by omega)) ⟨lt_line (show 2 ≤ 1000000 by decide), ?_⟩⟩)
  exact tc_nil (by rfl) (VQ.same q)
/-- a row of a table's columns -/
theorem tt_row {M : M3} {i : Nat} {S : Sto} {Q : QD} {o1 o2 : Option D} (hi : i = 0 ∨ i = 1 ∨ i = 2) (q : Q (t3 ⟨cd i M.a, cd i M.b, cd i M.c⟩) S) :
    evE Γ (.bi .tuple (.cons (.lc false (.seq (.var 0)) [1, 2] (.name 2) .yes (.idx (.var 2) (.var 3))) .nil)) [some (vw M), o1, o2, some (.int (i : Int))] S Q := by
  rcases hi with rfl | rfl | rfl
  all_goals
    refine tc_cons (by rfl) ⟨lt_line (Nat.zero_le _), ?_⟩
    refine tc_cons (by rfl) ⟨lt_line (show 1 ≤ 1000000 by decide), ?_⟩
    refine tc_cons (by rfl) ⟨lt_line (show 2 ≤ 1000000 by decide), ?_⟩
    exact tc_nil (by rfl) q
theorem r_trt : ∀ ds S Q, ds.length = 1 → e_trt ds S Q → evS Γ c_turned_table (endsD Q) (startD n_turned_table.length ds) S := by
  rintro ds S Q _ ⟨M, rfl, q⟩
  refine ⟨crng (by decide) (by decide), ?_⟩
  refine tc_cons trivial (tt_row (i := 0) (.inl rfl) ⟨lt_line (Nat.zero_le _), ?_⟩)
  refine tc_cons trivial (tt_row (i := 1) (.inr (.inl rfl)) ⟨lt_line (show 1 ≤ 1000000 by decide), ?_⟩)
  refine tc_cons trivial (tt_row (i := 2) (.inr (.inr rfl)) ⟨lt_line (show 2 ≤ 1000000 by decide), ?_⟩)
  exact tc_nil trivial (VQ.same q)
theorem r_adj (h : Γ.f "turned_table" = some (1, e_trt)) (h2 : Γ.f "cross" = some (2, e_cross)) : ∀ ds S Q, ds.length = 1 → e_adj ds S Q → evS Γ c_adjugate (endsD Q) (startD n_adjugate.length ds) S := by
  rintro ds S Q _ ⟨M, rfl, ⟨ha, hb, hc⟩, q⟩
  refine ⟨rfl, tcl_of h ?_⟩
  refine tcl_of h2 ⟨rfl, M.b, M.c, rfl, hb, hc, ?_⟩
  refine tcl_of h2 ⟨rfl, M.c, M.a, rfl, hc, ha, ?_⟩
  refine tcl_of h2 ⟨rfl, M.a, M.b, rfl, ha, hb, sz_of (show 3 ≤ 1000000 by decide), ?_⟩
  exact ⟨rfl, ⟨cross M.b M.c, cross M.c M.a, cross M.a M.b⟩, rfl, VQ.same q⟩
theorem r_table_of (h : Γ.f "turned_table" = some (1, e_trt)) (h2 : Γ.f "dot" = some (2, e_dot)) : ∀ ds S Q, ds.length = 2 → e_table_of ds S Q → evS Γ c_table_of (endsD Q) (startD n_table_of.length ds) S := by
  rintro ds S Q _ ⟨A, C, rfl, ⟨ha, hb, hc⟩, hC, q⟩
  have hT := hC.tr
  refine tcl_of h ⟨rfl, C, rfl, ?_⟩
  have row : ∀ {v : V3} {Q' : QD} {o3' o4 : Option D}, v.B 100000 → Q' (t3 ⟨dot v (tr C).a, dot v (tr C).b, dot v (tr C).c⟩) S → evE Γ (.bi .tuple (.cons (.lc false (.seq (.var 2)) [3, 4] (.name 4) .yes (.call "dot" (.cons (.var 5) (.cons (.var 4) .nil)))) .nil)) [some (vw A), some (vw C), some (vw (tr C)), o3', o4, some (t3 v)] S Q' := fun {v Q' o3' o4} hv q => by
    refine tc_cons (by rfl) (tcl_of h2 ⟨rfl, use_dot3 (hv.mono (by omega)) (hT.1.mono (by omega)) ⟨lt_line (Nat.zero_le _), ?_⟩⟩)
    refine tc_cons (by rfl) (tcl_of h2 ⟨rfl, use_dot3 (hv.mono (by omega)) (hT.2.1.mono (by omega)) ⟨lt_line (show 1 ≤ 1000000 by decide), ?_⟩⟩)
    refine tc_cons (by rfl) (tcl_of h2 ⟨rfl, use_dot3 (hv.mono (by omega)) (hT.2.2.mono (by omega)) ⟨lt_line (show 2 ≤ 1000000 by decide), ?_⟩⟩)
    exact tc_nil (by rfl) q
  refine tc_cons (by rfl) (row ha ⟨lt_line (Nat.zero_le _), ?_⟩)
  refine tc_cons (by rfl) (row hb ⟨lt_line (show 1 ≤ 1000000 by decide), ?_⟩)
  refine tc_cons (by rfl) (row hc ⟨lt_line (show 2 ≤ 1000000 by decide), ?_⟩)
  exact tc_nil (by rfl) (VQ.same q)
theorem r_is_triple (h : Γ.f "is_plain" = some (2, e_is_plain)) : ∀ ds S Q, ds.length = 1 → e_is_triple ds S Q → evS Γ c_is_triple (endsD Q) (startD n_is_triple.length ds) S := by
  rintro ds S Q _ ⟨v, rfl, hp, q⟩
  exact tcl_of h ⟨rfl, v.l, 3, rfl, rfl, by show 3 ≤ 1000; omega, hp, VQ.same q⟩
theorem r_is_view_of (h : Γ.f "is_tuple_of" = some (2, e_tuple_of)) (h2 : Γ.f "are_whole" = some (2, e_are_whole)) (h3 : Γ.f "is_plain" = some (2, e_is_plain)) (h4 : Γ.f "block" = some (3, e_block)) :
    ∀ ds S Q, ds.length = 1 → e_is_view ds S Q → evS Γ c_is_view_of (endsD Q) (startD n_is_view_of.length ds) S := by
  rintro ds S Q _ ⟨V, rfl, ok, ⟨ha, hb, hc⟩, q⟩
  refine tcl_of h ⟨rfl, [t3 V.a, t3 V.b, t3 V.c], 3, rfl, rfl, if_f ?_⟩
  refine tcomp_map (fun _ => .bl true) (by rfl) [t3 V.a, t3 V.b, t3 V.c] [] (by simp) (fun x hx N hN => ?_) ?_
  · have : ∃ v : V3, x = t3 v := by
      simp only [List.mem_cons, List.not_mem_nil, or_false] at hx
      rcases hx with rfl | rfl | rfl <;> exact ⟨_, rfl⟩
    obtain ⟨v, rfl⟩ := this
    exact tcl_of h2 ⟨rfl, v.l, 3, rfl, rfl, by show 3 ≤ 1000; omega, hN⟩
  · refine q_allT allT_map (if_f ?_)
    refine tcl_of h3 ⟨sz_of (show 6 ≤ 1000000 by decide), sz_of (show 9 ≤ 1000000 by decide), rfl, V.a.l ++ V.b.l ++ V.c.l, 9, rfl, rfl, by show 9 ≤ 1000; omega, ok.p, if_t ?_⟩
    refine tcl_of h4 ⟨rfl, V.a, V.b, V.c, rfl, ha, hb, hc, q_ne eqD_int ?_⟩
    rw [det_blk, ne_t ok.d]
    exact VQ.same q
theorem r_check_point (h : Γ.f "is_triple" = some (1, e_is_triple)) : ∀ ds S Q, ds.length = 1 → e_check3 ds S Q → evS Γ c_check_point (endsD Q) (startD n_check_point.length ds) S := by
  rintro ds S Q _ ⟨V, rfl, ok, q⟩
  exact tcl_of h ⟨rfl, V, rfl, ok, if_f (VQ.same q)⟩
theorem r_check_view (h : Γ.f "is_view_of" = some (1, e_is_view)) : ∀ ds S Q, ds.length = 1 → e_check_view ds S Q → evS Γ c_check_view (endsD Q) (startD n_check_view.length ds) S := by
  rintro ds S Q _ ⟨V, rfl, ok, hB, q⟩
  exact tcl_of h ⟨rfl, V, rfl, ok, hB, if_f (VQ.same q)⟩
theorem BI2 : B 2 2 := by unfold B; decide
theorem r_table_by : ∀ ds S Q, ds.length = 1 → e_table_by ds S Q → evS Γ c_table_by (endsD Q) (startD n_table_by.length ds) S := by
  rintro ds S Q _ ⟨k, rfl, hk, q⟩
  exact ⟨rfl, BI2.mulW hk.a, sz_of (show 3 ≤ 1000000 by decide), BI2.mulW hk.b, sz_of (show 3 ≤ 1000000 by decide), BI2.mulW hk.c, sz_of (show 3 ≤ 1000000 by decide), sz_of (show 3 ≤ 1000000 by decide), VQ.same q⟩
theorem r_law_table : ∀ ds S Q, ds.length = 1 → e_table_by ds S Q → evS Γ c__law_table (endsD Q) (startD n__law_table.length ds) S := by
  rintro ds S Q _ ⟨k, rfl, hk, q⟩
  exact ⟨rfl, BI2.mulW hk.a, sz_of (show 3 ≤ 1000000 by decide), BI2.mulW hk.b, sz_of (show 3 ≤ 1000000 by decide), BI2.mulW hk.c, sz_of (show 3 ≤ 1000000 by decide), sz_of (show 3 ≤ 1000000 by decide), VQ.same q⟩
theorem half (i : Int) : (2 * i).fdiv 2 = i := by rw [Int.fdiv_eq_ediv_of_nonneg _ (by decide)]; omega
theorem r_curve_of_table (h : Γ.f "plain_of" = some (1, e_plain)) : ∀ ds S Q, ds.length = 1 → e_curve_of_table ds S Q → evS Γ c_curve_of_table (endsD Q) (startD n_curve_of_table.length ds) S := by
  rintro ds S Q _ ⟨k, rfl, hk, h0, q⟩
  have f2 : CFd 2 := BI2.fd (by decide)
  refine ⟨crng (by decide) (by decide), ?_⟩
  refine tc_cons trivial ⟨f2, lt_line (Nat.zero_le _), ?_⟩
  refine tc_cons trivial ⟨f2, lt_line (show 1 ≤ 1000000 by decide), ?_⟩
  refine tc_cons trivial ⟨f2, lt_line (show 2 ≤ 1000000 by decide), ?_⟩
  refine tc_nil trivial ?_
  refine tcl_of h ⟨sz_of (show 6 ≤ 1000000 by decide), rfl, _, k.l, rfl, ?_, by show 6 ≤ 1000; decide, live6.mpr h0, hk.l, VQ.same q⟩
  show some [D.int ((2 * k.a).fdiv 2), .int ((2 * k.b).fdiv 2), .int ((2 * k.c).fdiv 2), .int k.d, .int k.e, .int k.f] = some (k.l.map D.int)
  rw [half, half, half]; rfl
theorem r_is_full (h : Γ.f "table_by" = some (1, e_table_by)) (h2 : Γ.f "block" = some (3, e_block)) : ∀ ds S Q, ds.length = 1 → e_is_full ds S Q → evS Γ c_is_full_by (endsD Q) (startD n_is_full_by.length ds) S := by
  rintro ds S Q _ ⟨k, rfl, hk, hd, q⟩
  have hT := hk.tb
  refine tcl_of h ⟨rfl, k, rfl, hk.mono (by omega), rfl, ?_⟩
  refine tcl_of h2 ⟨rfl, (tb k).a, (tb k).b, (tb k).c, rfl, hT.1.mono (by omega), hT.2.1.mono (by omega), hT.2.2.mono (by omega), q_ne eqD_int ?_⟩
  rw [det_blk, ne_t hd]
  exact VQ.same q
theorem r_products : ∀ ds S Q, ds.length = 1 → e_products ds S Q → evS Γ c_products_of (endsD Q) (startD n_products_of.length ds) S := by
  rintro ds S Q _ ⟨p, rfl, ⟨h1, h2, h3⟩, q⟩
  exact ⟨rfl, h1.mulW h1, h2.mulW h2, h3.mulW h3, h2.mulW h3, h1.mulW h3, h1.mulW h2, sz_of (show 6 ≤ 1000000 by decide), VQ.same q⟩
theorem r_value (h : Γ.f "dot" = some (2, e_dot)) (h2 : Γ.f "products_of" = some (1, e_products)) : ∀ ds S Q, ds.length = 2 → e_value ds S Q → evS Γ c_value_by (endsD Q) (startD n_value_by.length ds) S := by
  rintro ds S Q _ ⟨k, p, rfl, hk, hp, q⟩
  refine tcl_of h (tcl_of h2 ⟨rfl, p, rfl, hp, rfl, t6 k, _, k.l, _, rfl, rfl, rfl, by show 6 ≤ 1000; decide, hk.l.mono (by omega), (pr_B hp).mono (by omega), ?_⟩)
  rw [qv_dot]
  exact VQ.same q
theorem r_value2 (h : Γ.f "dot" = some (2, e_dot)) (h2 : Γ.f "products_of" = some (1, e_products)) : ∀ ds S Q, ds.length = 2 → e_value ds S Q → evS Γ c_value_by_2 (endsD Q) (startD n_value_by_2.length ds) S := r_value h h2
theorem r_is_on (h : Γ.f "value_by_curvework" = some (2, e_value)) : ∀ ds S Q, ds.length = 2 → e_is_on ds S Q → evS Γ c_is_on_by (endsD Q) (startD n_is_on_by.length ds) S := by
  rintro ds S Q _ ⟨k, p, rfl, hk, hp, q⟩
  exact tcl_of h ⟨rfl, k, p, rfl, hk, hp, q_eq eqD_int (VQ.same q)⟩
theorem sgn_B (i : Int) : B 1 (sgn i) := by unfold sgn B; split <;> (try split) <;> decide
theorem r_polar_by (h : Γ.f "plain_of" = some (1, e_plain)) (h2 : Γ.f "table_times" = some (2, e_times)) (h3 : Γ.f "table_by" = some (1, e_table_by)) : ∀ ds S Q, ds.length = 2 → e_polar_by ds S Q → evS Γ c_polar_by (endsD Q) (startD n_polar_by.length ds) S := by
  rintro ds S Q _ ⟨k, p, rfl, hk, hp, h0, q⟩
  refine tcl_of h (tcl_of h2 (tcl_of h3 ⟨rfl, k, rfl, hk.mono (by omega), rfl, tb k, p, rfl, hk.tb.mono (by omega), hp.mono (by omega), ?_⟩))
  exact ⟨rfl, _, (mv (tb k) p).l, rfl, rfl, by show 3 ≤ 1000; decide, live3.mpr h0, (hk.tb.mv hp).l.mono (by omega), VQ.same q⟩
theorem r_turned_by (h : Γ.f "adjugate" = some (1, e_adj)) (h2 : Γ.f "curve_of_table" = some (1, e_curve_of_table)) (h3 : Γ.f "table_of" = some (2, e_table_of)) (h4 : Γ.f "turned_table" = some (1, e_trt)) (h5 : Γ.f "table_by" = some (1, e_table_by)) :
    ∀ ds S Q, ds.length = 2 → e_turned ds S Q → evS Γ c_turned_by (endsD Q) (startD n_turned_by.length ds) S := by
  rintro ds S Q _ ⟨V, k, rfl, hV, hk, h0, q⟩
  have hA := hV.adj
  refine tcl_of h ⟨rfl, V, rfl, hV.mono (by omega), ?_⟩
  refine tcl_of h2 (tcl_of h3 (tcl_of h3 (tcl_of h4 ⟨rfl, adj V, rfl, ?_⟩)))
  refine tcl_of h5 ⟨rfl, k, rfl, hk.mono (by omega), rfl, tr (adj V), tb k, rfl, hA.tr.mono (by omega), hk.tb.mono (by omega), ?_⟩
  refine ⟨rfl, mm (tr (adj V)) (tb k), adj V, rfl, (hA.tr.mm hk.tb).mono (by omega), hA.mono (by omega), ?_⟩
  refine ⟨rfl, rc (adj V) k, by rw [tb_rc], (rc_B hA hk).mono (by omega), h0, VQ.same q⟩
theorem r_is_curve (h : Γ.f "is_plain" = some (2, e_is_plain)) (g : Γ.g "SIZE" = some (.int 6)) : ∀ ds S Q, ds.length = 1 → e_is_curve ds S Q → evS Γ c_is_curve_of (endsD Q) (startD n_is_curve_of.length ds) S := by
  rintro ds S Q _ ⟨k, rfl, hp, q⟩
  exact tcl_of h (tglo_of g ⟨rfl, k.l, 6, rfl, rfl, by show 6 ≤ 1000; omega, hp, VQ.same q⟩)
theorem r_check_curve (h : Γ.f "is_curve_of" = some (1, e_is_curve)) : ∀ ds S Q, ds.length = 1 → e_check_curve ds S Q → evS Γ c_check_curve (endsD Q) (startD n_check_curve.length ds) S := by
  rintro ds S Q _ ⟨V, rfl, ok, q⟩
  exact tcl_of h ⟨rfl, V, rfl, ok, if_f (VQ.same q)⟩
end
end PyD

set_option Elab.async false
set_option linter.all false
set_option maxRecDepth 100000
set_option maxHeartbeats 1000000
set_option exponentiation.threshold 10000
/-! CnD: readings: the further point of a line; the law's own plain tuples, tables, turned conics. -/
namespace PyD
open PySem PySem.Spec PyProof.Rows L2
def e_other_on : DSp := fun ds S Q => ∃ l p, ds = [t3 l, t3 p] ∧ l.B 3000 ∧ p.B 3000 ∧ p ≠ o3 ∧ l ≠ o3 ∧ dot p l = 0 ∧ Q (t3 (p3 (oth l p))) S
def e_second_of : DSp := fun ds S Q => ∃ (k : V6) (p o : V3), ds = [t6 k, t3 p, t3 o] ∧ k.B 500 ∧ p.B 1000 ∧ o.B 1002 ∧ ad (sm (qv k o) p) (sm (-(bf k p o)) o) ≠ o3 ∧ Q (t3 (p3 (ad (sm (qv k o) p) (sm (-(bf k p o)) o)))) S
def e_second_by : DSp := fun ds S Q => ∃ (k : V6) (p l : V3), ds = [t6 k, t3 p, t3 l] ∧ k.B 500 ∧ p.B 1000 ∧ l.B 1000 ∧ Thru k p l ∧ PlainL p.l ∧ Q (t3 (p3 (sec k p l))) S
def e_common : DSp := fun ds S Q => ∃ (x : D) (is : List Int), ds = [x] ∧ seqOf S x = some (is.map D.int) ∧ Q (.int (gcdL is)) S
def e_turn : DSp := fun ds S Q => ∃ (M : M3) (v : V3), ds = [vw M, t3 v] ∧ M.B 1000 ∧ v.B 6000 ∧ mv M v ≠ o3 ∧ Q (t3 (p3 (mv M v))) S
def e_between : DSp := fun ds S Q => ∃ (k : V6) (p q : V3), ds = [t6 k, t3 p, t3 q] ∧ k.B 1000 ∧ p.B 10000 ∧ q.B 10000 ∧ Q (.int (bf k p q)) S
def o3or (v : V3) : Bool := decide (v.x ≠ 0 ∨ v.y ≠ 0 ∨ v.z ≠ 0)
theorem o3or_t {v : V3} (h : v ≠ o3) : o3or v = true := decide_eq_true (ne3.mp h)
theorem o3or_f {v : V3} (h : v = o3) : o3or v = false := by subst h; rfl
theorem cd_x {p : V3} : cd 0 p = p.x := rfl
theorem cd_y {p : V3} : cd 1 p = p.y := rfl
theorem cd_z {p : V3} : cd 2 p = p.z := rfl
def on3 (f : V3 → D) (d : D) : D := match d with
  | .tup [.int x, .int y, .int z] => f ⟨x, y, z⟩
  | _ => .non
def on3b (f : V3 → Bool) (d : D) : Bool := match d with
  | .tup [.int x, .int y, .int z] => f ⟨x, y, z⟩
  | _ => false
/-- of the three points at which a line meets the axes, the first one unlike p -/
theorem first_oth {l p : V3} (hp : p ≠ o3) (hl : l ≠ o3) (h : dot p l = 0) (f : V3 → D) :
    (([t3 (cross l (ax 0)), t3 (cross l (ax 1)), t3 (cross l (ax 2))].filter (on3b fun v => o3or (cross v p))).map (on3 f))[0]? = some (f (oth l p)) := by
  have c : ∀ i, i = 0 ∨ i = 1 ∨ i = 2 → cross (cross l (ax i)) p = sm (-(cd i p)) l := fun i hi => ax_cross hi h
  have on : ∀ {v : V3}, on3b (fun v => o3or (cross v p)) (t3 v) = o3or (cross v p) := fun {v} => rfl
  have kill : ∀ {i : Nat}, i = 0 ∨ i = 1 ∨ i = 2 → cd i p = 0 → o3or (cross (cross l (ax i)) p) = false := fun {i} hi z => o3or_f (by rw [c i hi, z, Int.neg_zero, sm_zero])
  have keep : ∀ {i : Nat}, i = 0 ∨ i = 1 ∨ i = 2 → cd i p ≠ 0 → o3or (cross (cross l (ax i)) p) = true := fun {i} hi z => o3or_t (by rw [c i hi]; exact sm_ne (by omega) hl)
  have hf := cd_fl hp
  by_cases hx : p.x = 0
  · by_cases hy : p.y = 0
    · have e : fl p = 2 := by unfold fl; rw [if_neg (fun z => z hx), if_neg (fun z => z hy)]
      rw [e] at hf
      simp only [List.filter_cons, on, kill (i := 0) (.inl rfl) hx, kill (i := 1) (.inr (.inl rfl)) hy, keep (i := 2) (.inr (.inr rfl)) hf, Bool.false_eq_true, if_false, if_true, List.filter_nil, List.map_cons, List.map_nil]
      unfold oth
      rw [e]; rfl
    · have e : fl p = 1 := by unfold fl; rw [if_neg (fun z => z hx), if_pos hy]
      simp only [List.filter_cons, on, kill (i := 0) (.inl rfl) hx, keep (i := 1) (.inr (.inl rfl)) hy, Bool.false_eq_true, if_false, if_true, List.map_cons]
      unfold oth
      rw [e]; rfl
  · have e : fl p = 0 := by unfold fl; rw [if_pos hx]
    simp only [List.filter_cons, on, keep (i := 0) (.inl rfl) hx, Bool.false_eq_true, if_false, if_true, List.map_cons]
    unfold oth
    rw [e]; rfl
section
variable {Γ : Gam}
theorem r_other_on (h : Γ.f "cross" = some (2, e_cross)) (h2 : Γ.f "plain_of" = some (1, e_plain)) : ∀ ds S Q, ds.length = 2 → e_other_on ds S Q → evS Γ c_other_on (endsD Q) (startD n_other_on.length ds) S := by
  rintro ds S Q _ ⟨l, p, rfl, bl, bp, hp, hl, hd, q⟩
  have s3 : Sz 3 := sz_of (show 3 ≤ 1000000 by decide)
  refine ⟨s3, s3, s3, s3, ?_⟩
  have ba : ∀ i, (ax i).B 100000 := fun i => (ax_B i).mono (by omega)
  have bl' : l.B 100000 := bl.mono (by omega)
  refine tc_cons (by rfl) (tcl_of h ⟨rfl, l, ax 0, rfl, bl', ba _, lt_line (Nat.zero_le _), ?_⟩)
  refine tc_cons (by rfl) (tcl_of h ⟨rfl, l, ax 1, rfl, bl', ba _, lt_line (show 1 ≤ 1000000 by decide), ?_⟩)
  refine tc_cons (by rfl) (tcl_of h ⟨rfl, l, ax 2, rfl, bl', ba _, lt_line (show 2 ≤ 1000000 by decide), ?_⟩)
  refine tc_nil (by rfl) ?_
  refine tcomp_filter (on3b fun v => o3or (cross v p)) (on3 fun v => t3 (p3 v)) (by rfl) [t3 (cross l (ax 0)), t3 (cross l (ax 1)), t3 (cross l (ax 2))] [] (by simp) (fun x hx N1 N0 h1 h0 => ?_) ?_
  · have : ∃ i, x = t3 (cross l (ax i)) := by
      simp only [List.mem_cons, List.not_mem_nil, or_false] at hx
      rcases hx with rfl | rfl | rfl <;> exact ⟨_, rfl⟩
    obtain ⟨i, rfl⟩ := this
    have bc : (cross l (ax i)).B 3002 := (bl.cross (ax_B i)).mono (by omega)
    refine tcl_of h ⟨rfl, cross l (ax i), p, rfl, bc.mono (by omega), bp.mono (by omega), q_any3 ?_⟩
    show if o3or (cross (cross l (ax i)) p) = true then _ else _
    refine ite_b (fun hb => ?_) fun hb => h0 hb
    have hne : cross l (ax i) ≠ o3 := fun z => by
      rw [z] at hb
      have : cross o3 p = o3 := by ext <;> simp [cross, o3]
      rw [this] at hb
      exact absurd hb (by decide)
    exact tcl_of h2 ⟨rfl, _, (cross l (ax i)).l, rfl, rfl, by show 3 ≤ 1000; decide, live3.mpr hne, bc.l.mono (by omega), h1 hb⟩
  · rw [List.nil_append]
    exact q_idxL (n := 0) (first_oth hp hl hd fun v => t3 (p3 v)) (VQ.same q)
theorem r_second_of (h : Γ.f "value_by_curvepointwork" = some (2, e_value)) (h2 : Γ.f "added" = some (2, e_added)) (h3 : Γ.f "scaled" = some (2, e_scaled)) (h4 : Γ.f "plain_of" = some (1, e_plain)) :
    ∀ ds S Q, ds.length = 3 → e_second_of ds S Q → evS Γ c_second_of (endsD Q) (startD n_second_of.length ds) S := by
  rintro ds S Q _ ⟨k, p, o, rfl, hk, hp, ho, h0, q⟩
  have hk' : k.B 100000 := hk.mono (by omega)
  have hq : PyD.B 3000 (qv k o) := (hk.qv ho).mono (by omega)
  have hb : PyD.B 3000 (-(bf k p o)) := (hk.bf hp ho).neg.mono (by omega)
  have tail : ∀ b, b = bf k p o → evS Γ (.seq (.ret (.call "plain_of" (.cons (.call "added" (.cons (.call "scaled" (.cons (.var 1) (.cons (.call "value_by_curvepointwork" (.cons (.var 0) (.cons (.var 2) .nil))) .nil))) (.cons (.call "scaled" (.cons (.var 2) (.cons (.neg (.var 3)) .nil))) .nil))) .nil))) .next) (endsD Q) [some (t6 k), some (t3 p), some (t3 o), some (.int b)] S := fun b hbb => by
    subst hbb
    refine tcl_of h4 (tcl_of h2 (tcl_of h3 (tcl_of h ⟨rfl, k, o, rfl, hk', ho.mono (by omega), ?_⟩)))
    refine ⟨rfl, p, qv k o, rfl, hp.mono (by omega), hq.mono (by omega), tcl_of h3 ⟨rfl, o, _, rfl, ho.mono (by omega), hb.mono (by omega), ?_⟩⟩
    refine ⟨rfl, sm (qv k o) p, sm (-(bf k p o)) o, rfl, rfl, _, (ad (sm (qv k o) p) (sm (-(bf k p o)) o)).l, rfl, rfl, by show 3 ≤ 1000; decide, live3.mpr h0, ?_, VQ.same q⟩
    exact ((((V3.B.sm hq hp).mono (by omega : _ ≤ 4002)).ad (V3.B.sm hb ho)).l).mono (by omega)
  refine tcl_of h (tcl_of h2 ⟨rfl, p, o, rfl, rfl, k, ad p o, rfl, hk', ((hp.mono (by omega : _ ≤ 1002)).ad ho).mono (by omega), ?_⟩)
  refine tcl_of h ⟨rfl, k, p, rfl, hk', hp.mono (by omega), tcl_of h ⟨rfl, k, o, rfl, hk', ho.mono (by omega), ?_⟩⟩
  exact tail _ qv_add
/-- the second point by another one that is made plain -/
theorem sec_plain {k : V6} {p l : V3} (t : Thru k p l) : ad (sm (qv k (p3 (oth l p))) p) (sm (-(bf k p (p3 (oth l p)))) (p3 (oth l p))) ≠ o3 ∧ p3 (ad (sm (qv k (p3 (oth l p))) p) (sm (-(bf k p (p3 (oth l p)))) (p3 (oth l p)))) = p3 (sec k p l) := by
  have ho := oth_ne t.hp t.hl t.thr
  have hd := sgd_ne (live3.mpr ho)
  have e : oth l p = sm (sgd (oth l p).l) (p3 (oth l p)) := l_inj (by rw [sm_l, p3_l, pl_mul (live3.mpr ho)])
  generalize sgd (oth l p).l = d at hd e
  generalize hoo : p3 (oth l p) = o' at e ⊢
  have es : sec k p l = sm (d * d) (ad (sm (qv k o') p) (sm (-(bf k p o')) o')) := by
    unfold sec
    have e1 : qv k (oth l p) = d * d * qv k o' := by rw [e, qv_sm]
    have e2 : bf k p (oth l p) = d * bf k p o' := by
      conv => lhs; rw [e, ← sm_one (u := p)]
      rw [bf_sm, Int.one_mul]
    rw [e1, e2, e]
    ext <;> simp only [ad, sm] <;> grind
  have hne : ad (sm (qv k o') p) (sm (-(bf k p o')) o') ≠ o3 := fun z => by
    have := t.sec_ne
    rw [es, z] at this
    exact this (by ext <;> simp [sm, o3])
  refine ⟨hne, ?_⟩
  rw [es]
  exact p3_eq hne (Pr.of_sm (Int.mul_ne_zero hd hd)).symm
theorem r_second_by (h : Γ.f "other_on" = some (2, e_other_on)) (h2 : Γ.f "dot" = some (2, e_dot)) (h3 : Γ.f "polar_by" = some (2, e_polar_by)) (h4 : Γ.f "second_of" = some (3, e_second_of)) :
    ∀ ds S Q, ds.length = 3 → e_second_by ds S Q → evS Γ c_second_by (endsD Q) (startD n_second_by.length ds) S := by
  rintro ds S Q _ ⟨k, p, l, rfl, hk, hp, hl, t, pp, q⟩
  have ho := oth_ne t.hp t.hl t.thr
  have bo : (p3 (oth l p)).B 1002 := (oth_B hl).p3
  have hT : mv (tb k) p ≠ o3 := mv_ne t.full t.hp
  have bT : (mv (tb k) p).B 3000 := (hk.tb.mv hp).mono (by omega)
  refine tcl_of h ⟨rfl, l, p, rfl, hl.mono (by omega), hp.mono (by omega), t.hp, t.hl, t.thr, ?_⟩
  refine tcl_of h2 (tcl_of h3 ⟨rfl, k, p, rfl, hk.mono (by omega), hp.mono (by omega), hT, rfl, use_dot3 (bT.p3.mono (by omega)) (bo.mono (by omega)) (q_eq eqD_int ?_)⟩)
  have pr : Pr (p3 (mv (tb k) p)) (mv (tb k) p) := p3_pr hT
  have pro : Pr (p3 (oth l p)) (oth l p) := p3_pr ho
  have iff0 : dot (p3 (mv (tb k) p)) (p3 (oth l p)) = 0 ↔ bf k p (oth l p) = 0 := by
    rw [bf_comm]
    show _ ↔ dot (oth l p) (mv (tb k) p) = 0
    constructor
    · intro z
      have z1 := pr.dot0 z
      rw [dot_comm] at z1
      exact pro.dot0 z1
    · intro z
      have z1 := pro.symm.dot0 z
      rw [dot_comm] at z1
      exact pr.symm.dot0 z1
  by_cases hz : dot (p3 (mv (tb k) p)) (p3 (oth l p)) = 0
  · rw [decide_eq_true hz]
    have e : p3 (sec k p l) = p := (p3_eq t.sec_ne (t.same.mpr (iff0.mp hz))).trans (p3_id pp)
    rw [e] at q
    exact if_t (VQ.same q)
  · rw [decide_eq_false hz]
    obtain ⟨h0, e⟩ := sec_plain t
    refine if_f (tcl_of h4 ⟨rfl, k, p, p3 (oth l p), rfl, hk, hp, bo, h0, ?_⟩)
    rw [e]
    exact VQ.same q
/-! the law's own -/
def c_common_body : CS := (.seq (.par2 3 4 (.cons (.var 1) (.cons (.bi .abs (.cons (.var 2) .nil)) .nil))) (.seq (.whil (.bl (.cmp .Gt (.var 4) (.lit (.int 0)))) (.seq (.par2 3 4 (.cons (.var 4) (.cons (.bin .Mod (.bi .int (.cons (.var 3) .nil)) (.var 4)) .nil))) .next)) (.seq (.asg (.var 3) (.name 1)) .next)))
theorem common_body {x o3' o4 : Option PyD.D} {g : Nat} {i : Int} {D : EndsD} {S : Sto} (h : ∀ o3 o4, D.nx [x, some (.int (Nat.gcd g i.natAbs : Nat)), some (.int i), o3, o4] S) : evS Γ c_common_body D [x, some (.int g), some (.int i), o3', o4] S := by
  refine ⟨fun m σ' S' => S' = S ∧ ∃ u v : Nat, σ' = [x, some (.int g), some (.int i), some (.int u), some (.int v)] ∧ Nat.gcd u v = Nat.gcd g i.natAbs ∧ m = v, ⟨i.natAbs, rfl, g, i.natAbs, rfl, rfl, rfl⟩, ?_⟩
  rintro m σ' S' ⟨rfl, u, v, rfl, hg, hm⟩
  refine ite_d (p := 0 < (v : Int)) (fun hv => ?_) fun hv => ?_
  · refine ⟨hv, u % v, by rw [hm]; exact Nat.mod_lt _ (by omega), rfl, v, u % v, ?_, ?_, rfl⟩
    · rfl
    · rw [← hg, Nat.gcd_comm v, ← Nat.gcd_rec, Nat.gcd_comm]
  · have hv0 : v = 0 := by omega
    subst hv0
    rw [Nat.gcd_zero_right] at hg
    subst hg
    exact h _ _
theorem r_common : ∀ ds S Q, ds.length = 1 → e_common ds S Q → evS Γ c__law_common (endsD Q) (startD n__law_common.length ds) S := by
  rintro ds S Q _ ⟨x, is, rfl, hx, q⟩
  refine seqW_of hx ?_
  refine sloop_inv (fun xs σ S' => S' = S ∧ ∃ (js : List Int) (g : Nat) (o2 o3 o4 : Option PyD.D), xs = js.map D.int ∧ σ = [some x, some (.int g), o2, o3, o4] ∧ js.foldl (fun g i => Nat.gcd g i.natAbs) g = gcdL is) ?_ ?_ _ _ _ ⟨rfl, is, 0, none, none, none, rfl, rfl, rfl⟩
  · rintro y r σ S' N ⟨rfl, js, g, o2, o3, o4, e, rfl, hg⟩ hN
    cases js with
    | nil => cases e
    | cons j js =>
      cases e
      exact ⟨hx, common_body (D := { nx := N, rt := _, bk := _, ct := N }) fun o3 o4 => hN _ _ ⟨rfl, js, _, _, _, _, rfl, rfl, hg⟩⟩
  · rintro σ S' ⟨rfl, js, g, o2, o3, o4, e, rfl, hgg⟩
    cases js with
    | cons j js => cases e
    | nil =>
      have hgg' : g = gcdL is := hgg
      subst hgg'
      exact ⟨hx, VQ.same q⟩
theorem live_first : ∀ {is : List Int}, live is ≠ 0 → (((is.map D.int).filter fun d => match d with | .int i => !decide (i = 0) | _ => false).map id)[0]? = some (.int (live is))
  | [], h => absurd rfl h
  | i :: is, h => by
    rw [live_cons] at h ⊢
    by_cases hi : i = 0
    · rw [if_pos hi] at h ⊢
      rw [List.map_cons, List.filter_cons]
      simp only [hi, decide_true, Bool.not_true, Bool.false_eq_true, if_false]
      exact live_first h
    · rw [if_neg hi]
      rw [List.map_cons, List.filter_cons]
      simp only [hi, decide_false, Bool.not_false, if_true]
      rfl
theorem lpl_tail {x : D} {is : List Int} {S : Sto} {Q : QD} {o2 : Option D} (hx : seqOf S x = some (is.map D.int)) (hlen : is.length ≤ 1000) (hl : live is ≠ 0) (hB : BL 8000 is) (q : Q (ti (pl is)) S) :
    evE Γ (.bi .tuple (.cons (.lc false (.seq (.var 0)) [3, 4] (.name 4) .yes (.bin .FloorDiv (.var 4) (.var 1))) .nil)) [some x, some (.int (sgd is)), o2, none, none] S Q := by
  refine seqW_of hx ?_
  refine tc_ints (fun i => .int (i.fdiv (sgd is))) (by exact hx) (by omega) (fun i hi N h => ?_) ?_
  · exact ⟨(sgd_B hB hl).fd (sgd_ne hl), h⟩
  · have e : (is.map fun i => D.int (i.fdiv (sgd is))) = (pl is).map D.int := by unfold pl; rw [List.map_map]; rfl
    show Q (.tup (is.map fun i => D.int (i.fdiv (sgd is)))) S
    rw [e]; exact q
theorem r_law_plain (h : Γ.f "_law_common" = some (1, e_common)) : ∀ ds S Q, ds.length = 1 → e_plain ds S Q → evS Γ c__law_plain (endsD Q) (startD n__law_plain.length ds) S := by
  rintro ds S Q _ ⟨x, is, rfl, hx, hlen, hl, hB, q⟩
  refine tcl_of h ⟨rfl, x, is, rfl, hx, seqW_of hx ?_⟩
  refine tcomp_filter (fun d => match d with | .int i => !decide (i = 0) | _ => false) id (by exact hx) (is.map D.int) [] (by simp; omega) (fun z hz N1 N0 h1 h0 => ?_) ?_
  · obtain ⟨i, _, rfl⟩ := List.mem_map.mp hz
    refine q_ne eqD_int ?_
    by_cases hi : i = 0
    · rw [decide_eq_true hi]
      exact if_f (h0 (by simp [hi]))
    · rw [decide_eq_false hi]
      exact if_t (h1 (by simp [hi]))
  · rw [List.nil_append]
    simp only [evE, tcon, rdLit]
    refine q_idxL (n := 0) (live_first hl) ?_
    refine ite_d (p := 0 < live is) (fun hp => ?_) fun hp => ?_
    · have e : sgd is = gcdL is := by unfold sgd; rw [if_pos hp]
      have := lpl_tail (Γ := Γ) (o2 := some (.int (live is))) hx hlen hl hB (VQ.same q)
      rw [e] at this
      exact this
    · have e : sgd is = 0 - (gcdL is : Int) := by unfold sgd; rw [if_neg hp]; omega
      have := lpl_tail (Γ := Γ) (o2 := some (.int (live is))) hx hlen hl hB (VQ.same q)
      rw [e] at this
      exact this
theorem r_law_turn (h : Γ.f "_law_plain" = some (1, e_plain)) (h2 : Γ.f "_law_times" = some (2, e_times)) : ∀ ds S Q, ds.length = 2 → e_turn ds S Q → evS Γ c__law_turn (endsD Q) (startD n__law_turn.length ds) S := by
  rintro ds S Q _ ⟨M, v, rfl, hM, hv, h0, q⟩
  exact tcl_of h (tcl_of h2 ⟨rfl, M, v, rfl, hM.mono (by omega), hv.mono (by omega), rfl, _, (mv M v).l, rfl, rfl, by show 3 ≤ 1000; decide, live3.mpr h0, (hM.mv hv).l.mono (by omega), VQ.same q⟩)
theorem r_law_adj (h2 : Γ.f "_law_cross" = some (2, e_cross)) : ∀ ds S Q, ds.length = 1 → e_adj ds S Q → evS Γ c__law_adjugate (endsD Q) (startD n__law_adjugate.length ds) S := by
  rintro ds S Q _ ⟨M, rfl, ⟨ha, hb, hc⟩, q⟩
  refine ⟨rfl, ?_⟩
  refine tcl_of h2 ⟨rfl, M.b, M.c, rfl, hb, hc, ?_⟩
  refine tcl_of h2 ⟨rfl, M.c, M.a, rfl, hc, ha, ?_⟩
  refine tcl_of h2 ⟨rfl, M.a, M.b, rfl, ha, hb, sz_of (show 3 ≤ 1000000 by decide), ?_⟩
  have row : ∀ {C : M3} {i : Nat} {Q' : QD} {o0 o1 o2 o3 o5 o6 : Option D}, i = 0 ∨ i = 1 ∨ i = 2 → Q' (t3 ⟨cd i C.a, cd i C.b, cd i C.c⟩) S →
      evE Γ (.bi .tuple (.cons (.lc false (.seq (.var 4)) [5, 6] (.name 6) .yes (.idx (.var 6) (.var 7))) .nil)) [o0, o1, o2, o3, some (vw C), o5, o6, some (.int (i : Int))] S Q' := fun {C i Q' o0 o1 o2 o3 o5 o6} hi q => by
    rcases hi with rfl | rfl | rfl
    all_goals
      refine tc_cons (by rfl) ⟨lt_line (Nat.zero_le _), ?_⟩
      refine tc_cons (by rfl) ⟨lt_line (show 1 ≤ 1000000 by decide), ?_⟩
      refine tc_cons (by rfl) ⟨lt_line (show 2 ≤ 1000000 by decide), ?_⟩
      exact tc_nil (by rfl) q
  refine ⟨crng (by decide) (by decide), ?_⟩
  refine tc_cons trivial (row (C := ⟨cross M.b M.c, cross M.c M.a, cross M.a M.b⟩) (i := 0) (.inl rfl) ⟨lt_line (Nat.zero_le _), ?_⟩)
  refine tc_cons trivial (row (C := ⟨cross M.b M.c, cross M.c M.a, cross M.a M.b⟩) (i := 1) (.inr (.inl rfl)) ⟨lt_line (show 1 ≤ 1000000 by decide), ?_⟩)
  refine tc_cons trivial (row (C := ⟨cross M.b M.c, cross M.c M.a, cross M.a M.b⟩) (i := 2) (.inr (.inr rfl)) ⟨lt_line (show 2 ≤ 1000000 by decide), ?_⟩)
  exact tc_nil trivial (VQ.same q)
theorem r_law_turned_curve (h : Γ.f "_law_adjugate" = some (1, e_adj)) (h2 : Γ.f "_law_table" = some (1, e_table_by)) (h3 : Γ.f "_law_dot" = some (2, e_dot)) (h4 : Γ.f "_law_times" = some (2, e_times)) (h5 : Γ.f "_law_plain" = some (1, e_plain)) :
    ∀ ds S Q, ds.length = 2 → e_turned ds S Q → evS Γ c__law_turned_curve (endsD Q) (startD n__law_turned_curve.length ds) S := by
  rintro ds S Q _ ⟨V, k, rfl, hV, hk, h0, q⟩
  have hA := hV.adj
  have hT := hA.tr
  refine tcl_of h ⟨rfl, V, rfl, hV.mono (by omega), tcl_of h2 ⟨rfl, k, rfl, hk.mono (by omega), sz_of (show 2 ≤ 1000000 by decide), rfl, ?_⟩⟩
  have row : ∀ {C : M3} {i : Nat} {Q' : QD} {o0 o1 o3 o4 o5 o6 o7 o9 o10 : Option D}, i = 0 ∨ i = 1 ∨ i = 2 → Q' (t3 ⟨cd i C.a, cd i C.b, cd i C.c⟩) S →
      evE Γ (.bi .tuple (.cons (.lc false (.seq (.var 2)) [6, 7] (.name 7) .yes (.idx (.var 7) (.var 8))) .nil)) [o0, o1, some (vw C), o3, o4, o5, o6, o7, some (.int (i : Int)), o9, o10] S Q' := fun {C i Q' o0 o1 o3 o4 o5 o6 o7 o9 o10} hi q => by
    rcases hi with rfl | rfl | rfl
    all_goals
      refine tc_cons (by rfl) ⟨lt_line (Nat.zero_le _), ?_⟩
      refine tc_cons (by rfl) ⟨lt_line (show 1 ≤ 1000000 by decide), ?_⟩
      refine tc_cons (by rfl) ⟨lt_line (show 2 ≤ 1000000 by decide), ?_⟩
      exact tc_nil (by rfl) q
  have inner : ∀ {v : V3} {Q' : QD} {o0 o1 o2 o5 o6 o7 o8 o9 : Option D}, v.B 2001 → Q' (.lst [.int (bf k v (tr (adj V)).a), .int (bf k v (tr (adj V)).b), .int (bf k v (tr (adj V)).c)]) S →
      evE Γ (.lc false (.seq (.var 4)) [6, 9] (.name 9) .yes (.call "_law_dot" (.cons (.var 10) (.cons (.call "_law_times" (.cons (.var 3) (.cons (.var 9) .nil))) .nil)))) [o0, o1, o2, some (vw (tb k)), some (vw (tr (adj V))), o5, o6, o7, o8, o9, some (t3 v)] S Q' := fun {v Q' o0 o1 o2 o5 o6 o7 o8 o9} hv q => by
    refine tc_cons (by rfl) (tcl_of h3 (tcl_of h4 ⟨rfl, tb k, (tr (adj V)).a, rfl, hk.tb.mono (by omega), hT.1.mono (by omega), rfl, use_dot3 (hv.mono (by omega)) ((hk.tb.mv hT.1).mono (by omega)) ⟨lt_line (Nat.zero_le _), ?_⟩⟩))
    refine tc_cons (by rfl) (tcl_of h3 (tcl_of h4 ⟨rfl, tb k, (tr (adj V)).b, rfl, hk.tb.mono (by omega), hT.2.1.mono (by omega), rfl, use_dot3 (hv.mono (by omega)) ((hk.tb.mv hT.2.1).mono (by omega)) ⟨lt_line (show 1 ≤ 1000000 by decide), ?_⟩⟩))
    refine tc_cons (by rfl) (tcl_of h3 (tcl_of h4 ⟨rfl, tb k, (tr (adj V)).c, rfl, hk.tb.mono (by omega), hT.2.2.mono (by omega), rfl, use_dot3 (hv.mono (by omega)) ((hk.tb.mv hT.2.2).mono (by omega)) ⟨lt_line (show 2 ≤ 1000000 by decide), ?_⟩⟩))
    exact tc_nil (by rfl) q
  have tail : evS Γ (.seq (.asg (.lc false (.seq (.var 4)) [6, 10] (.name 10) .yes (.lc false (.seq (.var 4)) [6, 9] (.name 9) .yes (.call "_law_dot" (.cons (.var 10) (.cons (.call "_law_times" (.cons (.var 3) (.cons (.var 9) .nil))) .nil))))) (.name 5)) (.seq (.ret (.call "_law_plain" (.cons (.tup (.cons (.idx (.idx (.var 5) (.lit (.int 0))) (.lit (.int 0))) (.cons (.idx (.idx (.var 5) (.lit (.int 1))) (.lit (.int 1))) (.cons (.idx (.idx (.var 5) (.lit (.int 2))) (.lit (.int 2))) (.cons (.bin .Mult (.lit (.int 2)) (.idx (.idx (.var 5) (.lit (.int 1))) (.lit (.int 2)))) (.cons (.bin .Mult (.lit (.int 2)) (.idx (.idx (.var 5) (.lit (.int 0))) (.lit (.int 2)))) (.cons (.bin .Mult (.lit (.int 2)) (.idx (.idx (.var 5) (.lit (.int 0))) (.lit (.int 1)))) .nil))))))) .nil))) .next)) (endsD Q) [some (vw V), some (t6 k), some (vw (adj V)), some (vw (tb k)), some (vw (tr (adj V))), none, none, none, none, none, none] S := by
    refine tcomp_map (on3 fun v => .lst [.int (bf k v (tr (adj V)).a), .int (bf k v (tr (adj V)).b), .int (bf k v (tr (adj V)).c)]) (by rfl) [t3 (tr (adj V)).a, t3 (tr (adj V)).b, t3 (tr (adj V)).c] [] (by simp) (fun x hx N hN => ?_) ?_
    · have : ∃ v : V3, x = t3 v ∧ v.B 2001 := by
        simp only [List.mem_cons, List.not_mem_nil, or_false] at hx
        rcases hx with rfl | rfl | rfl
        · exact ⟨_, rfl, hT.1⟩
        · exact ⟨_, rfl, hT.2.1⟩
        · exact ⟨_, rfl, hT.2.2⟩
      obtain ⟨v, rfl, hv⟩ := this
      exact inner (Q' := N) hv hN
    have hb := fun {u v : V3} (hu : u.B 2001) (hv : v.B 2001) => (hk.bf hu hv)
    refine tcl_of h5 ⟨BI2.mulW (hb hT.2.1 hT.2.2), BI2.mulW (hb hT.1 hT.2.2), BI2.mulW (hb hT.1 hT.2.1), sz_of (show 6 ≤ 1000000 by decide), rfl, _, (s6 2 (rc (adj V) k)).l, rfl, ?_, by show 6 ≤ 1000; decide, ?_, ?_, ?_⟩
    · show some [D.int (bf k (tr (adj V)).a (tr (adj V)).a), .int (bf k (tr (adj V)).b (tr (adj V)).b), .int (bf k (tr (adj V)).c (tr (adj V)).c), .int (2 * bf k (tr (adj V)).b (tr (adj V)).c), .int (2 * bf k (tr (adj V)).a (tr (adj V)).c), .int (2 * bf k (tr (adj V)).a (tr (adj V)).b)] = _
      rw [bf_self, bf_self, bf_self]; rfl
    · rw [s6_l, live_mul (by decide)]
      exact Int.mul_ne_zero (by decide) (live6.mpr h0)
    · have r := rc_B hA hk
      have r2 : (s6 2 (rc (adj V) k)).B 8000 := ⟨(BI2.mul r.a).mono (by omega), (BI2.mul r.b).mono (by omega), (BI2.mul r.c).mono (by omega), (BI2.mul r.d).mono (by omega), (BI2.mul r.e).mono (by omega), (BI2.mul r.f).mono (by omega)⟩
      exact r2.l
    · have e : pl (s6 2 (rc (adj V) k)).l = (tc V k).l := by
        have := congrArg V6.l (p6_s6 (m := 2) h0 (by decide))
        rw [p6_l] at this
        exact this
      rw [e]
      exact VQ.same q
  refine ⟨crng (by decide) (by decide), ?_⟩
  refine tc_cons trivial (row (C := adj V) (i := 0) (.inl rfl) ⟨lt_line (Nat.zero_le _), ?_⟩)
  refine tc_cons trivial (row (C := adj V) (i := 1) (.inr (.inl rfl)) ⟨lt_line (show 1 ≤ 1000000 by decide), ?_⟩)
  refine tc_cons trivial (row (C := adj V) (i := 2) (.inr (.inr rfl)) ⟨lt_line (show 2 ≤ 1000000 by decide), ?_⟩)
  exact tc_nil trivial tail
end
end PyD

set_option Elab.async false
set_option linter.all false
set_option maxRecDepth 100000
set_option maxHeartbeats 1000000
set_option exponentiation.threshold 10000
/-! CnP: readings: draws. -/
namespace PyD
open PySem PySem.Spec PyProof.Rows L2
structure Pool where
  p : Int
  q : Int
  c : Int
def pd (m : Pool) : List D := [.int m.p, .int m.q, .int m.c]
def pm (m : Pool) : MO := .ml (pd m)
structure PO (r : Nat) (m : Pool) : Prop where
  p : 0 ≤ m.p
  q : 0 ≤ m.q
  q2 : m.q < 2 ^ 31
  c : 0 ≤ m.c
  c2 : m.c + r ≤ 2 ^ 40
theorem PO.le {r s : Nat} {m : Pool} (h : PO r m) (hs : s ≤ r) : PO s m := ⟨h.p, h.q, h.q2, h.c, by have := h.c2; omega⟩
theorem nat_of {v : Int} (h : 0 ≤ v) : ∃ n : Nat, v = n := ⟨v.toNat, by omega⟩
theorem q_ix {xs : List D} {n : Nat} {d : D} {S : Sto} {Q : QD} (h : xs[n]? = some d) (q : Q d S) : match ixD xs (n : Int) with | some d => Q d S | none => False := by
  show (match xs[n]? with | some d => Q d S | none => False)
  rw [h]; exact q
abbrev OD := Option D
def e_draw : DSp := fun ds S Q => ∃ (a : Addr) (m : Pool) (r : Nat) (k : Int), ds = [.ref a, .int k] ∧ S a = some (pm m) ∧ PO (r + 1) m ∧ 1 ≤ k ∧ k ≤ 1000000 ∧ ∀ v m', 0 ≤ v → v < k → PO r m' → Q (.int v) (ups S a (pm m'))
def e_oneT : DSp := fun ds S Q => ∃ (a : Addr) (m : Pool) (r : Nat) (xs : List D), ds = [.ref a, .tup xs] ∧ S a = some (pm m) ∧ PO (r + 1) m ∧ 1 ≤ xs.length ∧ xs.length ≤ 1000 ∧ ∀ d m', d ∈ xs → PO r m' → Q d (ups S a (pm m'))
def e_point : DSp := fun ds S Q => ∃ (a : Addr) (m : Pool) (r : Nat) (w : Int), ds = [.ref a, .int w] ∧ S a = some (pm m) ∧ PO (r + 3) m ∧ 1 ≤ w ∧ w ≤ 100 ∧ ∀ v m', PlainL v.l → v.B 8 → PO r m' → Q (t3 v) (ups S a (pm m'))
def e_view : DSp := fun ds S Q => ∃ (a : Addr) (m : Pool) (r : Nat) (w : Int), ds = [.ref a, .int w] ∧ S a = some (pm m) ∧ PO (r + 54) m ∧ 1 ≤ w ∧ w ≤ 100 ∧ ∀ M m', ViewOk M → M.B 8 → PO r m' → Q (vw M) (ups S a (pm m'))
def e_pool : DSp := fun ds S Q => ∃ (ns : List Int) (i : Int), ds = [.scr (ns.map D.int), .int i] ∧ 0 ≤ i ∧ i ≤ 1000 ∧ ns.length ≤ 100 ∧ ∀ a m, S a = none → PO 1000000 m → Q (.ref a) (ups S a (pm m))
theorem nine {js : List Int} (h : js.length = 9) : ∃ a b c d e f g h i, js = [a, b, c, d, e, f, g, h, i] := match js, h with
  | [a, b, c, d, e, f, g, h, i], _ => ⟨a, b, c, d, e, f, g, h, i, rfl⟩
theorem ups_self {S : Sto} {a : Addr} {m : MO} (h : S a = some m) : ups S a m = S := by
  funext b
  unfold ups
  by_cases hb : b = a
  · rw [if_pos hb, hb, h]
  · rw [if_neg hb]
section
variable {Γ : Gam}
theorem r_draw : ∀ ds S Q, ds.length = 2 → e_draw ds S Q → evS Γ c__law_below (endsD Q) (startD n__law_below.length ds) S := by
  rintro ds S Q _ ⟨a, m, r, k, rfl, hS, po, hk, hk2, q⟩
  have hk0 : 0 < k := by omega
  have pp := po.p
  have pq := po.q
  have pq2 := po.q2
  have pc := po.c
  have pc2 := po.c2
  refine refW_of hS ?_
  refine ite_d (p := 0 < m.p) (fun h => ?_) fun h => ?_
  · refine refW_of hS ⟨⟨hk0, by omega⟩, rfl, refW_of hS ?_⟩
    refine VQ.same (q (m.p % k) ⟨m.p / k, m.q, m.c⟩ (Int.emod_nonneg _ (by omega)) (Int.emod_lt_of_pos _ hk0) ⟨?_, pq, pq2, pc, by show m.c + (r : Int) ≤ 2 ^ 40; omega⟩)
    exact Int.ediv_nonneg (by omega) (by omega)
  · have b1 : B 31 m.q := B_lt pq pq2
    have b2 : B 41 (m.c + 1) := B_lt (by omega) (by omega)
    have b3 : B 17 38013 := by unfold B; decide
    have b4 : B 17 3257 := by unfold B; decide
    refine refW_of hS (refW_of hS ?_)
    refine refW_of ups_same ?_
    refine ⟨b1.mulW b3, ?_⟩
    refine refW_of ups_same ?_
    refine ⟨b4.mulW b2, ?_⟩
    refine ⟨by decide, ?_⟩
    generalize hx : (m.q * 38013 + 3257 * (m.c + 1) + 71) % 2147483563 = x
    have x0 : 0 ≤ x := by rw [← hx]; exact Int.emod_nonneg _ (by decide)
    have x1 : x < 2147483563 := by rw [← hx]; exact Int.emod_lt_of_pos _ (by decide)
    have y0 : 0 ≤ x % 3989 := Int.emod_nonneg _ (by decide)
    have y1 : x % 3989 < 3989 := Int.emod_lt_of_pos _ (by decide)
    have b5 : B 31 x := B_lt x0 (by omega)
    have b6 : B 17 (x % 3989 + 12437) := B_lt (by omega) (by omega)
    subst hx
    refine ⟨by decide, ?_⟩
    refine ⟨b5.mulW b6, ?_⟩
    refine refW_of ups_same ?_
    refine ⟨by decide, ?_⟩
    refine refW_of ups_same ?_
    generalize hx : (m.q * 38013 + 3257 * (m.c + 1) + 71) % 2147483563 = x
    generalize hz : (x * (x % 3989 + 12437) + (m.c + 1)) % 2147483563 = z
    have z0 : 0 ≤ z := by rw [← hz]; exact Int.emod_nonneg _ (by decide)
    have z1 : z < 2147483563 := by rw [← hz]; exact Int.emod_lt_of_pos _ (by decide)
    refine refW_of ups_same ?_
    refine ⟨⟨by decide, by decide⟩, hk0, VQ.same ?_⟩
    have := q (z.fdiv 359 % k) ⟨m.p, z, m.c + 1⟩ (Int.emod_nonneg _ (by omega)) (Int.emod_lt_of_pos _ hk0) ⟨pp, z0, by show z < 2 ^ 31; omega, by show 0 ≤ m.c + 1; omega, by show m.c + 1 + (r : Int) ≤ 2 ^ 40; omega⟩
    have e : ups (ups S a (.ml ((pd m).set 2 (.int (m.c + 1))))) a (.ml (((pd m).set 2 (.int (m.c + 1))).set 1 (.int z))) = ups S a (pm ⟨m.p, z, m.c + 1⟩) := ups_ups
    rw [← e] at this
    subst hz
    subst hx
    exact this
theorem r_oneT (h : Γ.f "_law_below" = some (2, e_draw)) : ∀ ds S Q, ds.length = 2 → e_oneT ds S Q → evS Γ c__law_one (endsD Q) (startD n__law_one.length ds) S := by
  rintro ds S Q _ ⟨a, m, r, xs, rfl, hS, po, h1, h2, q⟩
  refine tcl_of h ⟨rfl, a, m, r, _, rfl, hS, po, by omega, by omega, fun v m' v0 v1 po' => ?_⟩
  obtain ⟨n, rfl⟩ := nat_of v0
  have hn : n < xs.length := by omega
  exact q_ix (List.getElem?_eq_getElem hn) (VQ.same (q _ _ (List.getElem_mem hn) po'))
theorem r_point (h : Γ.f "_law_below" = some (2, e_draw)) (h2 : Γ.f "_law_plain" = some (1, e_plain)) : ∀ ds S Q, ds.length = 2 → e_point ds S Q → evS Γ c__law_point (endsD Q) (startD n__law_point.length ds) S := by
  rintro ds S Q _ ⟨a, m, r, w, rfl, hS, po, hw, hw2, q⟩
  have bw : B 8 w := B_le (N := 100) (by omega) (by decide)
  have mw : CMulW 2 w := BI2.mulW bw
  refine ⟨crng (by decide) (by decide), ?_⟩
  refine tc_cons trivial (tcl_of h ⟨mw, rfl, a, m, r + 2, _, rfl, hS, po, by omega, by omega, fun x m1 x0 x1 po1 => ⟨lt_line (Nat.zero_le _), ?_⟩⟩)
  refine tc_cons trivial (tcl_of h ⟨mw, rfl, a, m1, r + 1, _, rfl, ups_same, po1, by omega, by omega, fun y m2 y0 y1 po2 => ⟨lt_line (show 1 ≤ 1000000 by decide), ?_⟩⟩)
  refine tc_cons trivial (tcl_of h ⟨mw, rfl, a, m2, r, _, rfl, ups_same, po2, by omega, by omega, fun z m3 z0 z1 po3 => ⟨lt_line (show 2 ≤ 1000000 by decide), ?_⟩⟩)
  rw [ups_ups, ups_ups]
  refine tc_nil trivial ?_
  have bv : (⟨x - w, y - w, z - w⟩ : V3).B 8 := ⟨B_le (N := 200) (by show (x - w).natAbs ≤ 200; omega) (by decide), B_le (N := 200) (by show (y - w).natAbs ≤ 200; omega) (by decide), B_le (N := 200) (by show (z - w).natAbs ≤ 200; omega) (by decide)⟩
  refine q_any3 (v := ⟨x - w, y - w, z - w⟩) ?_
  refine ite_d (p := x - w ≠ 0 ∨ y - w ≠ 0 ∨ z - w ≠ 0) (fun hn => ?_) fun hn => ?_
  · have h0 : (⟨x - w, y - w, z - w⟩ : V3) ≠ o3 := ne3.mpr hn
    exact tcl_of h2 ⟨rfl, _, (⟨x - w, y - w, z - w⟩ : V3).l, rfl, rfl, by show 3 ≤ 1000; decide, live3.mpr h0, bv.l.mono (by omega), VQ.same (q (p3 ⟨x - w, y - w, z - w⟩) m3 (p3_plain h0) bv.p3 po3)⟩
  · exact ⟨sz_of (show 3 ≤ 1000000 by decide), VQ.same (q ⟨1, 0, 0⟩ m3 ⟨rfl, by decide⟩ ⟨by unfold B; decide, by unfold B; decide, by unfold B; decide⟩ po3)⟩
theorem view_still : ViewOk ⟨⟨1, 0, 0⟩, ⟨0, 1, 0⟩, ⟨0, 0, 1⟩⟩ := ⟨⟨by decide, by decide⟩, by decide⟩
/-- nine numbers made plain, as a table -/
def m9 (M : M3) : List Int := M.a.l ++ M.b.l ++ M.c.l
def p9 (M : M3) : M3 := ⟨⟨M.a.x.fdiv (sgd (m9 M)), M.a.y.fdiv (sgd (m9 M)), M.a.z.fdiv (sgd (m9 M))⟩, ⟨M.b.x.fdiv (sgd (m9 M)), M.b.y.fdiv (sgd (m9 M)), M.b.z.fdiv (sgd (m9 M))⟩, ⟨M.c.x.fdiv (sgd (m9 M)), M.c.y.fdiv (sgd (m9 M)), M.c.z.fdiv (sgd (m9 M))⟩⟩
theorem p9_l {M : M3} : m9 (p9 M) = pl (m9 M) := rfl
theorem det_live {M : M3} (h : det M ≠ 0) : live (m9 M) ≠ 0 := fun z => by
  have z0 := live_zero z
  have x1 : M.a.x = 0 := z0 _ (by simp [m9, V3.l])
  have x2 : M.a.y = 0 := z0 _ (by simp [m9, V3.l])
  have x3 : M.a.z = 0 := z0 _ (by simp [m9, V3.l])
  apply h
  unfold det blk dot
  rw [x1, x2, x3]
  simp
def smm (k : Int) (M : M3) : M3 := ⟨sm k M.a, sm k M.b, sm k M.c⟩
theorem det_smm {k : Int} {M : M3} : det (smm k M) = k * k * k * det M := by simp only [smm, det, blk, cross, dot, sm]; grind
theorem p9_smm {M : M3} (h : det M ≠ 0) : M = smm (sgd (m9 M)) (p9 M) := by
  have := pl_mul (det_live h)
  rw [← p9_l] at this
  simp only [m9, V3.l, List.cons_append, List.nil_append, List.map_cons, List.map_nil, List.cons.injEq, and_true] at this
  obtain ⟨a1, a2, a3, b1, b2, b3, c1, c2, c3⟩ := this
  obtain ⟨⟨x1, x2, x3⟩, ⟨y1, y2, y3⟩, ⟨z1, z2, z3⟩⟩ := M
  simp only [smm, sm, M3.mk.injEq, V3.mk.injEq]
  exact ⟨⟨a1.symm, a2.symm, a3.symm⟩, ⟨b1.symm, b2.symm, b3.symm⟩, c1.symm, c2.symm, c3.symm⟩
theorem p9_ok {M : M3} (h : det M ≠ 0) : ViewOk (p9 M) := by
  refine ⟨pl_plain (det_live h), fun z => h ?_⟩
  rw [p9_smm h, det_smm, z, Int.mul_zero]
theorem M3.B.m9 {n : Nat} {M : M3} (h : M.B n) : BL n (m9 M) := fun i hi => by
  unfold PyD.m9 at hi
  simp only [V3.l, List.cons_append, List.nil_append, List.mem_cons, List.not_mem_nil, or_false] at hi
  obtain ⟨ha, hb, hc⟩ := h
  rcases hi with rfl | rfl | rfl | rfl | rfl | rfl | rfl | rfl | rfl
  · exact ha.1
  · exact ha.2.1
  · exact ha.2.2
  · exact hb.1
  · exact hb.2.1
  · exact hb.2.2
  · exact hc.1
  · exact hc.2.1
  · exact hc.2.2
theorem M3.B.p9 {n : Nat} {M : M3} (h : M.B n) : (p9 M).B n := by
  have b : BL n (PyD.m9 (PyD.p9 M)) := by rw [p9_l]; exact pl_B h.m9
  have g : ∀ i, i ∈ PyD.m9 (PyD.p9 M) → PyD.B n i := b
  unfold PyD.m9 at g
  exact ⟨⟨g _ (by simp [V3.l]), g _ (by simp [V3.l]), g _ (by simp [V3.l])⟩, ⟨g _ (by simp [V3.l]), g _ (by simp [V3.l]), g _ (by simp [V3.l])⟩, ⟨g _ (by simp [V3.l]), g _ (by simp [V3.l]), g _ (by simp [V3.l])⟩⟩
def c_view_body : CS := (.seq (.asg (.lc false (.rng1 (.cons (.lit (.int 3)) .nil)) [5, 6] (.name 6) .yes (.call "_law_point" (.cons (.var 0) (.cons (.var 1) .nil)))) (.name 3)) (.seq (.iff (.bl (.cmp .NotEq (.call "_law_block" (.cons (.idx (.var 3) (.lit (.int 0))) (.cons (.idx (.var 3) (.lit (.int 1))) (.cons (.idx (.var 3) (.lit (.int 2))) .nil)))) (.lit (.int 0)))) (.seq (.asg (.call "_law_plain" (.cons (.bin .Add (.bin .Add (.idx (.var 3) (.lit (.int 0))) (.idx (.var 3) (.lit (.int 1)))) (.idx (.var 3) (.lit (.int 2)))) .nil)) (.name 4)) (.seq (.ret (.tup (.cons (.sl (.var 4) .no (.at (.lit (.int 3)))) (.cons (.sl (.var 4) (.at (.lit (.int 3))) (.at (.lit (.int 6)))) (.cons (.sl (.var 4) (.at (.lit (.int 6))) .no) .nil))))) .next)) .next) .next))
theorem view_body (h : Γ.f "_law_point" = some (2, e_point)) (h2 : Γ.f "_law_block" = some (3, e_block)) (h3 : Γ.f "_law_plain" = some (1, e_plain)) {a : Addr} {w : Int} {m : Pool} {r : Nat} {o2 o3' o4 : OD} {D : EndsD} {S : Sto} (hS : S a = some (pm m)) (po : PO (r + 9) m) (hw : 1 ≤ w) (hw2 : w ≤ 100)
    (k1 : ∀ M m', ViewOk M → M.B 8 → PO r m' → D.rt (vw M) (ups S a (pm m'))) (k2 : ∀ m' o3 o4, PO r m' → D.nx [some (.ref a), some (.int w), o2, o3, o4, none, none] (ups S a (pm m'))) :
    evS Γ c_view_body D [some (.ref a), some (.int w), o2, o3', o4, none, none] S := by
  refine ⟨crng (by decide) (by decide), ?_⟩
  refine tc_cons trivial (tcl_of h ⟨rfl, a, m, r + 6, w, rfl, hS, po, hw, hw2, fun u m1 pu bu po1 => ⟨lt_line (Nat.zero_le _), ?_⟩⟩)
  refine tc_cons trivial (tcl_of h ⟨rfl, a, m1, r + 3, w, rfl, ups_same, po1, hw, hw2, fun v m2 pv bv po2 => ⟨lt_line (show 1 ≤ 1000000 by decide), ?_⟩⟩)
  refine tc_cons trivial (tcl_of h ⟨rfl, a, m2, r, w, rfl, ups_same, po2, hw, hw2, fun x m3 px bx po3 => ⟨lt_line (show 2 ≤ 1000000 by decide), ?_⟩⟩)
  rw [ups_ups, ups_ups]
  refine tc_nil trivial ?_
  refine tcl_of h2 ⟨rfl, u, v, x, rfl, bu.mono (by omega), bv.mono (by omega), bx.mono (by omega), q_ne eqD_int ?_⟩
  have hMB : (⟨u, v, x⟩ : M3).B 8 := ⟨bu, bv, bx⟩
  by_cases hd : blk u v x = 0
  · rw [decide_eq_true hd]
    exact if_f (k2 _ _ _ po3)
  · rw [decide_eq_false hd]
    have hd' : det ⟨u, v, x⟩ ≠ 0 := hd
    refine if_t (tcl_of h3 ⟨sz_of (show 6 ≤ 1000000 by decide), sz_of (show 9 ≤ 1000000 by decide), rfl, _, m9 ⟨u, v, x⟩, rfl, rfl, by show 9 ≤ 1000; decide, det_live hd', hMB.m9.mono (by omega), ?_⟩)
    exact ⟨sz_of (show 3 ≤ 1000000 by decide), k1 (p9 ⟨u, v, x⟩) _ (p9_ok hd') hMB.p9 po3⟩
theorem r_view (h : Γ.f "_law_point" = some (2, e_point)) (h2 : Γ.f "_law_block" = some (3, e_block)) (h3 : Γ.f "_law_plain" = some (1, e_plain)) : ∀ ds S Q, ds.length = 2 → e_view ds S Q → evS Γ c__law_view (endsD Q) (startD n__law_view.length ds) S := by
  rintro ds S Q _ ⟨a, m, r, w, rfl, hS, po, hw, hw2, q⟩
  refine ⟨crng (by decide) (by decide), ?_⟩
  refine sloop_inv (fun xs σ S' => ∃ (m' : Pool) (o2 o3 o4 : OD), S' = ups S a (pm m') ∧ PO (r + 9 * xs.length) m' ∧ σ = [some (.ref a), some (.int w), o2, o3, o4, none, none]) ?_ ?_ (rngD 0 6) _ _ ⟨m, none, none, none, (ups_self hS).symm, po, rfl⟩
  · rintro x l σ S' N ⟨m', o2, o3, o4, rfl, po', rfl⟩ hN
    refine ⟨trivial, view_body (r := r + 9 * l.length) (D := { nx := N, rt := _, bk := _, ct := N }) h h2 h3 ups_same (po'.le (by simp only [List.length_cons]; omega)) hw hw2 (fun M m2 ok bM po2 => ?_) fun m2 o3 o4 po2 => ?_⟩
    · rw [ups_ups]
      exact VQ.same (q M m2 ok bM (po2.le (by omega)))
    · rw [ups_ups]
      exact hN _ _ ⟨m2, some x, o3, o4, rfl, po2, rfl⟩
  · rintro σ S' ⟨m', o2, o3, o4, rfl, po', rfl⟩
    have s3 : Sz 3 := sz_of (show 3 ≤ 1000000 by decide)
    exact ⟨trivial, s3, s3, s3, s3, VQ.same (q _ m' view_still ⟨⟨by unfold B; decide, by unfold B; decide, by unfold B; decide⟩, ⟨by unfold B; decide, by unfold B; decide, by unfold B; decide⟩, ⟨by unfold B; decide, by unfold B; decide, by unfold B; decide⟩⟩ (po'.le (by omega)))⟩
end
end PyD

set_option Elab.async false
set_option linter.all false
set_option maxRecDepth 100000
set_option maxHeartbeats 1000000
set_option exponentiation.threshold 10000
/-! CnR: the reading of a drawn round. -/
namespace PyD
open PySem PySem.Spec PyProof.Rows L2
def c_rd_1 : CS := (.seq (.par2 6 7 (.cons (.bin .Sub (.call "_law_below" (.cons (.var 0) (.cons (.bin .Add (.bin .Mult (.lit (.int 2)) (.var 1)) (.lit (.int 5))) .nil))) (.var 1)) (.cons (.call "_law_one" (.cons (.var 0) (.cons (.tup (.cons (.lit (.int 1)) (.cons (.lit (.int 1)) (.cons (.lit (.int 1)) (.cons (.lit (.int 2)) (.cons (.lit (.int 3)) .nil)))))) .nil))) .nil))) (.seq (.iff (.bl (.cmp .Lt (.bi .len (.cons (.var 4) .nil)) (.var 1))) (.seq (.asg (.lit (.bl true)) (.sub (.var 4) (.call "_law_turn" (.cons (.var 3) (.cons (.tup (.cons (.bin .Mult (.var 6) (.var 6)) (.cons (.bin .Mult (.var 6) (.var 7)) (.cons (.bin .Mult (.var 7) (.var 7)) .nil)))) .nil))))) .next) .next) .next))
def c_rd_2 : CS := (.seq (.asg (.lit (.bl true)) (.sub (.var 4) (.call "_law_turn" (.cons (.var 3) (.cons (.tup (.cons (.bin .Mult (.var 6) (.var 6)) (.cons (.var 6) (.cons (.lit (.int 1)) .nil)))) .nil))))) .next)
def c_rd_3 : CS := (.seq (.expr (.app (.var 8) (.cons (.pop (.var 9) (.cons (.call "_law_below" (.cons (.var 0) (.cons (.bi .len (.cons (.var 9) .nil)) .nil))) .nil)) .nil))) .next)
def c_rd_e : CS := (.seq (.ret (.tup (.cons (.call "_law_turned_curve" (.cons (.var 3) (.cons (.tup (.cons (.lit (.int 0)) (.cons (.lit (.int 1)) (.cons (.lit (.int 0)) (.cons (.lit (.int 0)) (.cons (.neg (.lit (.int 1))) (.cons (.lit (.int 0)) .nil))))))) .nil))) (.cons (.bi .tuple (.cons (.var 8) .nil)) .nil)))) .next)
def c_rd_d : CS := (.seq (.forr (.rng1 (.cons (.var 1) .nil)) (.name 5) c_rd_3) c_rd_e)
def c_rd_c : CS := (.seq (.par2 8 9 (.cons (.own .nil) (.cons (.bi .sortedO (.cons (.var 4) .nil)) .nil))) c_rd_d)
def c_rd_b : CS := (.seq (.forr (.rng2 (.cons (.lit (.int 20)) (.cons (.bin .Sub (.bin .Add (.lit (.int 20)) (.var 1)) (.bi .len (.cons (.var 4) .nil))) .nil))) (.name 6) c_rd_2) c_rd_c)
def c_rd_a : CS := (.seq (.forr (.rng1 (.cons (.bin .Mult (.lit (.int 4)) (.var 1)) .nil)) (.name 5) c_rd_1) c_rd_b)
def e_round : DSp := fun ds S Q => ∃ (a : Addr) (m : Pool) (r : Nat) (n : Nat) (w : Int), ds = [.ref a, .int n, .int w] ∧ S a = some (pm m) ∧ PO (r + 200) m ∧ 1 ≤ n ∧ n ≤ 12 ∧ 1 ≤ w ∧ w ≤ 100 ∧
  ∀ (M : M3) (L : List (Int × Int)) m', ViewOk M → M.B 8 → L.length = n → (∀ x ∈ L, 0 < x.2 ∧ x.2 ≤ 3 ∧ x.1.natAbs ≤ 100) → (L.map (pt M)).Nodup → PO r m' → Q (.tup [t6 (tc M base), tv (L.map (pt M))]) (ups S a (pm m'))
theorem putD_keys {κ : Type} [DecidableEq κ] {k : κ} {d : D} : ∀ {kvs : List (κ × D)}, (putD kvs k d).map (·.1) = if k ∈ kvs.map (·.1) then kvs.map (·.1) else kvs.map (·.1) ++ [k] := by
  intro kvs
  unfold putD
  have e : (kvs.any fun kv => decide (kv.1 = k)) = true ↔ k ∈ kvs.map (·.1) := by
    rw [List.any_eq_true]
    constructor
    · rintro ⟨x, hx, h⟩
      exact List.mem_map.mpr ⟨x, hx, of_decide_eq_true h⟩
    · intro h
      obtain ⟨x, hx, h⟩ := List.mem_map.mp h
      exact ⟨x, hx, decide_eq_true h⟩
  by_cases h : k ∈ kvs.map (·.1)
  · rw [if_pos (e.mpr h), if_pos h, List.map_map]
    refine List.map_congr_left fun x _ => ?_
    show (if x.1 = k then (x.1, d) else x).1 = x.1
    split <;> rfl
  · rw [if_neg (fun z => h (e.mp z)), if_neg h, List.map_append]; rfl
theorem dSet_mt {S : Sto} {f : Addr} {kvs : List (List Int × D)} {v : V3} {d : D} {Q : Sto → Prop} (h : S f = some (.mt kvs)) (hl : kvs.length ≤ 1000) (q : Q (ups S f (.mt (putD kvs v.l d)))) : dSet (.ref f) (t3 v) d S Q :=
  mtW_of h ⟨lt_line (by omega), q⟩
theorem q_lenM {S : Sto} {f : Addr} {kvs : List (List Int × D)} {Q : QD} (h : S f = some (.mt kvs)) (q : Q (.int kvs.length) S) : dLen [.ref f] S Q := .inr (.inl (mtW_of h q))
theorem q_lenL {S : Sto} {f : Addr} {xs : List D} {Q : QD} (h : S f = some (.ml xs)) (q : Q (.int xs.length) S) : dLen [.ref f] S Q := .inl (refW_of h q)
/-- the dict of a round so far -/
structure Rd (M : M3) (s0 : Int) (L : List (Int × Int)) (kvs : List (List Int × D)) : Prop where
  k : kvs.map (·.1) = L.map fun x => (pt M x).l
  nd : (L.map (pt M)).Nodup
  b : ∀ x ∈ L, 0 < x.2 ∧ x.2 ≤ 3 ∧ x.1.natAbs ≤ 100
  s : ∀ x ∈ L, x.1 < s0 * x.2
theorem Rd.len {M : M3} {s0 : Int} {L : List (Int × Int)} {kvs : List (List Int × D)} (h : Rd M s0 L kvs) : kvs.length = L.length := by
  have := congrArg List.length h.k
  rwa [List.length_map, List.length_map] at this
theorem Rd.mem {M : M3} {s0 : Int} {L : List (Int × Int)} {kvs : List (List Int × D)} (h : Rd M s0 L kvs) {v : V3} : v.l ∈ kvs.map (·.1) ↔ v ∈ L.map (pt M) := by
  rw [h.k]
  constructor
  · intro hv
    obtain ⟨x, hx, e⟩ := List.mem_map.mp hv
    exact List.mem_map.mpr ⟨x, hx, l_inj e⟩
  · intro hv
    obtain ⟨x, hx, rfl⟩ := List.mem_map.mp hv
    exact List.mem_map.mpr ⟨x, hx, rfl⟩
theorem Rd.put {M : M3} {s0 s1 : Int} {L : List (Int × Int)} {kvs : List (List Int × D)} (h : Rd M s0 L kvs) {x : Int × Int} (hx : 0 < x.2 ∧ x.2 ≤ 3 ∧ x.1.natAbs ≤ 100) (hs : x.1 < s1 * x.2) (hs1 : s0 ≤ s1) {d : D} :
    ∃ L', Rd M s1 L' (putD kvs (pt M x).l d) ∧ (L' = L ∨ L'.length = L.length + 1) ∧ (pt M x ∉ L.map (pt M) → L'.length = L.length + 1) := by
  have up : ∀ y ∈ L, y.1 < s1 * y.2 := fun y hy => by
    have h1 := h.s y hy
    have h2 := (h.b y hy).1
    have := Int.mul_le_mul_of_nonneg_right hs1 (by omega : 0 ≤ y.2)
    omega
  by_cases hm : pt M x ∈ L.map (pt M)
  · refine ⟨L, ⟨?_, h.nd, h.b, up⟩, .inl rfl, fun z => absurd hm z⟩
    rw [putD_keys, if_pos (h.mem.mpr hm), h.k]
  · refine ⟨L ++ [x], ⟨?_, ?_, fun y hy => ?_, fun y hy => ?_⟩, .inr (by simp), fun _ => by simp⟩
    · rw [putD_keys, if_neg (fun z => hm (h.mem.mp z)), h.k, List.map_append]; rfl
    · rw [List.map_append, List.nodup_append]
      refine ⟨h.nd, by simp, fun u hu v hv e => ?_⟩
      rw [List.map_cons, List.map_nil, List.mem_singleton] at hv
      subst hv
      exact hm (e ▸ hu)
    · rcases List.mem_append.mp hy with hy | hy
      · exact h.b y hy
      · rw [List.mem_singleton] at hy; subst hy; exact hx
    · rcases List.mem_append.mp hy with hy | hy
      · exact up y hy
      · rw [List.mem_singleton] at hy; subst hy; exact hs
section
variable {Γ : Gam}
theorem rd_1 (h : Γ.f "_law_below" = some (2, e_draw)) (h2 : Γ.f "_law_one" = some (2, e_oneT)) (h3 : Γ.f "_law_turn" = some (2, e_turn)) {a f : Addr} {n : Nat} {w : Int} {M : M3} {o5 o6 o7 : OD} {m : Pool} {r : Nat} {L : List (Int × Int)} {kvs : List (List Int × D)} {E : EndsD} {S : Sto}
    (hM : det M ≠ 0) (bM : M.B 8) (hS : S a = some (pm m)) (hf : S f = some (.mt kvs)) (hfa : f ≠ a) (po : PO (r + 2) m) (hn : n ≤ 12) (R : Rd M 20 L kvs) (hL : L.length ≤ n)
    (k : ∀ m' S' L' kvs' o6 o7, S' a = some (pm m') → S' f = some (.mt kvs') → (∀ b, b ≠ a → b ≠ f → S' b = S b) → PO r m' → Rd M 20 L' kvs' → L'.length ≤ n → E.nx [some (.ref a), some (.int n), some (.int w), some (vw M), some (.ref f), o5, o6, o7, none, none] S') :
    evS Γ c_rd_1 E [some (.ref a), some (.int n), some (.int w), some (vw M), some (.ref f), o5, o6, o7, none, none] S := by
  have bn : B 8 (n : Int) := B_le (N := 100) (by omega) (by decide)
  refine tcl_of h ⟨BI2.mulW bn, rfl, a, m, r + 1, _, rfl, hS, po, by omega, by omega, fun s m1 s0 s1 po1 => ?_⟩
  refine tcl_of h2 ⟨sz_of (show 5 ≤ 1000000 by decide), rfl, a, m1, r, _, rfl, ups_same, po1, by decide, by decide, fun d m2 hd po2 => ?_⟩
  rw [ups_ups]
  have : ∃ t : Int, d = .int t ∧ 0 < t ∧ t ≤ 3 := by
    simp only [List.mem_cons, List.not_mem_nil, or_false] at hd
    rcases hd with rfl | rfl | rfl | rfl | rfl
    · exact ⟨1, rfl, by decide, by decide⟩
    · exact ⟨1, rfl, by decide, by decide⟩
    · exact ⟨1, rfl, by decide, by decide⟩
    · exact ⟨2, rfl, by decide, by decide⟩
    · exact ⟨3, rfl, by decide, by decide⟩
  obtain ⟨t, rfl, t0, t3'⟩ := this
  have hf1 : ups S a (pm m2) f = some (.mt kvs) := by rw [ups_ne hfa]; exact hf
  refine .inr (.inl (mtW_of hf1 ?_))
  refine ite_d (p := (kvs.length : Int) < n) (fun hlt => ?_) fun hlt => ?_
  · generalize hu : s - (n : Int) = u
    have u1 : u.natAbs ≤ 100 := by omega
    have u2 : u < 20 * t := by omega
    have bu : B 8 u := B_le (N := 100) u1 (by decide)
    have bt : B 8 t := B_le (N := 100) (by omega) (by decide)
    have nz : nz2 (u, t) := .inr (by show t ≠ 0; omega)
    refine tcl_of h3 ⟨bu.mulW bu, bu.mulW bt, bt.mulW bt, sz_of (show 3 ≤ 1000000 by decide), rfl, M, phi u t, rfl, bM.mono (by omega), ⟨(bu.mul bu).mono (by omega), (bu.mul bt).mono (by omega), (bt.mul bt).mono (by omega)⟩, pt_ne0 hM nz, ?_⟩
    refine dSet_mt hf1 (by have := R.len; omega) ?_
    obtain ⟨L', R', hl, _⟩ := R.put (x := (u, t)) (d := .bl true) ⟨t0, t3', u1⟩ u2 (Int.le_refl _)
    refine k m2 _ L' _ _ _ ?_ ups_same (fun b h1 h2 => by rw [ups_ne h2, ups_ne h1]) po2 R' ?_
    · rw [ups_ne (Ne.symm hfa)]; exact ups_same
    · have := R.len
      rcases hl with rfl | hl
      · exact hL
      · omega
  · exact k m2 _ L kvs _ _ ups_same hf1 (fun b h1 _ => ups_ne h1) po2 R hL
theorem rd_2 (h3 : Γ.f "_law_turn" = some (2, e_turn)) {a f : Addr} {n : Nat} {w s : Int} {M : M3} {o5 o7 : OD} {m : Pool} {L : List (Int × Int)} {kvs : List (List Int × D)} {E : EndsD} {S : Sto}
    (hM : det M ≠ 0) (bM : M.B 8) (hS : S a = some (pm m)) (hf : S f = some (.mt kvs)) (hfa : f ≠ a) (hn : n ≤ 12) (s20 : 20 ≤ s) (s100 : s ≤ 50) (R : Rd M s L kvs) (hL : L.length < n)
    (k : ∀ S' L' kvs', S' a = some (pm m) → S' f = some (.mt kvs') → (∀ b, b ≠ f → S' b = S b) → Rd M (s + 1) L' kvs' → L'.length = L.length + 1 → E.nx [some (.ref a), some (.int n), some (.int w), some (vw M), some (.ref f), o5, some (.int s), o7, none, none] S') :
    evS Γ c_rd_2 E [some (.ref a), some (.int n), some (.int w), some (vw M), some (.ref f), o5, some (.int s), o7, none, none] S := by
  have bs : B 8 s := B_le (N := 100) (by omega) (by decide)
  have nz : nz2 (s, 1) := .inr (show (1 : Int) ≠ 0 by decide)
  have ep : (⟨s * s, s, 1⟩ : V3) = phi s 1 := by ext <;> simp [phi]
  refine tcl_of h3 ⟨bs.mulW bs, sz_of (show 3 ≤ 1000000 by decide), rfl, M, ⟨s * s, s, 1⟩, rfl, bM.mono (by omega), ⟨(bs.mul bs).mono (by omega), bs.mono (by omega), B_le (N := 1) (show (1 : Int).natAbs ≤ 1 by decide) (Nat.one_lt_two_pow (by decide))⟩, by rw [ep]; exact pt_ne0 hM nz, ?_⟩
  rw [ep]
  refine dSet_mt hf (by have := R.len; omega) ?_
  have hnew : pt M (s, 1) ∉ L.map (pt M) := fun z => by
    obtain ⟨x, hx, e⟩ := List.mem_map.mp z
    have hb := R.b x hx
    have := (pt_eq hM (x := x) (y := (s, 1)) (.inr (by omega)) nz).mp e
    have hs := R.s x hx
    unfold br at this
    simp only [Int.mul_one] at this
    rw [Int.mul_comm] at hs
    omega
  obtain ⟨L', R', _, hl⟩ := R.put (x := (s, 1)) (s1 := s + 1) (d := .bl true) ⟨(show (0 : Int) < 1 by decide), (show (1 : Int) ≤ 3 by decide), by show s.natAbs ≤ 100; omega⟩ (by show s < (s + 1) * 1; omega) (by omega)
  refine k _ L' _ (by rw [ups_ne (Ne.symm hfa)]; exact hS) ups_same (fun b h1 => ups_ne h1) R' (hl hnew)
theorem rd_3 (h : Γ.f "_law_below" = some (2, e_draw)) {a g l : Addr} {o1 o2 o3' o4 o5 o6 o7 : OD} {m : Pool} {r : Nat} {F lf : List D} {E : EndsD} {S : Sto}
    (hS : S a = some (pm m)) (hg : S g = some (.ml F)) (hl : S l = some (.ml lf)) (hga : g ≠ a) (hla : l ≠ a) (hlg : l ≠ g) (po : PO (r + 1) m) (h1 : 1 ≤ lf.length) (h2 : lf.length ≤ 100) (h3 : F.length ≤ 100)
    (k : ∀ m' (v : Nat) d S', lf[v]? = some d → S' a = some (pm m') → S' g = some (.ml (F ++ [d])) → S' l = some (.ml (lf.eraseIdx v)) → (∀ b, b ≠ a → b ≠ g → b ≠ l → S' b = S b) → PO r m' → E.nx [some (.ref a), o1, o2, o3', o4, o5, o6, o7, some (.ref g), some (.ref l)] S') :
    evS Γ c_rd_3 E [some (.ref a), o1, o2, o3', o4, o5, o6, o7, some (.ref g), some (.ref l)] S := by
  refine refW_of hg (refW_of hl (tcl_of h (.inl (refW_of hl ?_))))
  refine ⟨rfl, a, m, r, _, rfl, hS, po, by omega, by omega, fun v m' v0 v1 po' => ?_⟩
  obtain ⟨i, rfl⟩ := nat_of v0
  have hi : i < lf.length := by omega
  have hl' : ups S a (pm m') l = some (.ml lf) := by rw [ups_ne hla]; exact hl
  refine refW_of hl' ⟨by omega, by omega, ?_⟩
  have ei : ixN lf.length (i : Int) = some i := by
    unfold ixN
    rw [if_pos (by omega), if_pos (by omega)]
    simp
  rw [ei]
  simp only
  rw [List.getElem?_eq_getElem hi]
  simp only
  have hg' : ups (ups S a (pm m')) l (.ml (lf.eraseIdx i)) g = some (.ml F) := by rw [ups_ne (Ne.symm hlg), ups_ne hga]; exact hg
  refine refW_of hg' ⟨lt_line (by omega), ?_⟩
  refine k m' i lf[i] _ (List.getElem?_eq_getElem hi) ?_ ups_same ?_ (fun b b1 b2 b3 => by rw [ups_ne b2, ups_ne b3, ups_ne b1]) po'
  · rw [ups_ne (Ne.symm hga), ups_ne (Ne.symm hla)]; exact ups_same
  · rw [ups_ne hlg]; exact ups_same
theorem base_B : base.B 8 := ⟨by unfold B; decide, by unfold B; decide, by unfold B; decide, by unfold B; decide, by unfold B; decide, by unfold B; decide⟩
theorem rd_e (h : Γ.f "_law_turned_curve" = some (2, e_turned)) {a g : Addr} {o1 o2 o4 o5 o6 o7 o9 : OD} {M : M3} {F : List D} {E : EndsD} {S : Sto} (hM : ViewOk M) (bM : M.B 8) (hg : S g = some (.ml F)) (k : E.rt (.tup [t6 (tc M base), .tup F]) S) :
    evS Γ c_rd_e E [some (.ref a), o1, o2, some (vw M), o4, o5, o6, o7, some (.ref g), o9] S := by
  refine tcl_of h ⟨sz_of (show 6 ≤ 1000000 by decide), rfl, M, base, rfl, bM.mono (by omega), base_B.mono (by omega), full_ne (full_rc (det_adj_ne hM.d) base_full), ?_⟩
  exact refW_of hg ⟨sz_of (show 2 ≤ 1000000 by decide), k⟩
theorem rd_d (h : Γ.f "_law_below" = some (2, e_draw)) (h2 : Γ.f "_law_turned_curve" = some (2, e_turned)) {a g l : Addr} {n : Nat} {o2 o4 o5 o6 o7 : OD} {M : M3} {m : Pool} {r : Nat} {Ls : List D} {E : EndsD} {S : Sto} (hM : ViewOk M) (bM : M.B 8)
    (hS : S a = some (pm m)) (hg : S g = some (.ml [])) (hl : S l = some (.ml Ls)) (hga : g ≠ a) (hla : l ≠ a) (hlg : l ≠ g) (po : PO (r + 12) m) (hn : n ≤ 12) (hL : Ls.length = n)
    (k : ∀ F m' S', F.Perm Ls → S' a = some (pm m') → (∀ b, b ≠ a → b ≠ g → b ≠ l → S' b = S b) → PO r m' → E.rt (.tup [t6 (tc M base), .tup F]) S') :
    evS Γ c_rd_d E [some (.ref a), some (.int n), o2, some (vw M), o4, o5, o6, o7, some (.ref g), some (.ref l)] S := by
  refine ⟨crng (by omega) (by omega), ?_⟩
  refine sloop_inv (fun xs σ S' => ∃ (m' : Pool) (lf F : List D) (o5 : OD), xs.length = lf.length ∧ lf.length ≤ 12 ∧ (F ++ lf).Perm Ls ∧ σ = [some (.ref a), some (.int n), o2, some (vw M), o4, o5, o6, o7, some (.ref g), some (.ref l)] ∧ S' a = some (pm m') ∧ S' g = some (.ml F) ∧ S' l = some (.ml lf) ∧ PO (r + lf.length) m' ∧ ∀ b, b ≠ a → b ≠ g → b ≠ l → S' b = S b) ?_ ?_ _ _ _
    ⟨m, Ls, [], o5, by rw [rngD_len]; simp [hL], by omega, by simp, rfl, hS, hg, hl, po.le (by omega), fun b _ _ _ => rfl⟩
  · rintro y xs σ S' N ⟨m', lf, F, o5, e1, e2, e3, rfl, hS', hg', hl', po', hb⟩ hN
    have e1' : xs.length + 1 = lf.length := e1
    have hF : F.length + lf.length = Ls.length := by rw [← e3.length_eq, List.length_append]
    refine ⟨trivial, rd_3 (r := r + xs.length) (E := { nx := N, rt := _, bk := _, ct := N }) h hS' hg' hl' hga hla hlg (po'.le (by omega)) (by omega) (by omega) (by omega) fun m2 v d S2 hv a1 a2 a3 a4 po2 => hN _ _ ⟨m2, lf.eraseIdx v, F ++ [d], some y, ?_, ?_, ?_, rfl, a1, a2, a3, ?_, fun b b1 b2 b3 => by rw [a4 b b1 b2 b3, hb b b1 b2 b3]⟩⟩
    all_goals have hvl : v < lf.length := (List.getElem?_eq_some_iff.mp hv).1
    · rw [List.length_eraseIdx_of_lt hvl]; omega
    · rw [List.length_eraseIdx_of_lt hvl]; omega
    · refine List.Perm.trans ?_ e3
      rw [List.append_assoc]
      refine List.Perm.append_left F ?_
      have : lf[v]'hvl = d := by rw [List.getElem?_eq_getElem hvl] at hv; exact Option.some.inj hv
      have e5 : lf = lf.take v ++ d :: lf.drop (v + 1) := by
        conv => lhs; rw [← List.take_append_drop v lf]
        rw [List.drop_eq_getElem_cons hvl, this]
      rw [List.eraseIdx_eq_take_drop_succ]
      conv => rhs; rw [e5]
      exact (List.perm_middle (a := d) (l₁ := lf.take v) (l₂ := lf.drop (v + 1))).symm
    · rw [List.length_eraseIdx_of_lt hvl]; exact po2.le (by omega)
  · rintro σ S' ⟨m', lf, F, o5, e1, e2, e3, rfl, hS', hg', hl', po', hb⟩
    have el : lf = [] := List.length_eq_zero_iff.mp e1.symm
    subst el
    rw [List.append_nil] at e3
    exact ⟨trivial, rd_e h2 hM bM hg' (k F m' S' e3 hS' hb (po'.le (by simp)))⟩
theorem rd_c (h : Γ.f "_law_below" = some (2, e_draw)) (h2 : Γ.f "_law_turned_curve" = some (2, e_turned)) {a f : Addr} {n : Nat} {o2 o5 o6 o7 : OD} {M : M3} {m : Pool} {r : Nat} {s0 : Int} {L : List (Int × Int)} {kvs : List (List Int × D)} {E : EndsD} {S : Sto} (hM : ViewOk M) (bM : M.B 8)
    (hS : S a = some (pm m)) (hf : S f = some (.mt kvs)) (hfa : f ≠ a) (po : PO (r + 12) m) (hn : n ≤ 12) (R : Rd M s0 L kvs) (hL : L.length = n)
    (k : ∀ (L' : List (Int × Int)) m' S', L'.Perm L → S' a = some (pm m') → (∀ b m2, b ≠ a → S b = some m2 → S' b = some m2) → PO r m' → E.rt (.tup [t6 (tc M base), tv (L'.map (pt M))]) S') :
    evS Γ c_rd_c E [some (.ref a), some (.int n), o2, some (vw M), some (.ref f), o5, o6, o7, none, none] S := by
  refine ⟨sz_of (Nat.zero_le _), fun g hg => ?_⟩
  have hga : g ≠ a := fun e => by rw [e, hS] at hg; cases hg
  have hgf : g ≠ f := fun e => by rw [e, hf] at hg; cases hg
  refine mtW_of (by rw [ups_ne (Ne.symm hgf)]; exact hf) ⟨by have := R.len; omega, ⟨3, by decide, fun p hp => ?_⟩, fun ys hy l hl => ?_⟩
  · have : p.1 ∈ kvs.map (·.1) := List.mem_map.mpr ⟨p, hp, rfl⟩
    rw [R.k] at this
    obtain ⟨x, _, e⟩ := List.mem_map.mp this
    rw [← e]; rfl
  · have hlg : l ≠ g := fun e => by rw [e, ups_same] at hl; cases hl
    rw [ups_ne hlg] at hl
    have hla : l ≠ a := fun e => by rw [e, hS] at hl; cases hl
    rw [R.k] at hy
    have hyl : ys.length = n := by rw [hy.length_eq, List.length_map, hL]
    refine rd_d (g := g) (l := l) (Ls := ys.map tiD) (r := r) h h2 hM bM ?_ ?_ ups_same hga hla hlg po hn (by rw [List.length_map, hyl]) fun F m' S' pF hS' hb po' => ?_
    · rw [ups_ne (Ne.symm hla), ups_ne (Ne.symm hga)]; exact hS
    · rw [ups_ne (Ne.symm hlg)]; exact ups_same
    · have p2 : F.Perm ((L.map fun x => (pt M x).l).map tiD) := pF.trans (hy.map tiD)
      have e3 : ((L.map fun x => (pt M x).l).map tiD) = L.map fun x => t3 (pt M x) := by rw [List.map_map]; rfl
      rw [e3] at p2
      obtain ⟨L', pL, eF⟩ := perm_lift p2 rfl
      have e4 : tv (L'.map (pt M)) = .tup F := by
        rw [← eF]; unfold tv; rw [List.map_map]; rfl
      rw [← e4]
      refine k L' m' S' pL hS' (fun b m2 h1 h2 => ?_) po'
      have b1 : b ≠ g := fun e => by rw [e, hg] at h2; cases h2
      have b2 : b ≠ l := fun e => by rw [e, hl] at h2; cases h2
      rw [hb b h1 b1 b2, ups_ne b2, ups_ne b1]; exact h2
theorem rng_int : ∀ (n : Nat) (lo : Int), ∀ x ∈ rngD lo n, ∃ i : Int, x = .int i ∧ lo ≤ i ∧ i < lo + n
  | 0, lo, x, hx => by cases hx
  | n + 1, lo, x, hx => by
    rcases List.mem_cons.mp hx with rfl | hx
    · exact ⟨lo, rfl, by omega, by omega⟩
    · obtain ⟨i, rfl, h1, h2⟩ := rng_int n (lo + 1) x hx
      exact ⟨i, rfl, by omega, by omega⟩
theorem rd_b (h : Γ.f "_law_below" = some (2, e_draw)) (h2 : Γ.f "_law_turned_curve" = some (2, e_turned)) (h3 : Γ.f "_law_turn" = some (2, e_turn)) {a f : Addr} {n : Nat} {w : Int} {o5 o6 o7 : OD} {M : M3} {m : Pool} {r : Nat} {L : List (Int × Int)} {kvs : List (List Int × D)} {E : EndsD} {S : Sto} (hM : ViewOk M) (bM : M.B 8)
    (hS : S a = some (pm m)) (hf : S f = some (.mt kvs)) (hfa : f ≠ a) (po : PO (r + 12) m) (hn : n ≤ 12) (R : Rd M 20 L kvs) (hL : L.length ≤ n)
    (k : ∀ (L' : List (Int × Int)) m' S', L'.length = n → (∀ x ∈ L', 0 < x.2 ∧ x.2 ≤ 3 ∧ x.1.natAbs ≤ 100) → (L'.map (pt M)).Nodup → S' a = some (pm m') → (∀ b m2, b ≠ a → b ≠ f → S b = some m2 → S' b = some m2) → PO r m' → E.rt (.tup [t6 (tc M base), tv (L'.map (pt M))]) S') :
    evS Γ c_rd_b E [some (.ref a), some (.int n), some (.int w), some (vw M), some (.ref f), o5, o6, o7, none, none] S := by
  have hl := R.len
  refine .inr (.inl (mtW_of hf ⟨crng (by omega) (by omega), crng (by omega) (by omega), ?_⟩))
  refine sloop_inv (fun xs σ S' => ∃ (i : Nat) (L' : List (Int × Int)) (kvs' : List (List Int × D)) (o6 : OD), xs = rngD (20 + (i : Int)) xs.length ∧ i + xs.length ≤ n ∧ L'.length + xs.length = n ∧ Rd M (20 + i) L' kvs' ∧ σ = [some (.ref a), some (.int n), some (.int w), some (vw M), some (.ref f), o5, o6, o7, none, none] ∧ S' a = some (pm m) ∧ S' f = some (.mt kvs') ∧ ∀ b, b ≠ f → S' b = S b) ?_ ?_ _ _ _
    ⟨0, L, kvs, o6, ?_, ?_, ?_, by simpa using R, rfl, hS, hf, fun b _ => rfl⟩
  · rintro y xs σ S' N ⟨i, L', kvs', o6, e1, e2, e3, R', rfl, hS', hf', hb⟩ hN
    have e1' : y :: xs = .int (20 + (i : Int)) :: rngD (20 + (i : Int) + 1) xs.length := e1
    injection e1' with ey ex
    subst ey
    have e2' : i + (xs.length + 1) ≤ n := e2
    have e3' : L'.length + (xs.length + 1) = n := e3
    refine ⟨trivial, rd_2 (s := 20 + i) (E := { nx := N, rt := _, bk := _, ct := N }) h3 hM.d bM hS' hf' hfa hn (by omega) (by omega) R' (by omega) fun S2 L2 k2 a1 a2 a3 R2 hl2 => hN _ _ ⟨i + 1, L2, k2, _, ?_, by omega, by omega, ?_, rfl, a1, a2, fun b b1 => by rw [a3 b b1, hb b b1]⟩⟩
    · have : (20 + ((i + 1 : Nat) : Int)) = 20 + (i : Int) + 1 := by omega
      rw [this]; exact ex
    · have : (20 + ((i + 1 : Nat) : Int)) = 20 + (i : Int) + 1 := by omega
      rw [this]; exact R2
  · rintro σ S' ⟨i, L', kvs', o6, e1, e2, e3, R', rfl, hS', hf', hb⟩
    have e3' : L'.length + 0 = n := e3
    refine ⟨trivial, rd_c (r := r) h h2 hM bM hS' hf' hfa po hn R' (by omega) fun L2 m' S2 pL hS2 hb2 po2 => ?_⟩
    refine k L2 m' S2 (by rw [pL.length_eq]; omega) (fun x hx => R'.b x (pL.mem_iff.mp hx)) ((pL.map (pt M)).nodup_iff.mpr R'.nd) hS2 (fun b m2 b1 b2 hb3 => hb2 b m2 b1 (by rw [hb b b2]; exact hb3)) po2
  · rw [rngD_len]; rfl
  · rw [rngD_len, hl]; omega
  · rw [rngD_len, hl]; omega
theorem r_round (h0 : Γ.f "_law_view" = some (2, e_view)) (h : Γ.f "_law_below" = some (2, e_draw)) (h1 : Γ.f "_law_one" = some (2, e_oneT)) (h2 : Γ.f "_law_turned_curve" = some (2, e_turned)) (h3 : Γ.f "_law_turn" = some (2, e_turn)) :
    ∀ ds S Q, ds.length = 3 → e_round ds S Q → evS Γ c__law_round (endsD Q) (startD n__law_round.length ds) S := by
  rintro ds S Q _ ⟨a, m, r, n, w, rfl, hS, po, hn1, hn, hw, hw2, q⟩
  refine tcl_of h0 ⟨rfl, a, m, r + 146, w, rfl, hS, po, hw, hw2, fun M m1 ok bM po1 => .inl fun f hf => ?_⟩
  have hfa : f ≠ a := fun e => by rw [e, ups_same] at hf; cases hf
  rw [ups_ne hfa] at hf
  have bn : B 8 (n : Int) := B_le (N := 100) (by omega) (by decide)
  have b4 : B 3 4 := by unfold B; decide
  refine ⟨b4.mulW bn, crng (by omega) (by omega), ?_⟩
  refine sloop_inv (fun xs σ S' => ∃ (m' : Pool) (L : List (Int × Int)) (kvs : List (List Int × D)) (o5 o6 o7 : OD), PO (r + 12 + 2 * xs.length) m' ∧ L.length ≤ n ∧ Rd M 20 L kvs ∧ σ = [some (.ref a), some (.int n), some (.int w), some (vw M), some (.ref f), o5, o6, o7, none, none] ∧ S' a = some (pm m') ∧ S' f = some (.mt kvs) ∧ ∀ b, b ≠ a → b ≠ f → S' b = S b) ?_ ?_ _ _ _
    ⟨m1, [], [], none, none, none, po1.le (by rw [rngD_len]; omega), Nat.zero_le _, ⟨rfl, by simp, fun x hx => (by cases hx), fun x hx => (by cases hx)⟩, rfl, by rw [ups_ne (Ne.symm hfa)]; exact ups_same, ups_same, fun b b1 b2 => by rw [ups_ne b2, ups_ne b1]⟩
  · rintro y xs σ S' N ⟨m', L, kvs, o5, o6, o7, po', hL, R, rfl, hS', hf', hb⟩ hN
    refine ⟨trivial, rd_1 (r := r + 12 + 2 * xs.length) (E := { nx := N, rt := _, bk := _, ct := N }) h h1 h3 ok.d bM hS' hf' hfa (po'.le (by simp only [List.length_cons]; omega)) hn R hL fun m2 S2 L2 k2 o6 o7 a1 a2 a3 po2 R2 hL2 => hN _ _ ⟨m2, L2, k2, _, o6, o7, po2, hL2, R2, rfl, a1, a2, fun b b1 b2 => by rw [a3 b b1 b2, hb b b1 b2]⟩⟩
  · rintro σ S' ⟨m', L, kvs, o5, o6, o7, po', hL, R, rfl, hS', hf', hb⟩
    refine ⟨trivial, rd_b (r := r) h h2 h3 ok bM hS' hf' hfa (po'.le (by omega)) hn R hL fun L2 m2 S2 hl2 hb2 nd hS2 hb3 po2 => ?_⟩
    refine ⟨_, ups S a (pm m2), .less fun b mo e => ?_, q M L2 m2 ok bM hl2 hb2 nd po2⟩
    by_cases b1 : b = a
    · subst b1
      rw [ups_same] at e
      rw [hS2]; exact e
    · rw [ups_ne b1] at e
      have b2 : b ≠ f := fun z => by rw [z, hf] at e; cases e
      exact hb3 b mo b1 b2 (by rw [hb b b1 b2]; exact e)
end
end PyD

set_option Elab.async false
set_option linter.all false
set_option maxRecDepth 100000
set_option maxHeartbeats 1000000
set_option exponentiation.threshold 10000
/-! CnE: readings: what points on curves are checked for; the same; where draws come from; the law. -/
namespace PyD
open PySem PySem.Spec PyProof.Rows L2
def e_live : DSp := fun ds S Q => ∃ k : V6, ds = [t6 k] ∧ k.B 10000 ∧ det (tb k) ≠ 0 ∧ emp k = false ∧ Q (.bl true) S
def e_are_on : DSp := fun ds S Q => ∃ (k : V6) (ps : List V3), ds = [t6 k, tv ps] ∧ k.B 100000 ∧ ps.length ≤ 100 ∧ (∀ p ∈ ps, p.B 100000 ∧ qv k p = 0) ∧ Q (.bl true) S
def e_check_on : DSp := fun ds S Q => ∃ (k : V6) (ps : List V3), ds = [t6 k, tv ps] ∧ k.B 10000 ∧ det (tb k) ≠ 0 ∧ emp k = false ∧ ps.length ≤ 100 ∧ (∀ p ∈ ps, p.B 100000 ∧ qv k p = 0) ∧ Q .non S
def e_turned_curve : DSp := fun ds S Q => ∃ (V : M3) (k : V6), ds = [vw V, t6 k] ∧ ViewOk V ∧ V.B 1000 ∧ PlainL k.l ∧ k.B 1000 ∧ det (tb k) ≠ 0 ∧ Q (t6 (tc V k)) S
def e_on_curve : DSp := fun ds S Q => ∃ (k : V6) (p : V3), ds = [t6 k, t3 p] ∧ PlainL k.l ∧ PlainL p.l ∧ k.B 100000 ∧ p.B 100000 ∧ Q (.bl (decide (qv k p = 0))) S
/-! the same: data of ints, nested so deep -/
def e_sameI : DSp := fun ds S Q => ∃ i : Int, ds = [.int i, .int i] ∧ Q (.bl true) S
def e_sameS (e : DSp) : DSp := fun ds S Q => ∃ xs : List D, ds = [.tup xs, .tup xs] ∧ xs.length ≤ 1000 ∧ (∀ x ∈ xs, ∀ Q : QD, Q (.bl true) S → e [x, x] S Q) ∧ Q (.bl true) S
def e_right : DSp := fun ds S Q => ∃ (a : Addr) (m : Pool) (r : Nat), ds = [.ref a] ∧ S a = some (pm m) ∧ PO (r + 20000) m ∧ ∀ m', PO r m' → Q (.bl true) (ups S a (pm m'))
def e_lawD : DSp := fun ds S Q => ∃ ns : List Int, ds = [.scr (ns.map D.int)] ∧ ns.length ≤ 63 ∧ ∀ S', Q (.bl true) S'
section
variable {Γ : Gam}
theorem r_are_on (h : Γ.f "value_by_curvepointwork" = some (2, e_value)) : ∀ ds S Q, ds.length = 2 → e_are_on ds S Q → evS Γ c_are_on_by (endsD Q) (startD n_are_on_by.length ds) S := by
  rintro ds S Q _ ⟨k, ps, rfl, hk, hl, hp, q⟩
  refine tcomp_map (fun _ => .bl true) (by rfl) (ps.map t3) [] (by simp; omega) (fun x hx N hN => ?_) ?_
  · obtain ⟨p, hm, rfl⟩ := List.mem_map.mp hx
    obtain ⟨bp, on⟩ := hp p hm
    refine tcl_of h ⟨rfl, k, p, rfl, hk, bp, q_eq eqD_int ?_⟩
    rw [on]
    exact hN
  · exact q_allT allT_map (VQ.same q)
theorem r_turned_curve (h : Γ.f "check_view" = some (1, e_check_view)) (h2 : Γ.f "check_curve" = some (1, e_check_curve)) (h3 : Γ.f "turned_by" = some (2, e_turned)) : ∀ ds S Q, ds.length = 2 → e_turned_curve ds S Q → evS Γ c_turned_curve (endsD Q) (startD n_turned_curve.length ds) S := by
  rintro ds S Q _ ⟨V, k, rfl, hV, bV, hk, bk, hd, q⟩
  exact tcl_of h ⟨rfl, V, rfl, hV, bV.mono (by omega), tcl_of h2 ⟨rfl, k, rfl, hk, tcl_of h3 ⟨rfl, V, k, rfl, bV, bk, full_ne (full_rc (det_adj_ne hV.d) hd), VQ.same q⟩⟩⟩
theorem r_on_curve (h : Γ.f "check_curve" = some (1, e_check_curve)) (h2 : Γ.f "check_point" = some (1, e_check3)) (h3 : Γ.f "is_on_by" = some (2, e_is_on)) : ∀ ds S Q, ds.length = 2 → e_on_curve ds S Q → evS Γ c_is_on_curve (endsD Q) (startD n_is_on_curve.length ds) S := by
  rintro ds S Q _ ⟨k, p, rfl, hk, hp, bk, bp, q⟩
  exact tcl_of h ⟨rfl, k, rfl, hk, tcl_of h2 ⟨rfl, p, rfl, hp, tcl_of h3 ⟨rfl, k, p, rfl, bk, bp, VQ.same q⟩⟩⟩
theorem r_sameI : ∀ ds S Q, ds.length = 2 → e_sameI ds S Q → evS Γ c__law_same (endsD Q) (startD n__law_same.length ds) S := by
  rintro ds S Q _ ⟨i, rfl, q⟩
  refine q_eq eqD_int ?_
  rw [decide_eq_true rfl]
  exact VQ.same q
theorem r_sameS {e : DSp} (h : Γ.f "_law_same" = some (2, e)) : ∀ ds S Q, ds.length = 2 → e_sameS e ds S Q → evS Γ c__law_same (endsD Q) (startD n__law_same.length ds) S := by
  rintro ds S Q _ ⟨xs, rfl, hl, hx, q⟩
  refine q_ne eqD_int ?_
  rw [decide_eq_true rfl]
  refine if_f ?_
  have zm : ∀ (xs : List D) (x : D), x ∈ zipD xs xs → ∃ y ∈ xs, x = .tup [y, y] := fun xs => by
    induction xs with
    | nil => intro x hx; cases hx
    | cons y ys ih =>
      intro x hx
      rw [zipD] at hx
      rcases List.mem_cons.mp hx with rfl | hx
      · exact ⟨y, List.mem_cons_self .., rfl⟩
      · obtain ⟨z, hz, e⟩ := ih x hx
        exact ⟨z, List.mem_cons_of_mem _ hz, e⟩
  have zl : ∀ xs : List D, (zipD xs xs).length = xs.length := fun xs => by
    induction xs with
    | nil => rfl
    | cons y ys ih => rw [zipD, List.length_cons, List.length_cons, ih]
  refine tcomp_map (fun _ => .bl true) (by exact ⟨rfl, rfl⟩) (zipD xs xs) [] (by rw [zl]; simp; omega) (fun x hx' N hN => ?_) ?_
  · obtain ⟨y, hy, rfl⟩ := zm xs x hx'
    exact ⟨rfl, tcl_of h ⟨rfl, hx y hy _ hN⟩⟩
  · exact q_allT allT_map (VQ.same q)
theorem cut_mem {ds : List D} {lo hi : Option Int} {x : D} (h : x ∈ cutD ds lo hi) : x ∈ ds := List.mem_of_mem_drop (List.mem_of_mem_take h)
theorem pool_tail {script : OD} {i cell st : Int} {o4 : OD} {S : Sto} {D : EndsD} (b : B 40 st) (k : ∀ a m, S a = none → PO 1000000 m → D.rt (.ref a) (ups S a (pm m))) :
    evS Γ (.seq (.asg (.bin .Mod (.bi .int (.cons (.bin .Add (.bin .Add (.bin .Mult (.var 3) (.lit (.int 81))) (.bin .Mult (.bin .Mod (.bi .int (.cons (.var 2) .nil)) (.lit (.int 2147483587))) (.lit (.int 27187)))) (.lit (.int 11))) .nil)) (.lit (.int 2147483647))) (.name 3)) (.seq (.ret (.own (.cons (.ifx (.or (.bl (.cmp .Lt (.var 2) (.lit (.int 0)))) (.bl (.cmp .GtE (.var 2) (.bin .Pow (.lit (.int 10)) (.lit (.int 15)))))) (.bin .Mod (.bi .int (.cons (.bi .abs (.cons (.var 2) .nil)) .nil)) (.bin .Pow (.lit (.int 10)) (.lit (.int 60)))) (.lit (.int 0))) (.cons (.var 3) (.cons (.lit (.int 0)) .nil))))) .next)) D
      [script, some (.int i), some (.int cell), some (.int st), o4] S := by
  have c0 : 0 ≤ cell % 2147483587 := Int.emod_nonneg _ (by decide)
  have c1 : cell % 2147483587 < 2147483587 := Int.emod_lt_of_pos _ (by decide)
  have bc : B 31 (cell % 2147483587) := B_lt c0 (by omega)
  refine ⟨b.mulW (m := 17) (B_le (N := 81) (by decide) (by decide)), by decide, bc.mulW (m := 15) (B_le (N := 27187) (by decide) (by decide)), by decide, ?_⟩
  have s0 : 0 ≤ (st * 81 + cell % 2147483587 * 27187 + 11) % 2147483647 := Int.emod_nonneg _ (by decide)
  have s1 : (st * 81 + cell % 2147483587 * 27187 + 11) % 2147483647 < 2147483647 := Int.emod_lt_of_pos _ (by decide)
  generalize hs : (st * 81 + cell % 2147483587 * 27187 + 11) % 2147483647 = s at s0 s1
  have fin : ∀ p : Int, 0 ≤ p → ∀ a, S a = none → D.rt (.ref a) (ups S a (.ml [.int p, .int s, .int 0])) := fun p hp a ha => k a ⟨p, s, 0⟩ ha ⟨hp, s0, by show s < 2 ^ 31; omega, (show (0 : Int) ≤ 0 by decide), by show (0 : Int) + 1000000 ≤ 2 ^ 40; decide⟩
  subst hs
  refine ite_d (p := cell < 0) (fun _ => ?_) fun _ => ?_
  · exact ⟨⟨by decide, by decide, by decide⟩, by decide, sz_of (show 3 ≤ 1000000 by decide), fun a ha => fin _ (Int.emod_nonneg _ (by decide)) a ha⟩
  · refine ⟨⟨by decide, by decide, by decide⟩, ite_d (p := (10 : Int) ^ 15 ≤ cell) (fun _ => ?_) fun _ => ?_⟩
    · exact ⟨⟨by decide, by decide, by decide⟩, by decide, sz_of (show 3 ≤ 1000000 by decide), fun a ha => fin _ (Int.emod_nonneg _ (by decide)) a ha⟩
    · exact ⟨sz_of (show 3 ≤ 1000000 by decide), fun a ha => fin _ (by decide) a ha⟩
theorem r_pool : ∀ ds S Q, ds.length = 2 → e_pool ds S Q → evS Γ c__law_pool (endsD Q) (startD n__law_pool.length ds) S := by
  rintro ds S Q _ ⟨ns, i, rfl, i0, i1, hl, q⟩
  have bi : B 10 i := B_lt i0 (by omega)
  have rest : ∀ cell : Int, evS Γ (.seq (.asg (.bin .Add (.lit (.int 67439)) (.bin .Mult (.lit (.int 8965)) (.var 1))) (.name 3)) (.seq (.forr (.seq (.sl (.var 0) .no (.at (.lit (.int 12))))) (.name 4) (.seq (.asg (.bin .Mod (.bi .int (.cons (.bin .Add (.bin .Add (.bin .Mult (.var 3) (.lit (.int 53469))) (.bin .Mod (.bi .int (.cons (.var 4) .nil)) (.lit (.int 2147483587)))) (.lit (.int 71))) .nil)) (.lit (.int 2147483647))) (.name 3)) .next)) (.seq (.asg (.bin .Mod (.bi .int (.cons (.bin .Add (.bin .Add (.bin .Mult (.var 3) (.lit (.int 81))) (.bin .Mult (.bin .Mod (.bi .int (.cons (.var 2) .nil)) (.lit (.int 2147483587))) (.lit (.int 27187)))) (.lit (.int 11))) .nil)) (.lit (.int 2147483647))) (.name 3)) (.seq (.ret (.own (.cons (.ifx (.or (.bl (.cmp .Lt (.var 2) (.lit (.int 0)))) (.bl (.cmp .GtE (.var 2) (.bin .Pow (.lit (.int 10)) (.lit (.int 15)))))) (.bin .Mod (.bi .int (.cons (.bi .abs (.cons (.var 2) .nil)) .nil)) (.bin .Pow (.lit (.int 10)) (.lit (.int 60)))) (.lit (.int 0))) (.cons (.var 3) (.cons (.lit (.int 0)) .nil))))) .next)))) (endsD Q)
      [some (.scr (ns.map D.int)), some (.int i), some (.int cell), none, none] S := fun cell => by
    refine ⟨B.mulW (n := 14) (B_le (N := 8965) (by decide) (by decide)) bi, ?_⟩
    refine sloop_inv (fun xs σ S' => S' = S ∧ ∃ (st : Int) (o4 : OD), (∀ x ∈ xs, ∃ j : Int, x = .int j) ∧ B 40 st ∧ σ = [some (.scr (ns.map D.int)), some (.int i), some (.int cell), some (.int st), o4]) ?_ ?_ (cutD (ns.map D.int) none (some 12)) _ _
      ⟨rfl, _, none, fun x hx => ?_, ?_, rfl⟩
    · rintro y l σ S' N ⟨rfl, st, o4, hx, b, rfl⟩ hN
      obtain ⟨j, rfl⟩ := hx y (List.mem_cons_self ..)
      have s0 : 0 ≤ (st * 53469 + j % 2147483587 + 71) % 2147483647 := Int.emod_nonneg _ (by decide)
      have s1 : (st * 53469 + j % 2147483587 + 71) % 2147483647 < 2147483647 := Int.emod_lt_of_pos _ (by decide)
      exact ⟨rfl, b.mulW (m := 16) (B_le (N := 53469) (by decide) (by decide)), by decide, by decide, hN _ _ ⟨rfl, _, some (.int j), fun x hx' => hx x (List.mem_cons_of_mem _ hx'), B_lt s0 (by omega), rfl⟩⟩
    · rintro σ S' ⟨rfl, st, o4, hx, b, rfl⟩
      exact ⟨rfl, pool_tail b fun a m ha po => VQ.same (q a m ha po)⟩
    · obtain ⟨j, _, rfl⟩ := List.mem_map.mp (cut_mem hx)
      exact ⟨j, rfl⟩
    · exact B_le (N := 20000000) (by omega) (by decide)
  refine ite_d (p := i < ((ns.map D.int).length : Int)) (fun h => ?_) fun h => ?_
  · obtain ⟨n, rfl⟩ := nat_of i0
    rw [List.length_map] at h
    have hn : n < ns.length := by omega
    have hx : (ns.map D.int)[n]? = some (.int ns[n]) := by rw [List.getElem?_map, List.getElem?_eq_getElem hn]; rfl
    show (match (ns.map D.int)[n]? with | some d => dInt [d] S _ | none => False)
    rw [hx]
    exact rest _
  · exact ⟨B.mulW (n := 14) (B_le (N := 7495) (by decide) (by decide)) bi, rest _⟩
theorem r_law (h : Γ.f "_law_pool" = some (2, e_pool)) (h2 : Γ.f "_law_right" = some (1, e_right)) : ∀ ds S Q, ds.length = 1 → e_lawD ds S Q → evS Γ c_law (endsD Q) (startD n_law.length ds) S := by
  rintro ds S Q _ ⟨ns, rfl, hl, q⟩
  have hln : ((ns.map D.int).length : Int) ≤ 63 := by rw [List.length_map]; omega
  refine ⟨crng (by show -1000000 ≤ max 1 (min ((ns.map D.int).length : Int) 2); omega) (by show max 1 (min ((ns.map D.int).length : Int) 2) ≤ 1000000; omega), ?_⟩
  refine tcomp_inv (fun xs acc _ => (∀ x ∈ xs, ∃ i : Int, x = .int i ∧ 0 ≤ i ∧ i ≤ 1000) ∧ (∀ y ∈ acc, y = .bl true) ∧ acc.length + xs.length ≤ 2) ?_ ?_ (rngD 0 (max 1 (min ((ns.map D.int).length : Int) 2)).toNat) [] S ⟨fun x hx => ?_, fun y hy => (by cases hy), ?_⟩
  · rintro x l acc S' N1 N0 ⟨hx, ha, hlen⟩ g1 g0
    obtain ⟨i, rfl, i0, i1⟩ := hx x (List.mem_cons_self ..)
    refine ⟨trivial, lt_line (by simp at hlen; omega), ?_⟩
    refine tcl_of h2 (tcl_of h ⟨rfl, ns, i, rfl, i0, i1, by omega, fun a m hS po => ?_⟩)
    refine ⟨rfl, a, m, 0, rfl, ups_same, po.le (by omega), fun m' _ => g1 _ _ ⟨fun x hx' => hx x (List.mem_cons_of_mem _ hx'), fun y hy => ?_, by simp at hlen ⊢; omega⟩⟩
    rcases List.mem_append.mp hy with hy | hy
    · exact ha y hy
    · exact List.mem_singleton.mp hy
  · rintro acc S' ⟨_, ha, _⟩
    exact ⟨trivial, q_allT ha (VQ.same (q _))⟩
  · obtain ⟨i, rfl, h1, h2⟩ := rng_int _ _ x hx
    exact ⟨i, rfl, h1, by omega⟩
  · rw [rngD_len]; simp; omega
end
end PyD

set_option Elab.async false
set_option linter.all false
set_option maxRecDepth 100000
set_option maxHeartbeats 1000000
set_option exponentiation.threshold 10000
/-! CnU: readings: double ratios of lines, curve ratios. -/
namespace PyD
open PySem PySem.Spec PyProof.Rows L2
def plc (i : Nat) : D := if i = 0 then .ctu [.int 1, .int 2] else if i = 1 then .ctu [.int 2, .int 0] else .ctu [.int 0, .int 1]
def placesD : D := .ctu [.ctu [.int 1, .int 2], .ctu [.int 2, .int 0], .ctu [.int 0, .int 1]]
def t2 (p : P2) : D := ti (P2.l p)
theorem cut_to {xs : List D} {n : Nat} (h : n ≤ xs.length) : cutD xs none (some (n : Int)) = xs.take n := by
  unfold cutD
  rw [HT.sIx_none, HT.sIx_nat, Nat.min_eq_left h]; rfl
theorem enumD_mem : ∀ {ds : List D} {n : Nat} {x : D}, x ∈ enumD (n : Int) ds → ∃ (i : Nat) (d : D), ds[i]? = some d ∧ x = .tup [.int ((n + i : Nat) : Int), d]
  | [], _, _, h => by cases h
  | d :: r, n, x, h => by
    rw [enumD] at h
    rcases List.mem_cons.mp h with rfl | h
    · exact ⟨0, d, rfl, rfl⟩
    · have e : ((n : Int) + 1) = ((n + 1 : Nat) : Int) := by omega
      rw [e] at h
      obtain ⟨i, d', h1, rfl⟩ := enumD_mem h
      refine ⟨i + 1, d', by simpa using h1, ?_⟩
      have : n + 1 + i = n + (i + 1) := by omega
      rw [this]
def e_unlike : DSp := fun ds S Q => ∃ ps : List V3, ds = [tv ps] ∧ ps.length ≤ 100 ∧ ps.Nodup ∧ Q (.bl true) S
def e_place : DSp := fun ds S Q => ∃ u v : V3, ds = [t3 u, t3 v] ∧ u.B 100000 ∧ v.B 100000 ∧ cross u v ≠ o3 ∧ Q (plc (fl (cross u v))) S
def e_minor : DSp := fun ds S Q => ∃ (u v : V3) (i : Nat), ds = [t3 u, t3 v, plc i] ∧ (i = 0 ∨ i = 1 ∨ i = 2) ∧ u.B 100000 ∧ v.B 100000 ∧ Q (.int (cd i (cross u v))) S
def e_parts : DSp := fun ds S Q => ∃ a b c : V3, ds = [t3 a, t3 b, t3 c] ∧ a.B 100000 ∧ b.B 100000 ∧ c.B 100000 ∧ cross a b ≠ o3 ∧ Q (ti [cz a b c b, cz a b a c]) S
def e_ratio : DSp := fun ds S Q => ∃ a b c d : V3, ds = [t3 a, t3 b, t3 c, t3 d] ∧ a.B 1500 ∧ b.B 1500 ∧ c.B 1500 ∧ d.B 1500 ∧ cross a b ≠ o3 ∧ nz2 (cz a b d b * cz a b a c, cz a b a d * cz a b c b) ∧ Q (t2 (dr a b c d)) S
def e_line : DSp := fun ds S Q => ∃ (k : V6) (p q : V3), ds = [t6 k, t3 p, t3 q] ∧ k.B 1000 ∧ p.B 1000 ∧ q.B 1000 ∧ det (tb k) ≠ 0 ∧ PlainL p.l ∧ PlainL q.l ∧ Q (t3 (ln k p q)) S
structure Par (M : M3) (a b c : P2) : Prop where
  hM : det M ≠ 0
  na : nz2 a
  nb : nz2 b
  nc : nz2 c
  ab : br a b ≠ 0
  ac : br a c ≠ 0
  cb : br c b ≠ 0
theorem Par.fan {M : M3} {a b c : P2} (A : Par M a b c) {e : P2} (he : nz2 e) : Fan (nn M) e a b c (ln (tc M base) (pt M e) (pt M a)) (ln (tc M base) (pt M e) (pt M b)) (ln (tc M base) (pt M e) (pt M c)) :=
  ⟨det_nn A.hM, he, A.ab, A.ac, A.cb, ln_pr A.hM he A.na, ln_pr A.hM he A.nb, ln_pr A.hM he A.nc⟩
theorem Fan.hc {N : M3} {e a b c : P2} {la lb lc : V3} (F : Fan N e a b c la lb lc) : cross la lb ≠ o3 := by
  obtain ⟨w, hw, key⟩ := fan_cz F
  obtain ⟨k1, m1, hk1, hm1, h1⟩ := F.pa
  obtain ⟨k2, m2, hk2, hm2, h2⟩ := F.pb
  have e12 := key a b la lb _ _ _ _ h1 h2
  intro z
  unfold cz at e12
  rw [z] at e12
  have : cd (fl o3) o3 = 0 := rfl
  rw [this, Int.mul_zero] at e12
  exact Int.mul_ne_zero (Int.mul_ne_zero hm1 hm2) (Int.mul_ne_zero F.ab hw) e12.symm
theorem ln_B {k : V6} {p q : V3} {n : Nat} (hk : k.B n) (hp : p.B n) (hq : q.B n) : (ln k p q).B (2 * n + 10) := by
  unfold ln
  split
  · exact ((hk.tb.mv hp).p3).mono (by omega)
  · exact ((hp.cross hq).p3).mono (by omega)
def e_crb : DSp := fun ds S Q => ∃ (M : M3) (a b c d : P2), ds = [t6 (tc M base), tv [pt M a, pt M b, pt M c, pt M d]] ∧ Par M a b c ∧ nz2 d ∧ (tc M base).B 300 ∧ (pt M a).B 300 ∧ (pt M b).B 300 ∧ (pt M c).B 300 ∧ (pt M d).B 300 ∧ Q (t2 (cr a b c d)) S
def e_cratio : DSp := fun ds S Q => ∃ (M : M3) (a b c d : P2), ds = [t6 (tc M base), t3 (pt M a), t3 (pt M b), t3 (pt M c), t3 (pt M d)] ∧ Par M a b c ∧ nz2 d ∧ (tc M base).B 300 ∧ (pt M a).B 300 ∧ (pt M b).B 300 ∧ (pt M c).B 300 ∧ (pt M d).B 300 ∧ Q (t2 (cr a b c d)) S
def e_check_points : DSp := fun ds S Q => ∃ ps : List V3, ds = [tv ps] ∧ (∀ p ∈ ps, PlainL p.l) ∧ Q .non S
def e_check_three : DSp := fun ds S Q => ∃ (k : V6) (ps : List V3), ds = [t6 k, tv ps] ∧ k.B 10000 ∧ det (tb k) ≠ 0 ∧ emp k = false ∧ 3 ≤ ps.length ∧ ps.length ≤ 100 ∧ (∀ p ∈ ps, p.B 100000 ∧ qv k p = 0) ∧ (ps.take 3).Nodup ∧ Q .non S
theorem emp_tc {M : M3} {a : P2} (hM : det M ≠ 0) (ha : nz2 a) : emp (tc M base) = false := emp_of (pt_on hM ha) (pt_ne hM ha)
theorem Par.nodup {M : M3} {a b c : P2} (A : Par M a b c) : [pt M a, pt M b, pt M c].Nodup := by
  have h1 : pt M a ≠ pt M b := fun z => A.ab ((pt_eq A.hM A.na A.nb).mp z)
  have h2 : pt M a ≠ pt M c := fun z => A.ac ((pt_eq A.hM A.na A.nc).mp z)
  have h3 : pt M c ≠ pt M b := fun z => A.cb ((pt_eq A.hM A.nc A.nb).mp z)
  refine List.nodup_cons.mpr ⟨fun h => ?_, List.nodup_cons.mpr ⟨fun h => ?_, List.nodup_cons.mpr ⟨fun h => (by cases h), List.nodup_nil⟩⟩⟩
  · simp only [List.mem_cons, List.not_mem_nil, or_false] at h
    rcases h with h | h
    · exact h1 h
    · exact h2 h
  · simp only [List.mem_cons, List.not_mem_nil, or_false] at h
    exact h3 h.symm
section
variable {Γ : Gam}
def onIB (f : Int → Int → Bool) (d : D) : Bool := match d with
  | .tup [.int a, .int b] => f a b
  | _ => false
theorem fl_first {w : V3} (h : w ≠ o3) : (((enumD 0 [D.int w.x, .int w.y, .int w.z]).filter (onIB fun _ x => decide (x ≠ 0))).map (onP fun i _ => .int i))[0]? = some (.int (fl w : Int)) := by
  have e : enumD 0 [D.int w.x, .int w.y, .int w.z] = [.tup [.int 0, .int w.x], .tup [.int 1, .int w.y], .tup [.int 2, .int w.z]] := rfl
  rw [e]
  unfold fl
  by_cases h1 : w.x = 0
  · by_cases h2 : w.y = 0
    · have h3 : w.z ≠ 0 := fun h3 => h (V3.ext h1 h2 h3)
      simp [List.filter_cons, onIB, onP, h1, h2, h3]
    · simp [List.filter_cons, onIB, onP, h1, h2]
  · simp [List.filter_cons, onIB, onP, h1]
theorem cd_B {i n : Nat} {v : V3} (h : v.B n) : B n (cd i v) := by
  unfold cd
  split
  · exact h.1
  · split
    · exact h.2.1
    · exact h.2.2
theorem cz_B {a b u v : V3} {n : Nat} (hu : u.B n) (hv : v.B n) : B (n + n + 1) (cz a b u v) := cd_B (hu.cross hv)
end
end PyD

set_option Elab.async false
set_option linter.all false
set_option maxRecDepth 100000
set_option maxHeartbeats 1000000
set_option exponentiation.threshold 10000
/-! CnG: the same, levels deep; bounds of points by parameters. -/
namespace PyD
open PySem PySem.Spec PyProof.Rows L2
def tl : CS → CS
  | .seq _ r => r
  | c => c
def e_sT (e : DSp) : DSp := fun ds S Q => e_sameI ds S Q ∨ e_sameS e ds S Q
def e_s1 : DSp := e_sT e_sameI
def e_s2 : DSp := e_sT e_s1
theorem use_s1 {is : List Int} {S : Sto} {Q : QD} (hl : is.length ≤ 1000) (q : Q (.bl true) S) : e_s1 [ti is, ti is] S Q :=
  .inr ⟨is.map D.int, rfl, by simpa using hl, fun x hx Q' q' => by
    obtain ⟨i, _, rfl⟩ := List.mem_map.mp hx
    exact ⟨i, rfl, q'⟩, q⟩
theorem use_s2 {is : List Int} {S : Sto} {Q : QD} (hl : is.length ≤ 1000) (q : Q (.bl true) S) : e_s2 [ti is, ti is] S Q :=
  .inr ⟨is.map D.int, rfl, by simpa using hl, fun x hx Q' q' => by
    obtain ⟨i, _, rfl⟩ := List.mem_map.mp hx
    exact .inl ⟨i, rfl, q'⟩, q⟩
theorem use_s2s {l : List (List Int)} {S : Sto} {Q : QD} (hl : l.length ≤ 1000) (h : ∀ is ∈ l, is.length ≤ 1000) (q : Q (.bl true) S) : e_s2 [.tup (l.map ti), .tup (l.map ti)] S Q :=
  .inr ⟨l.map ti, rfl, by simpa using hl, fun x hx Q' q' => by
    obtain ⟨is, hi, rfl⟩ := List.mem_map.mp hx
    exact use_s1 (h is hi) q', q⟩
theorem use_v3s {l : List V3} {S : Sto} {Q : QD} (hl : l.length ≤ 1000) (q : Q (.bl true) S) : e_s2 [tv l, tv l] S Q := by
  have e : tv l = .tup ((l.map V3.l).map ti) := by unfold tv; rw [List.map_map]; rfl
  rw [e]
  refine use_s2s (by simpa using hl) (fun is hi => ?_) q
  obtain ⟨v, _, rfl⟩ := List.mem_map.mp hi
  show 3 ≤ 1000
  decide
theorem use_vw {V : M3} {S : Sto} {Q : QD} (q : Q (.bl true) S) : e_s2 [vw V, vw V] S Q := use_v3s (l := [V.a, V.b, V.c]) (by show 3 ≤ 1000; decide) q
structure Pc (M : M3) (x : P2) : Prop where
  nz : nz2 x
  b : (pt M x).B 30
  b1 : B 7 x.1
  b2 : B 7 x.2
theorem pt_B {M : M3} {x : P2} {m n : Nat} (hM : M.B m) (h1 : B n x.1) (h2 : B n x.2) : (pt M x).B (m + 2 * n + 2) := by
  have bp : (phi x.1 x.2).B (2 * n) := ⟨(h1.mul h1).mono (by omega), (h1.mul h2).mono (by omega), (h2.mul h2).mono (by omega)⟩
  exact (hM.mv bp).p3
theorem pc_of {M : M3} (bM : M.B 8) {x : P2} (h : 0 < x.2 ∧ x.2 ≤ 3 ∧ x.1.natAbs ≤ 100) : Pc M x := by
  have b1 : B 7 x.1 := B_le (N := 100) (by omega) (by decide)
  have b2 : B 7 x.2 := B_le (N := 100) (by omega) (by decide)
  exact ⟨.inr (by omega), (pt_B bM b1 b2).mono (by omega), b1, b2⟩
theorem br_B {x y : P2} {n m : Nat} (h1 : B n x.1) (h2 : B n x.2) (h3 : B m y.1) (h4 : B m y.2) : B (n + m + 1) (br x y) := (h1.mul h4).sub (h2.mul h3)
section
variable {Γ : Gam}
theorem r_sT {e : DSp} (h : Γ.f "_law_same" = some (2, e)) : ∀ ds S Q, ds.length = 2 → e_sT e ds S Q → evS Γ c__law_same (endsD Q) (startD n__law_same.length ds) S := by
  rintro ds S Q hl (q | q)
  · exact r_sameI ds S Q hl q
  · exact r_sameS h ds S Q hl q
end
end PyD

set_option Elab.async false
set_option linter.all false
set_option maxRecDepth 100000
set_option maxHeartbeats 1000000
set_option exponentiation.threshold 10000
/-! K78S: k78's own readings: pencils, the last common point. -/
namespace PyD
open PySem PySem.Spec PyProof.Rows L2
def e_wrong : DSp := fun ds S Q => ∃ ps : List V3, ds = [tv ps, .int 3, .int 3] ∧ ps.length = 3 ∧ (∀ p ∈ ps, PlainL p.l) ∧ ps.Nodup ∧ Q (.lst []) S
def e_check_figure : DSp := fun ds S Q => ∃ ps : List V3, ds = [tv ps, .int 3, .int 3] ∧ ps.length = 3 ∧ (∀ p ∈ ps, PlainL p.l) ∧ ps.Nodup ∧ Q .non S
def e_polar : DSp := fun ds S Q => ∃ (k : V6) (p : V3), ds = [t6 k, t3 p] ∧ k.B 3000 ∧ p.B 3000 ∧ PlainL k.l ∧ PlainL p.l ∧ det (tb k) ≠ 0 ∧ Q (t3 (p3 (mv (tb k) p))) S
def e_mixed : DSp := fun ds S Q => ∃ (k o : V6) (u v : Int), ds = [t6 k, t6 o, .int u, .int v] ∧ k.B 3000 ∧ o.B 3000 ∧ B 3000 u ∧ B 3000 v ∧ c6 u v k o ≠ o6 ∧ Q (t6 (p6 (c6 u v k o))) S
def e_pencil : DSp := fun ds S Q => ∃ (k o : V6) (p : V3), ds = [t6 k, t6 o, t3 p] ∧ k.B 900 ∧ o.B 900 ∧ p.B 900 ∧ c6 (qv o p) (-(qv k p)) k o ≠ o6 ∧ Q (t6 (pen k o p)) S
def e_beyond : DSp := fun ds S Q => ∃ a b : V3, ds = [t3 a, t3 b] ∧ a.B 3000 ∧ b.B 3000 ∧ ad a b ≠ o3 ∧ Q (t3 (p3 (ad a b))) S
def e_oline : DSp := fun ds S Q => ∃ (s : V6) (l : V3), ds = [t6 s, t3 l] ∧ s.B 3000 ∧ l.B 3000 ∧ olr s l ≠ o3 ∧ Q (t3 (p3 (olr s l))) S
def e_last : DSp := fun ds S Q => ∃ (k o : V6) (a b c d : V3), ds = [t6 k, t6 o, tv [a, b, c]] ∧ k.B 300 ∧ o.B 300 ∧ a.B 60 ∧ b.B 60 ∧ c.B 60 ∧ Com k o a b c d ∧ Q (t3 d) S
def e_two : DSp := fun ds S Q => ∃ k o : V6, ds = [t6 k, t6 o] ∧ PlainL k.l ∧ PlainL o.l ∧ k ≠ o ∧ Q .non S
def e_pcurve : DSp := fun ds S Q => ∃ (k o : V6) (p : V3), ds = [t6 k, t6 o, t3 p] ∧ k.B 900 ∧ o.B 900 ∧ p.B 900 ∧ PlainL k.l ∧ PlainL o.l ∧ PlainL p.l ∧ k ≠ o ∧ (qv k p ≠ 0 ∨ qv o p ≠ 0) ∧ Q (t6 (pen k o p)) S
def e_lfull : DSp := fun ds S Q => ∃ k : V6, ds = [t6 k] ∧ k.B 10000 ∧ Q (.bl (decide (det (tb k) ≠ 0))) S
def e_lines : DSp := fun ds S Q => ∃ l m : V3, ds = [t3 l, t3 m] ∧ l.B 10000 ∧ m.B 10000 ∧ Q (t6 (lns l m)) S
theorem c6_B {n m : Nat} {u v : Int} {k o : V6} (hk : k.B n) (ho : o.B n) (hu : B m u) (hv : B m v) : (c6 u v k o).B (m + n + 1) :=
  ⟨(hu.mul hk.a).add (hv.mul ho.a), (hu.mul hk.b).add (hv.mul ho.b), (hu.mul hk.c).add (hv.mul ho.c), (hu.mul hk.d).add (hv.mul ho.d), (hu.mul hk.e).add (hv.mul ho.e), (hu.mul hk.f).add (hv.mul ho.f)⟩
theorem pen_B {k o : V6} {p : V3} {n m : Nat} (hk : k.B n) (ho : o.B n) (hp : p.B m) : (pen k o p).B (n + (n + (m + m) + 5) + 1) := by
  have h1 : B (n + (m + m) + 5) (qv o p) := ho.qv hp
  have h2 : B (n + (m + m) + 5) (-(qv k p)) := (hk.qv hp).neg
  exact ((c6_B hk ho h1 h2).p6).mono (by omega)
theorem l6_iff {u v : V6} : u.l = v.l ↔ u = v := ⟨l6_inj, fun h => by rw [h]⟩
theorem p3_o3 : p3 o3 = o3 := by
  unfold p3 o3
  simp
theorem Com.olr_ne {k o : V6} {a b c d : V3} (C : Com k o a b c d) : olr (pen k o (p3 (ad a b))) (p3 (cross a b)) ≠ o3 := fun z => by
  have h := C.oln
  rw [oln_olr, z, p3_o3] at h
  exact p3_ne C.m_ne h.symm
theorem Com.nodup {k o : V6} {a b c d : V3} (C : Com k o a b c d) : [a, b, c].Nodup := by
  refine List.nodup_cons.mpr ⟨fun h => ?_, List.nodup_cons.mpr ⟨fun h => ?_, List.nodup_cons.mpr ⟨fun h => (by cases h), List.nodup_nil⟩⟩⟩
  · simp only [List.mem_cons, List.not_mem_nil, or_false] at h
    rcases h with h | h
    · exact C.ab h
    · exact C.ac h
  · simp only [List.mem_cons, List.not_mem_nil, or_false] at h
    exact C.bc h
theorem Com.each {k o : V6} {a b c d : V3} (C : Com k o a b c d) (ba : a.B 60) (bb : b.B 60) (bc : c.B 60) : ∀ p ∈ [a, b, c], PlainL p.l ∧ p.B 60 ∧ qv k p = 0 ∧ qv o p = 0 := fun p hp => by
  simp only [List.mem_cons, List.not_mem_nil, or_false] at hp
  rcases hp with rfl | rfl | rfl
  · exact ⟨C.pa, ba, C.ka, C.oa⟩
  · exact ⟨C.pb, bb, C.kb, C.ob⟩
  · exact ⟨C.pc, bc, C.kc, C.oc⟩
section
variable {Γ : Gam}
theorem r_wrong (h : Γ.f "is_tuple_up_to" = some (3, e_up_to)) (h2 : Γ.f "is_triple" = some (1, e_is_triple)) : ∀ ds S Q, ds.length = 3 → e_wrong ds S Q → evS Γ c_wrong_in_figure (endsD Q) (startD n_wrong_in_figure.length ds) S := by
  rintro ds S Q _ ⟨ps, rfl, hl, hp, nd, q⟩
  refine tcl_of h ⟨rfl, ps.map t3, 3, 3, rfl, by rw [List.length_map, hl]; decide, by rw [List.length_map, hl]; decide, if_f ?_⟩
  refine tcomp_filter (fun _ => false) id (by rfl) (enumD ((0 : Nat) : Int) (ps.map t3)) [] (by rw [enumD_len]; simp; omega) (fun x hx N1 N0 h1 h0 => ?_) ?_
  · obtain ⟨i, d, hi, rfl⟩ := enumD_mem hx
    rw [List.getElem?_map] at hi
    cases e : ps[i]? with
    | none => rw [e] at hi; cases hi
    | some p =>
      rw [e] at hi
      cases hi
      have hil : i < ps.length := (List.getElem?_eq_some_iff.mp e).1
      have ec : cutD (ps.map t3) none (some ((0 + i : Nat) : Int)) = (ps.take i).map t3 := by
        rw [Nat.zero_add, cut_to (by simp; omega), List.map_take]
      have em : (ps.take i).map t3 = ((ps.take i).map V3.l).map ti := by rw [List.map_map]; rfl
      have hn : decide (p.l ∈ (ps.take i).map V3.l) = false := decide_eq_false fun h => by
        obtain ⟨q, hq, e2⟩ := List.mem_map.mp h
        have := l_inj e2
        subst this
        obtain ⟨j, hj, ej⟩ := List.mem_iff_getElem.mp hq
        rw [List.getElem_take] at ej
        have hj2 : j < i := by rw [List.length_take] at hj; omega
        have ei : ps[i] = q := (List.getElem?_eq_some_iff.mp e).2
        have := (List.getElem_inj nd).mp (ej.trans ei.symm)
        omega
      have pm : p ∈ ps := by
        have := (List.getElem?_eq_some_iff.mp e).2
        rw [← this]; exact List.getElem_mem _
      have goal : ∀ Q' : QD, Q' (.bl false) S → dIn false (t3 p) (.tup (cutD (ps.map t3) none (some ((0 + i : Nat) : Int)))) S Q' := fun Q' q' => by
        rw [ec, em]
        refine q_in inD_ti ?_ (fun z h => by cases h)
        rw [hn]
        exact q'
      refine ⟨rfl, tcl_of h2 ⟨rfl, p, rfl, hp p pm, if_f ?_⟩⟩
      exact goal _ (h0 rfl)
  · have e : ∀ l : List D, (l.filter (fun _ => false)).map id = [] := fun l => by simp
    rw [List.nil_append, e]
    exact VQ.same q
theorem r_check_figure (h : Γ.f "wrong_in_figure" = some (3, e_wrong)) : ∀ ds S Q, ds.length = 3 → e_check_figure ds S Q → evS Γ c_check_figure (endsD Q) (startD n_check_figure.length ds) S := by
  rintro ds S Q _ ⟨ps, rfl, hl, hp, nd, q⟩
  exact tcl_of h ⟨rfl, ps, rfl, hl, hp, nd, sl_nil (by rfl) (VQ.same q)⟩
theorem r_check_full (h : Γ.f "is_full_by" = some (1, e_is_full)) : ∀ ds S Q, ds.length = 1 → e_check_full ds S Q → evS Γ c_check_full (endsD Q) (startD n_check_full.length ds) S := by
  rintro ds S Q _ ⟨k, rfl, bk, hd, q⟩
  exact tcl_of h ⟨rfl, k, rfl, bk, hd, if_f (VQ.same q)⟩
theorem r_polar (h1 : Γ.f "check_curve" = some (1, e_check_curve)) (h2 : Γ.f "check_point" = some (1, e_check3)) (h3 : Γ.f "check_full" = some (1, e_check_full)) (h4 : Γ.f "polar_by" = some (2, e_polar_by)) : ∀ ds S Q, ds.length = 2 → e_polar ds S Q → evS Γ c_polar (endsD Q) (startD n_polar.length ds) S := by
  rintro ds S Q _ ⟨k, p, rfl, bk, bp, pk, pp, hd, q⟩
  exact tcl_of h1 ⟨rfl, k, rfl, pk, tcl_of h2 ⟨rfl, p, rfl, pp, tcl_of h3 ⟨rfl, k, rfl, bk.mono (by omega), hd, tcl_of h4 ⟨rfl, k, p, rfl, bk, bp, mv_ne hd (pl3_ne pp), VQ.same q⟩⟩⟩⟩
theorem r_law_value (h : Γ.f "_law_dot" = some (2, e_dot)) : ∀ ds S Q, ds.length = 2 → e_value ds S Q → evS Γ c__law_value (endsD Q) (startD n__law_value.length ds) S := by
  rintro ds S Q _ ⟨k, p, rfl, hk, hp, q⟩
  obtain ⟨h1, h2, h3⟩ := id hp
  refine ⟨rfl, tcl_of h ⟨h1.mulW h1, h2.mulW h2, h3.mulW h3, h2.mulW h3, h1.mulW h3, h1.mulW h2, sz_of (show 6 ≤ 1000000 by decide), rfl, t6 k, ti [p.x * p.x, p.y * p.y, p.z * p.z, p.y * p.z, p.x * p.z, p.x * p.y], k.l, _, rfl, rfl, rfl, by show 6 ≤ 1000; decide, hk.l.mono (by omega), (pr_B hp).mono (by omega), ?_⟩⟩
  rw [qv_dot]
  exact VQ.same q
theorem r_mixed (h : Γ.f "plain_of" = some (1, e_plain)) : ∀ ds S Q, ds.length = 4 → e_mixed ds S Q → evS Γ c_mixed_curve (endsD Q) (startD n_mixed_curve.length ds) S := by
  rintro ds S Q _ ⟨k, o, u, v, rfl, bk, bo, bu, bv, hn, q⟩
  refine tcl_of h (tc_zip (is := k.l) (js := o.l) (fun x y => .int (u * x + v * y)) (by exact ⟨rfl, rfl⟩) (by show 6 ≤ 100000; decide) (fun x hx y hy N hN => ⟨rfl, bu.mulW (bk.l x hx), bv.mulW (bo.l y hy), hN⟩) ?_)
  exact ⟨rfl, _, (c6 u v k o).l, rfl, rfl, by show 6 ≤ 1000; decide, live6.mpr hn, (c6_B bk bo bu bv).l.mono (by omega), VQ.same q⟩
theorem r_pencil (h : Γ.f "mixed_curve" = some (4, e_mixed)) (h2 : Γ.f "value_by_curvepointwork" = some (2, e_value)) : ∀ ds S Q, ds.length = 3 → e_pencil ds S Q → evS Γ c_pencil_by (endsD Q) (startD n_pencil_by.length ds) S := by
  rintro ds S Q _ ⟨k, o, p, rfl, bk, bo, bp, hn, q⟩
  refine tcl_of h (tcl_of h2 ⟨rfl, o, p, rfl, bo.mono (by omega), bp.mono (by omega), tcl_of h2 ⟨rfl, k, p, rfl, bk.mono (by omega), bp.mono (by omega), ?_⟩⟩)
  exact ⟨rfl, k, o, qv o p, -(qv k p), rfl, bk.mono (by omega), bo.mono (by omega), (bo.qv bp).mono (by omega), ((bk.qv bp).neg).mono (by omega), hn, VQ.same q⟩
theorem r_beyond (h : Γ.f "plain_of" = some (1, e_plain)) : ∀ ds S Q, ds.length = 2 → e_beyond ds S Q → evS Γ c_beyond (endsD Q) (startD n_beyond.length ds) S := by
  rintro ds S Q _ ⟨a, b, rfl, ba, bb, hn, q⟩
  refine tcl_of h (tc_zip (is := a.l) (js := b.l) (fun x y => .int (x + y)) (by exact ⟨rfl, rfl⟩) (by show 3 ≤ 100000; decide) (fun x hx y hy N hN => ⟨rfl, hN⟩) ?_)
  exact ⟨rfl, _, (ad a b).l, rfl, rfl, by show 3 ≤ 1000; decide, live3.mpr hn, (ba.ad bb).l.mono (by omega), VQ.same q⟩
theorem ol_fin {s : V6} {l R : V3} {S : Sto} {Q : QD} (hn : olr s l ≠ o3) (hR : R = olr s l) (bR : R.B 6001) (q : Q (t3 (p3 (olr s l))) S) : e_plain [t3 R] S (VQ Q) := by
  subst hR
  exact ⟨_, (olr s l).l, rfl, rfl, by show 3 ≤ 1000; decide, live3.mpr hn, bR.l.mono (by omega), VQ.same q⟩
theorem ol_3 (h : Γ.f "plain_of" = some (1, e_plain)) {s : V6} {l : V3} {S : Sto} {Q : QD} (bs : s.B 3000) (bl : l.B 3000) (hx : l.x = 0) (hy : l.y = 0) (hn : olr s l ≠ o3) (q : Q (t3 (p3 (olr s l))) S) :
    evS Γ (tl (tl (tl (tl c_other_line)))) (endsD Q) [some (t6 s), some (t3 l), some (.int s.a), some (.int s.b), some (.int s.c), some (.int s.d), some (.int s.e), some (.int s.f), some (.int l.x), some (.int l.y), some (.int l.z)] S := by
  have s3 : Sz 3 := sz_of (show 3 ≤ 1000000 by decide)
  obtain ⟨b1, b2, b3⟩ := bl
  have f := ol_fin (R := ⟨s.e * l.z - l.x * s.c, s.d * l.z - l.y * s.c, s.c * l.z⟩) hn (by unfold olr; rw [if_neg (fun z => z hx), if_neg (fun z => z hy)]) ⟨((bs.e.mul b3).sub (b1.mul bs.c)), ((bs.d.mul b3).sub (b2.mul bs.c)), (bs.c.mul b3).mono (by omega)⟩ q
  exact tcl_of h ⟨bs.e.mulW b3, b1.mulW bs.c, bs.d.mulW b3, b2.mulW bs.c, bs.c.mulW b3, s3, rfl, f⟩
theorem ol_2 (h : Γ.f "plain_of" = some (1, e_plain)) {s : V6} {l : V3} {S : Sto} {Q : QD} (bs : s.B 3000) (bl : l.B 3000) (hx : l.x = 0) (hn : olr s l ≠ o3) (q : Q (t3 (p3 (olr s l))) S) :
    evS Γ (tl (tl (tl c_other_line))) (endsD Q) [some (t6 s), some (t3 l), some (.int s.a), some (.int s.b), some (.int s.c), some (.int s.d), some (.int s.e), some (.int s.f), some (.int l.x), some (.int l.y), some (.int l.z)] S := by
  have s3 : Sz 3 := sz_of (show 3 ≤ 1000000 by decide)
  have bl' := bl
  obtain ⟨b1, b2, b3⟩ := bl
  refine q_ne eqD_int ?_
  by_cases hy : l.y = 0
  · rw [decide_eq_true hy]
    exact ol_3 h bs bl' hx hy hn q
  · rw [decide_eq_false hy]
    have f := ol_fin (R := ⟨s.f * l.y - l.x * s.b, s.b * l.y, s.d * l.y - l.z * s.b⟩) hn (by unfold olr; rw [if_neg (fun z => z hx), if_pos hy]) ⟨((bs.f.mul b2).sub (b1.mul bs.b)), (bs.b.mul b2).mono (by omega), ((bs.d.mul b2).sub (b3.mul bs.b))⟩ q
    exact tcl_of h ⟨bs.f.mulW b2, b1.mulW bs.b, bs.b.mulW b2, bs.d.mulW b2, b3.mulW bs.b, s3, rfl, f⟩
theorem ol_1 (h : Γ.f "plain_of" = some (1, e_plain)) {s : V6} {l : V3} {S : Sto} {Q : QD} (bs : s.B 3000) (bl : l.B 3000) (hn : olr s l ≠ o3) (q : Q (t3 (p3 (olr s l))) S) :
    evS Γ (tl (tl c_other_line)) (endsD Q) [some (t6 s), some (t3 l), some (.int s.a), some (.int s.b), some (.int s.c), some (.int s.d), some (.int s.e), some (.int s.f), some (.int l.x), some (.int l.y), some (.int l.z)] S := by
  have s3 : Sz 3 := sz_of (show 3 ≤ 1000000 by decide)
  have bl' := bl
  obtain ⟨b1, b2, b3⟩ := bl
  refine q_ne eqD_int ?_
  by_cases hx : l.x = 0
  · rw [decide_eq_true hx]
    exact ol_2 h bs bl' hx hn q
  · rw [decide_eq_false hx]
    have f := ol_fin (R := ⟨s.a * l.x, s.f * l.x - l.y * s.a, s.e * l.x - l.z * s.a⟩) hn (by unfold olr; rw [if_pos hx]) ⟨(bs.a.mul b1).mono (by omega), ((bs.f.mul b1).sub (b2.mul bs.a)), ((bs.e.mul b1).sub (b3.mul bs.a))⟩ q
    exact tcl_of h ⟨bs.a.mulW b1, bs.f.mulW b1, b2.mulW bs.a, bs.e.mulW b1, b3.mulW bs.a, s3, rfl, f⟩
theorem r_oline (h : Γ.f "plain_of" = some (1, e_plain)) : ∀ ds S Q, ds.length = 2 → e_oline ds S Q → evS Γ c_other_line (endsD Q) (startD n_other_line.length ds) S := by
  rintro ds S Q _ ⟨s, l, rfl, bs, bl, hn, q⟩
  exact ⟨rfl, rfl, ol_1 h bs bl hn q⟩
theorem r_last (h1 : Γ.f "pencil_by" = some (3, e_pencil)) (h2 : Γ.f "beyond" = some (2, e_beyond)) (h3 : Γ.f "second_by" = some (3, e_second_by)) (h4 : Γ.f "other_line" = some (2, e_oline)) (h5 : Γ.f "plain_of" = some (1, e_plain)) (h6 : Γ.f "cross" = some (2, e_cross)) : ∀ ds S Q, ds.length = 3 → e_last ds S Q → evS Γ c_last_by (endsD Q) (startD n_last_by.length ds) S := by
  rintro ds S Q _ ⟨k, o, a, b, c, d, rfl, bk, bo, ba, bb, bc, C, q⟩
  have be : (p3 (ad a b)).B 61 := (ba.ad bb).p3
  have bl : (p3 (cross a b)).B 121 := (ba.cross bb).p3
  have bs : (pen k o (p3 (ad a b))).B 800 := (pen_B bk bo be).mono (by omega)
  refine ⟨rfl, tcl_of h1 (tcl_of h2 ⟨rfl, a, b, rfl, ba.mono (by omega), bb.mono (by omega), C.e_ne, ?_⟩)⟩
  refine ⟨rfl, k, o, p3 (ad a b), rfl, bk.mono (by omega), bo.mono (by omega), be.mono (by omega), C.sn, ?_⟩
  refine tcl_of h3 (tcl_of h4 (tcl_of h5 (tcl_of h6 ⟨rfl, a, b, rfl, ba.mono (by omega), bb.mono (by omega), ?_⟩)))
  refine ⟨rfl, _, (cross a b).l, rfl, rfl, by show 3 ≤ 1000; decide, live3.mpr C.l_ne, (ba.cross bb).l.mono (by omega), ?_⟩
  refine ⟨rfl, pen k o (p3 (ad a b)), p3 (cross a b), rfl, bs.mono (by omega), bl.mono (by omega), C.olr_ne, ?_⟩
  obtain ⟨t, e⟩ := C.last
  rw [← oln_olr]
  have bo' : (PyD.oln (pen k o (p3 (ad a b))) (p3 (cross a b))).B 1000 := by
    rw [oln_olr]
    refine V3.B.p3 ?_
    obtain ⟨c1, c2, c3⟩ := bl
    unfold olr
    split
    · exact ⟨(bs.a.mul c1).mono (by omega), ((bs.f.mul c1).sub (c2.mul bs.a)).mono (by omega), ((bs.e.mul c1).sub (c3.mul bs.a)).mono (by omega)⟩
    · split
      · exact ⟨((bs.f.mul c2).sub (c1.mul bs.b)).mono (by omega), (bs.b.mul c2).mono (by omega), ((bs.d.mul c2).sub (c3.mul bs.b)).mono (by omega)⟩
      · exact ⟨((bs.e.mul c3).sub (c1.mul bs.c)).mono (by omega), ((bs.d.mul c3).sub (c2.mul bs.c)).mono (by omega), (bs.c.mul c3).mono (by omega)⟩
  refine ⟨rfl, k, c, _, rfl, bk.mono (by omega), bc.mono (by omega), bo'.mono (by omega), t, C.pc, ?_⟩
  have e' : p3 (sec k c (PyD.oln (pen k o (p3 (ad a b))) (p3 (cross a b)))) = d := e
  rw [e']
  exact VQ.same q
theorem r_two (h : Γ.f "check_curve" = some (1, e_check_curve)) : ∀ ds S Q, ds.length = 2 → e_two ds S Q → evS Γ c_check_two_curves (endsD Q) (startD n_check_two_curves.length ds) S := by
  rintro ds S Q _ ⟨k, o, rfl, pk, po, hn, q⟩
  refine tcl_of h ⟨rfl, k, rfl, pk, tcl_of h ⟨rfl, o, rfl, po, q_eq (x := ti k.l) (y := ti o.l) eqD_ti ?_⟩⟩
  rw [decide_eq_false fun z => hn (l6_inj z)]
  exact VQ.same q
theorem r_pcurve (h : Γ.f "check_two_curves" = some (2, e_two)) (h2 : Γ.f "check_point" = some (1, e_check3)) (h3 : Γ.f "value_by_curvepointwork" = some (2, e_value)) (h4 : Γ.f "pencil_by" = some (3, e_pencil)) : ∀ ds S Q, ds.length = 3 → e_pcurve ds S Q → evS Γ c_pencil_curve (endsD Q) (startD n_pencil_curve.length ds) S := by
  rintro ds S Q _ ⟨k, o, p, rfl, bk, bo, bp, pk, po, pp, hn, hv, q⟩
  refine tcl_of h ⟨rfl, k, o, rfl, pk, po, hn, tcl_of h2 ⟨rfl, p, rfl, pp, ?_⟩⟩
  have last : tcl Γ "pencil_by" (evA Γ (.cons (.var 0) (.cons (.var 1) (.cons (.var 2) .nil)))) [some (t6 k), some (t6 o), some (t3 p)] S (VQ Q) := tcl_of h4 ⟨rfl, k, o, p, rfl, bk, bo, bp, pen_ne pk po hn hv, VQ.same q⟩
  refine tcl_of h3 ⟨rfl, k, p, rfl, bk.mono (by omega), bp.mono (by omega), q_eq eqD_int ?_⟩
  by_cases h0 : qv k p = 0
  · rw [decide_eq_true h0]
    refine tcl_of h3 ⟨rfl, o, p, rfl, bo.mono (by omega), bp.mono (by omega), q_eq eqD_int ?_⟩
    rw [decide_eq_false (hv.elim (fun z => absurd h0 z) id)]
    exact last
  · rw [decide_eq_false h0]
    exact last
theorem r_lcommon (h : Γ.f "check_two_curves" = some (2, e_two)) (h2 : Γ.f "check_figure" = some (3, e_check_figure)) (h3 : Γ.f "is_full_by" = some (1, e_is_full)) (h4 : Γ.f "are_on_by" = some (2, e_are_on)) (h5 : Γ.f "last_by" = some (3, e_last)) : ∀ ds S Q, ds.length = 3 → e_last ds S Q → evS Γ c_last_common (endsD Q) (startD n_last_common.length ds) S := by
  rintro ds S Q _ ⟨k, o, a, b, c, d, rfl, bk, bo, ba, bb, bc, C, q⟩
  have E := C.each ba bb bc
  refine tcl_of h ⟨rfl, k, o, rfl, C.pk, C.po, C.ne, ?_⟩
  refine tcl_of h2 ⟨rfl, [a, b, c], rfl, rfl, fun p hp => (E p hp).1, C.nodup, ?_⟩
  refine tcl_of h3 ⟨rfl, k, rfl, bk.mono (by omega), C.hk, if_f (tcl_of h3 ⟨rfl, o, rfl, bo.mono (by omega), C.ho, if_f ?_⟩)⟩
  refine tcl_of h4 ⟨rfl, k, [a, b, c], rfl, bk.mono (by omega), by show 3 ≤ 100; decide, fun p hp => ⟨(E p hp).2.1.mono (by omega), (E p hp).2.2.1⟩, if_f ?_⟩
  refine tcl_of h4 ⟨rfl, o, [a, b, c], rfl, bo.mono (by omega), by show 3 ≤ 100; decide, fun p hp => ⟨(E p hp).2.1.mono (by omega), (E p hp).2.2.2⟩, if_f ?_⟩
  exact tcl_of h5 ⟨rfl, k, o, a, b, c, d, rfl, bk, bo, ba, bb, bc, C, VQ.same q⟩
theorem r_lfull (h : Γ.f "_law_table" = some (1, e_table_by)) (h2 : Γ.f "_law_block" = some (3, e_block)) : ∀ ds S Q, ds.length = 1 → e_lfull ds S Q → evS Γ c__law_is_full (endsD Q) (startD n__law_is_full.length ds) S := by
  rintro ds S Q _ ⟨k, rfl, bk, q⟩
  have hT := bk.tb
  refine tcl_of h ⟨rfl, k, rfl, bk.mono (by omega), tcl_of h2 ⟨rfl, (tb k).a, (tb k).b, (tb k).c, rfl, hT.1.mono (by omega), hT.2.1.mono (by omega), hT.2.2.mono (by omega), q_ne eqD_int ?_⟩⟩
  have e : (!decide (blk (tb k).a (tb k).b (tb k).c = 0)) = decide (det (tb k) ≠ 0) := by
    show (!decide (det (tb k) = 0)) = decide (det (tb k) ≠ 0)
    by_cases z : det (tb k) = 0 <;> simp [z]
  rw [e]
  exact VQ.same q
theorem r_lines : ∀ ds S Q, ds.length = 2 → e_lines ds S Q → evS Γ c__law_lines (endsD Q) (startD n__law_lines.length ds) S := by
  rintro ds S Q _ ⟨l, m, rfl, ⟨a1, a2, a3⟩, ⟨b1, b2, b3⟩, q⟩
  exact ⟨rfl, rfl, a1.mulW b1, a2.mulW b2, a3.mulW b3, a2.mulW b3, a3.mulW b2, a1.mulW b3, a3.mulW b1, a1.mulW b2, a2.mulW b1, sz_of (show 6 ≤ 1000000 by decide), VQ.same q⟩
end
end PyD

set_option Elab.async false
set_option linter.all false
set_option maxRecDepth 100000
set_option maxHeartbeats 1000000
set_option exponentiation.threshold 10000
/-! K78T: dependence by minors. -/
namespace PyD
open PySem PySem.Spec PyProof.Rows L2
def ilD (is : List Int) : List D := is.map D.int
def tr3 (a b z : Int) : D := .tup [.int a, .int b, .int z]
def in3 (a b : Int) (zs : List Int) : List D := (zs.filter fun z => decide (a < b) && decide (b < z)).map (tr3 a b)
def in2 (a : Int) (bs zs : List Int) : List D := bs.flatMap fun b => in3 a b zs
def in1 (as bs zs : List Int) : List D := as.flatMap fun a => in2 a bs zs
section
variable {Γ : Gam}
theorem loop3 {rows places o2 o3' o7 : OD} {a b : Int} {p : Addr} {fin : List D → Sto → Prop} {chk : Sto → Prop} (hc : ∀ S, chk S) : ∀ (zs : List Int) (acc : List D) (S : Sto), S p = some (.ml acc) → acc.length + zs.length ≤ 1000000 →
    (∀ S', (∀ x, x ≠ p → S' x = S x) → S' p = some (.ml (acc ++ in3 a b zs)) → fin (acc ++ in3 a b zs) S') →
    dloop (evG Γ (.name 6)) (evB Γ (.bl (.chain .Lt .Lt (.var 4) (.var 5) (.var 6)))) chk [rows, places, o2, o3', some (.int a), some (.int b), none, o7] p (tclsD (evE Γ (.tup (.cons (.var 4) (.cons (.var 5) (.cons (.var 6) .nil))))) p []) fin (ilD zs) acc S
  | [], acc, S, hS, hl, h => by
    show dloop _ _ _ _ _ _ _ [] acc S
    rw [dloop_nil]
    refine ⟨hc S, ?_⟩
    have := h S (fun _ _ => rfl) (by simpa [in3] using hS)
    simpa [in3] using this
  | z :: zs, acc, S, hS, hl, h => by
    show dloop _ _ _ _ _ _ _ (.int z :: ilD zs) acc S
    rw [dloop_cons]
    refine ⟨hc S, ?_⟩
    have hl' : acc.length + (zs.length + 1) ≤ 1000000 := hl
    have skip : (decide (a < b) && decide (b < z)) = false → dloop (evG Γ (.name 6)) (evB Γ (.bl (.chain .Lt .Lt (.var 4) (.var 5) (.var 6)))) chk [rows, places, o2, o3', some (.int a), some (.int b), none, o7] p (tclsD (evE Γ (.tup (.cons (.var 4) (.cons (.var 5) (.cons (.var 6) .nil))))) p []) fin (ilD zs) acc S := fun e => by
      have e3 : in3 a b (z :: zs) = in3 a b zs := by unfold in3; rw [List.filter_cons, e]; rfl
      rw [e3] at h
      exact loop3 hc zs acc S hS (by omega) h
    refine ite_d (p := a < b) (fun h1 => ?_) fun h1 => ?_
    · refine ⟨hS, ite_d (p := b < z) (fun h2 => ?_) fun h2 => ?_⟩
      · have e3 : in3 a b (z :: zs) = tr3 a b z :: in3 a b zs := by unfold in3; rw [List.filter_cons, decide_eq_true h1, decide_eq_true h2]; rfl
        refine ⟨sz_of (show 3 ≤ 1000000 by decide), hS, lt_line (by omega), ?_⟩
        refine loop3 hc zs (acc ++ [tr3 a b z]) _ ups_same (by simp; omega) fun S' hs hp => ?_
        rw [e3] at h
        have e4 : acc ++ [tr3 a b z] ++ in3 a b zs = acc ++ tr3 a b z :: in3 a b zs := by simp
        rw [e4] at hp ⊢
        exact h S' (fun x hx => (hs x hx).trans (ups_ne hx)) hp
      · exact skip (by rw [decide_eq_false h2, Bool.and_false])
    · exact ⟨hS, skip (by rw [decide_eq_false h1, Bool.false_and])⟩
theorem in3_len {a b : Int} {zs : List Int} : (in3 a b zs).length ≤ zs.length := by
  unfold in3
  rw [List.length_map]
  exact List.length_filter_le _ _
abbrev cl3 (Γ : Gam) : DCl := ⟨evI Γ (.seq (.var 1)), [6], [6], evG Γ (.name 6), evB Γ (.bl (.chain .Lt .Lt (.var 4) (.var 5) (.var 6)))⟩
abbrev te3 (Γ : Gam) : TD := evE Γ (.tup (.cons (.var 4) (.cons (.var 5) (.cons (.var 6) .nil))))
theorem loop2 {rows o2 o3' o7 : OD} {a : Int} {zs : List Int} {p : Addr} {fin : List D → Sto → Prop} {chk : Sto → Prop} (hc : ∀ S, chk S) (hz : zs.length ≤ 100) : ∀ (bs : List Int) (acc : List D) (S : Sto), S p = some (.ml acc) → acc.length + 100 * bs.length ≤ 900000 →
    (∀ S', (∀ x, x ≠ p → S' x = S x) → S' p = some (.ml (acc ++ in2 a bs zs)) → fin (acc ++ in2 a bs zs) S') →
    dloop (evG Γ (.name 5)) (evB Γ .yes) chk [rows, some (.lst (ilD zs)), o2, o3', some (.int a), none, none, o7] p (tclsD (te3 Γ) p [cl3 Γ]) fin (ilD bs) acc S
  | [], acc, S, hS, hl, h => by
    show dloop _ _ _ _ _ _ _ [] acc S
    rw [dloop_nil]
    refine ⟨hc S, ?_⟩
    have := h S (fun _ _ => rfl) (by simpa [in2] using hS)
    simpa [in2] using this
  | b :: bs, acc, S, hS, hl, h => by
    show dloop _ _ _ _ _ _ _ (.int b :: ilD bs) acc S
    rw [dloop_cons]
    have hl' : acc.length + 100 * (bs.length + 1) ≤ 900000 := hl
    have h3 : (in3 a b zs).length ≤ 100 := Nat.le_trans in3_len hz
    refine ⟨hc S, hS, hS, ?_⟩
    refine loop3 (fun _ => by rfl) zs acc S hS (by omega) fun S' hs hp => ?_
    refine loop2 hc hz bs (acc ++ in3 a b zs) S' hp (by rw [List.length_append]; omega) fun S2 hs2 hp2 => ?_
    have e : in2 a (b :: bs) zs = in3 a b zs ++ in2 a bs zs := by unfold in2; rw [List.flatMap_cons]
    rw [e] at h
    rw [List.append_assoc] at hp2 ⊢
    exact h S2 (fun x hx => (hs2 x hx).trans (hs x hx)) hp2
theorem in2_len {a : Int} {zs : List Int} (hz : zs.length ≤ 100) : ∀ bs : List Int, (in2 a bs zs).length ≤ 100 * bs.length
  | [] => Nat.zero_le _
  | b :: bs => by
    unfold in2
    rw [List.flatMap_cons, List.length_append, List.length_cons]
    have h1 : (in3 a b zs).length ≤ 100 := Nat.le_trans in3_len hz
    have h2 := in2_len (a := a) hz bs
    unfold in2 at h2
    omega
abbrev cl2 (Γ : Gam) : DCl := ⟨evI Γ (.seq (.var 1)), [5, 6], [5], evG Γ (.name 5), evB Γ .yes⟩
theorem loop1 {rows o2 o3' o7 : OD} {zs : List Int} {Q : List D → Sto → Prop} {chk : Sto → Prop} (hc : ∀ S, chk S) (hz : zs.length ≤ 50) : ∀ (as : List Int) (acc : List D) (S : Sto), acc.length + 5000 * as.length ≤ 500000 → Q (acc ++ in1 as zs zs) S →
    tcompN (evG Γ (.name 4)) (evB Γ .yes) [cl2 Γ, cl3 Γ] (te3 Γ) chk [rows, some (.lst (ilD zs)), o2, o3', none, none, none, o7] Q (ilD as) acc S
  | [], acc, S, hl, q => by
    show tcompN _ _ _ _ _ _ _ [] acc S
    rw [tcompN_nil]
    exact ⟨hc S, by simpa [in1] using q⟩
  | a :: as, acc, S, hl, q => by
    show tcompN _ _ _ _ _ _ _ (.int a :: ilD as) acc S
    rw [tcompN_cons]
    have hl' : acc.length + 5000 * (as.length + 1) ≤ 500000 := hl
    have h2 : (in2 a zs zs).length ≤ 5000 := by have := in2_len (a := a) (zs := zs) (by omega) zs; omega
    refine ⟨hc S, fun p hp => ⟨ups_same, ?_⟩⟩
    refine loop2 (fun _ => by rfl) (by omega) zs acc (ups S p (.ml acc)) ups_same (by omega) fun S' hs hp' => ?_
    refine ⟨S, hp, fun x hx => ((hs x hx).trans (ups_ne hx)).symm, ?_⟩
    refine loop1 hc hz as (acc ++ in2 a zs zs) S (by rw [List.length_append]; omega) ?_
    have e : in1 (a :: as) zs zs = in2 a zs zs ++ in1 as zs zs := by unfold in1; rw [List.flatMap_cons]
    rw [e] at q
    rw [List.append_assoc]
    exact q
def e_crossL : DSp := fun ds S Q => ∃ a b : V3, ds = [li a.l, li b.l] ∧ a.B 100000 ∧ b.B 100000 ∧ Q (t3 (cross a b)) S
def e_minors : DSp := fun ds S Q => ∃ (k o t : V6) (i j l : Nat), ds = [.tup [t6 k, t6 o, t6 t], tr3 i j l] ∧ i < 6 ∧ j < 6 ∧ l < 6 ∧ k.B 10000 ∧ o.B 10000 ∧ t.B 10000 ∧ Q (.int (mn i j l k o t)) S
theorem at6_get {k : V6} {i : Nat} (h : i < 6) : (k.l.map D.int)[i]? = some (.int (at6 k i)) := by
  match i, h with
  | 0, _ => rfl
  | 1, _ => rfl
  | 2, _ => rfl
  | 3, _ => rfl
  | 4, _ => rfl
  | 5, _ => rfl
theorem at6_B {k : V6} {n : Nat} (h : k.B n) (i : Nat) : B n (at6 k i) := by
  match i with
  | 0 => exact h.a
  | 1 => exact h.b
  | 2 => exact h.c
  | 3 => exact h.d
  | 4 => exact h.e
  | m + 5 => exact h.f
theorem pk3_B {k : V6} {n : Nat} (h : k.B n) (i j l : Nat) : (pk3 k i j l).B n := ⟨at6_B h i, at6_B h j, at6_B h l⟩
theorem r_crossL : ∀ ds S Q, ds.length = 2 → e_crossL ds S Q → evS Γ c_cross (endsD Q) (startD n_cross.length ds) S := by
  rintro ds S Q _ ⟨a, b, rfl, ha, hb, q⟩
  obtain ⟨h1, h2, h3⟩ := ha
  obtain ⟨h4, h5, h6⟩ := hb
  exact ⟨h2.mulW h6, h3.mulW h5, h3.mulW h4, h1.mulW h6, h1.mulW h5, h2.mulW h4, sz_of (show 3 ≤ 1000000 by decide), VQ.same q⟩
theorem r_minors (h : Γ.f "cross" = some (2, e_crossL)) : ∀ ds S Q, ds.length = 2 → e_minors ds S Q → evS Γ c_minors_of (endsD Q) (startD n_minors_of.length ds) S := by
  rintro ds S Q _ ⟨k, o, t, i, j, l, rfl, hi, hj, hl, bk, bo, bt, q⟩
  have ix : ∀ (v : V6) (n : Nat) (_ : n < 6) (Q' : QD), Q' (.int (at6 v n)) S → dIdx (t6 v) (.int (n : Int)) S Q' := fun v n hn Q' q' => q_idxT (at6_get hn) q'
  refine tcomp_map (fun d => match d with | .tup [.int a, .int b, .int c, .int d, .int e, .int f] => li (pk3 ⟨a, b, c, d, e, f⟩ i j l).l | _ => .non) (by rfl) [t6 k, t6 o, t6 t] [] (by show 0 + 3 ≤ 1000000; decide) (fun x hx N hN => ?_) ?_
  · have : ∃ v : V6, x = t6 v := by
      simp only [List.mem_cons, List.not_mem_nil, or_false] at hx
      rcases hx with rfl | rfl | rfl <;> exact ⟨_, rfl⟩
    obtain ⟨v, rfl⟩ := this
    refine tcomp_map (fun d => match d with | .int n => .int (at6 v n.toNat) | _ => .non) (by rfl) [.int i, .int j, .int l] [] (by show 0 + 3 ≤ 1000000; decide) (fun x hx N' hN' => ?_) hN
    simp only [List.mem_cons, List.not_mem_nil, or_false] at hx
    rcases hx with rfl | rfl | rfl
    · exact ix v i hi _ hN'
    · exact ix v j hj _ hN'
    · exact ix v l hl _ hN'
  refine ⟨rfl, ?_⟩
  have bk' := pk3_B bk i j l
  have bo' := pk3_B bo i j l
  have bt' := pk3_B bt i j l
  refine tcl_of h ⟨rfl, pk3 o i j l, pk3 t i j l, rfl, bo'.mono (by omega), bt'.mono (by omega), ?_⟩
  refine tc_zip (is := (pk3 k i j l).l) (js := (cross (pk3 o i j l) (pk3 t i j l)).l) (fun a b => .int (a * b)) (by exact ⟨rfl, rfl⟩) (by show 3 ≤ 100000; decide) (fun a ha b hb N h => ⟨rfl, (bk'.l a ha).mulW ((bo'.cross bt').l b hb), h⟩) ?_
  have es : (((pk3 k i j l).l.zip (cross (pk3 o i j l) (pk3 t i j l)).l).map fun p => p.1 * p.2).sum = mn i j l k o t := dotL3
  have fin : dSum [.lst ((((pk3 k i j l).l.zip (cross (pk3 o i j l) (pk3 t i j l)).l).map fun p => p.1 * p.2).map D.int)] S (VQ Q) := by
    show (match intsD ((((pk3 k i j l).l.zip (cross (pk3 o i j l) (pk3 t i j l)).l).map fun p => p.1 * p.2).map D.int) with | some is => VQ Q (.int is.sum) S | none => False)
    rw [intsD_map]
    show VQ Q (.int _) S
    rw [es]
    exact VQ.same q
  exact fin
end
end PyD

set_option Elab.async false
set_option linter.all false
set_option maxRecDepth 100000
set_option maxHeartbeats 1000000
set_option exponentiation.threshold 10000
/-! K78H: dependent or not. -/
namespace PyD
open PySem PySem.Spec PyProof.Rows L2
def lotsN : List (Nat × Nat × Nat) := [(0, 1, 2), (0, 1, 3), (0, 1, 4), (0, 1, 5), (0, 2, 3), (0, 2, 4), (0, 2, 5), (0, 3, 4), (0, 3, 5), (0, 4, 5), (1, 2, 3), (1, 2, 4), (1, 2, 5), (1, 3, 4), (1, 3, 5), (1, 4, 5), (2, 3, 4), (2, 3, 5), (2, 4, 5), (3, 4, 5)]
def lotD (x : Nat × Nat × Nat) : D := tr3 x.1 x.2.1 x.2.2
theorem lots_eq : in1 [0, 1, 2, 3, 4, 5] [0, 1, 2, 3, 4, 5] [0, 1, 2, 3, 4, 5] = lotsN.map lotD := by rfl
theorem lots_lt : ∀ x ∈ lotsN, x.1 < 6 ∧ x.2.1 < 6 ∧ x.2.2 < 6 := by decide
def depB (k o t : V6) : Bool := lotsN.all fun x => decide (mn x.1 x.2.1 x.2.2 k o t = 0)
def e_dep : DSp := fun ds S Q => ∃ k o t : V6, ds = [.tup [t6 k, t6 o, t6 t]] ∧ k.B 10000 ∧ o.B 10000 ∧ t.B 10000 ∧ Q (.bl (depB k o t)) S
section
variable {Γ : Gam}
theorem dep_tail (h : Γ.f "minors_of" = some (2, e_minors)) {k o t : V6} {S : Sto} {Q : QD} {o1 o3' o4 o5 o6 o7 : OD} (bk : k.B 10000) (bo : o.B 10000) (bt : t.B 10000) {ls : List (Nat × Nat × Nat)} (hls : ∀ x ∈ ls, x.1 < 6 ∧ x.2.1 < 6 ∧ x.2.2 < 6) (hll : ls.length ≤ 100) (q : Q (.bl (ls.all fun x => decide (mn x.1 x.2.1 x.2.2 k o t = 0))) S) :
    evS Γ (tl (tl c_are_dependent)) (endsD Q) [some (.tup [t6 k, t6 o, t6 t]), o1, some (.lst (ls.map lotD)), o3', o4, o5, o6, o7] S := by
  refine tcomp_map (fun d => match d with | .tup [.int i, .int j, .int l] => .bl (decide (mn i.toNat j.toNat l.toNat k o t = 0)) | _ => .non) (by rfl) (ls.map lotD) [] (by rw [List.length_map]; show 0 + ls.length ≤ 1000000; omega) (fun x hx N hN => ?_) ?_
  · obtain ⟨y, hy, rfl⟩ := List.mem_map.mp hx
    obtain ⟨h1, h2, h3⟩ := hls y hy
    exact tcl_of h ⟨rfl, k, o, t, y.1, y.2.1, y.2.2, rfl, h1, h2, h3, bk, bo, bt, q_eq eqD_int (show N (.bl (decide (mn y.1 y.2.1 y.2.2 k o t = 0))) S from hN)⟩
  · rw [List.nil_append, List.map_map]
    have e : (ls.map ((fun d => match d with | .tup [.int i, .int j, .int l] => D.bl (decide (mn i.toNat j.toNat l.toNat k o t = 0)) | _ => .non) ∘ lotD)) = (ls.map fun x => decide (mn x.1 x.2.1 x.2.2 k o t = 0)).map D.bl := by rw [List.map_map]; exact List.map_congr_left fun x _ => rfl
    have fin : dAnyX (fun ks => ks.all id) [.lst ((ls.map fun x => decide (mn x.1 x.2.1 x.2.2 k o t = 0)).map D.bl)] S (VQ Q) := by
      refine q_all ?_
      have e2 : (ls.map fun x => decide (mn x.1 x.2.1 x.2.2 k o t = 0)).all id = ls.all fun x => decide (mn x.1 x.2.1 x.2.2 k o t = 0) := by rw [List.all_map]; rfl
      rw [e2]
      exact VQ.same q
    rw [e]
    exact fin
theorem r_dep (g : Γ.g "SIZE" = some (.int 6)) (h : Γ.f "minors_of" = some (2, e_minors)) : ∀ ds S Q, ds.length = 1 → e_dep ds S Q → evS Γ c_are_dependent (endsD Q) (startD n_are_dependent.length ds) S := by
  rintro ds S Q _ ⟨k, o, t, rfl, bk, bo, bt, q⟩
  have tail : ∀ ls : List (Nat × Nat × Nat), ls = lotsN → evS Γ (tl (tl c_are_dependent)) (endsD Q) [some (.tup [t6 k, t6 o, t6 t]), some (.lst (ilD [0, 1, 2, 3, 4, 5])), some (.lst (ls.map lotD)), none, none, none, none, none] S := fun ls e => dep_tail h bk bo bt (by rw [e]; exact lots_lt) (by rw [e]; decide) (by rw [e]; exact q)
  have l1 := loop1 (Γ := Γ) (rows := some (.tup [t6 k, t6 o, t6 t])) (o2 := none) (o3' := none) (o7 := none) (zs := [0, 1, 2, 3, 4, 5]) (Q := fun acc S2 => evS Γ (tl (tl c_are_dependent)) (endsD Q) [some (.tup [t6 k, t6 o, t6 t]), some (.lst (ilD [0, 1, 2, 3, 4, 5])), some (.lst acc), none, none, none, none, none] S2) (chk := fun S' => seqOf S' (.lst (ilD [0, 1, 2, 3, 4, 5])) = some (ilD [0, 1, 2, 3, 4, 5])) (fun _ => by rfl) (by decide) [0, 1, 2, 3, 4, 5] [] S (by decide) (by rw [List.nil_append, lots_eq]; exact tail _ rfl)
  exact tglo_of g ⟨6, rfl, by decide, by decide, l1⟩
theorem r_inp (h1 : Γ.f "check_two_curves" = some (2, e_two)) (h2 : Γ.f "check_curve" = some (1, e_check_curve)) (h3 : Γ.f "are_dependent" = some (1, e_dep)) {k o t : V6} {S : Sto} {Q : QD} (pk : PlainL k.l) (po : PlainL o.l) (pt' : PlainL t.l) (hn : k ≠ o) (bk : k.B 10000) (bo : o.B 10000) (bt : t.B 10000) (q : Q (.bl (depB k o t)) S) :
    evS Γ c_are_in_pencil (endsD Q) (startD n_are_in_pencil.length [t6 k, t6 o, t6 t]) S := by
  refine tcl_of h1 ⟨rfl, k, o, rfl, pk, po, hn, tcl_of h2 ⟨rfl, t, rfl, pt', ?_⟩⟩
  exact tcl_of h3 ⟨sz_of (show 3 ≤ 1000000 by decide), rfl, k, o, t, rfl, bk, bo, bt, VQ.same q⟩
end
end PyD

set_option Elab.async false
set_option linter.all false
set_option maxRecDepth 100000
set_option maxHeartbeats 1000000
set_option exponentiation.threshold 10000
/-! K78I: the law's own dependence. -/
namespace PyD
open PySem PySem.Spec PyProof.Rows L2
def Z3 (k o t : V6) (P : Nat × Nat × Nat → Prop) : Prop := ∀ x ∈ lotsN, P x → mn x.1 x.2.1 x.2.2 k o t = 0
theorem depB_t {k o t : V6} (h : Z3 k o t fun _ => True) : depB k o t = true := List.all_eq_true.mpr fun x hx => decide_eq_true (h x hx trivial)
theorem lots_in : ∀ i j l : Nat, i < j → j < l → l < 6 → (i, j, l) ∈ lotsN := by
  have h : ∀ l : Fin 6, ∀ j : Fin 6, ∀ i : Fin 6, i.val < j.val → j.val < l.val → (i.val, j.val, l.val) ∈ lotsN := by decide
  exact fun i j l h1 h2 h3 => h ⟨l, h3⟩ ⟨j, by omega⟩ ⟨i, by omega⟩ h1 h2
theorem depB_f {k o t : V6} {i j l : Nat} (h1 : i < j) (h2 : j < l) (h3 : l < 6) (h : mn i j l k o t ≠ 0) : depB k o t = false := by
  refine Bool.eq_false_iff.mpr fun z => h ?_
  exact of_decide_eq_true (List.all_eq_true.mp z (i, j, l) (lots_in i j l h1 h2 h3))
theorem lots_inc : ∀ x ∈ lotsN, x.1 < x.2.1 ∧ x.2.1 < x.2.2 ∧ x.2.2 < 6 := by decide
theorem sl_rng {g : GD} {tb : SSD} {chk : Sto → Prop} {E : EndsD} (Inv : Nat → SD → Sto → Prop) (n : Nat)
    (step : ∀ (i : Nat) σ S (N : SD → Sto → Prop), i < n → Inv i σ S → (∀ σ S, Inv (i + 1) σ S → N σ S) → chk S ∧ g (.int (i : Int)) σ S fun σ1 S1 => tb { E with nx := N, ct := N, bk := E.nx } σ1 S1)
    (done : ∀ σ S, Inv n σ S → chk S ∧ E.nx σ S) (σ : SD) (S : Sto) (h : Inv 0 σ S) : sloop g tb chk E (rngD 0 n) σ S := by
  refine sloop_inv (fun xs σ S => ∃ i : Nat, i + xs.length = n ∧ xs = rngD (i : Int) xs.length ∧ Inv i σ S) ?_ ?_ (rngD 0 n) σ S ⟨0, by rw [rngD_len]; omega, by rw [rngD_len]; rfl, h⟩
  · rintro x r σ S N ⟨i, hl, e, hi⟩ hN
    have e' : x :: r = .int (i : Int) :: rngD ((i : Int) + 1) r.length := e
    have e1 : x = .int (i : Int) := (List.cons.inj e').1
    have e2 : r = rngD ((i : Int) + 1) r.length := (List.cons.inj e').2
    have hl' : i + (r.length + 1) = n := hl
    subst e1
    exact step i σ S N (by omega) hi fun σ' S' h' => hN σ' S' ⟨i + 1, by omega, by rw [Int.natCast_succ]; exact e2, h'⟩
  · rintro σ S ⟨i, hl, _, hi⟩
    have hl' : i + 0 = n := hl
    have : i = n := by omega
    subst this
    exact done σ S hi
def fb : CS → CS
  | .seq (.forr _ _ b) _ => b
  | c => c
def e_lmixed : DSp := fun ds S Q => ∃ k o t : V6, ds = [t6 k, t6 o, t6 t] ∧ k.B 10000 ∧ o.B 10000 ∧ t.B 10000 ∧ Q (.bl (depB k o t)) S
section
variable {Γ : Gam}
theorem mx_1 (h : Γ.f "_law_block" = some (3, e_block)) {k o t : V6} {i j l : Nat} {o6 : OD} {S : Sto} {E : EndsD} (hi : i < 6) (hj : j < 6) (hl : l < 6) (bk : k.B 10000) (bo : o.B 10000) (bt : t.B 10000)
    (q1 : mn i j l k o t ≠ 0 → E.rt (.bl false) S) (q0 : mn i j l k o t = 0 → ∀ o6, E.nx [some (t6 k), some (t6 o), some (t6 t), some (.int i), some (.int j), some (.int l), o6, none, none] S) :
    evS Γ (fb (fb (fb c__law_is_mixed))) E [some (t6 k), some (t6 o), some (t6 t), some (.int i), some (.int j), some (.int l), o6, none, none] S := by
  have ix : ∀ (v : V6) (n : Nat) (_ : n < 6) (Q' : QD), Q' (.int (at6 v n)) S → dIdx (t6 v) (.int (n : Int)) S Q' := fun v n hn Q' q' => q_idxT (at6_get hn) q'
  refine ⟨sz_of (show 3 ≤ 1000000 by decide), ?_⟩
  refine tcomp_map (fun d => match d with | .tup [.int a, .int b, .int c, .int d, .int e, .int f] => t3 (pk3 ⟨a, b, c, d, e, f⟩ i j l) | _ => .non) (by rfl) [t6 k, t6 o, t6 t] [] (by show 0 + 3 ≤ 1000000; decide) (fun x hx N hN => ?_) ?_
  · have : ∃ v : V6, x = t6 v := by
      simp only [List.mem_cons, List.not_mem_nil, or_false] at hx
      rcases hx with rfl | rfl | rfl <;> exact ⟨_, rfl⟩
    obtain ⟨v, rfl⟩ := this
    have goal : dIdx (t6 v) (.int (i : Int)) S fun y1 S1 => dIdx (t6 v) (.int (j : Int)) S1 fun y2 S2 => dIdx (t6 v) (.int (l : Int)) S2 fun y3 S3 => Sz 3 ∧ N (.tup [y1, y2, y3]) S3 :=
      ix v i hi _ (ix v j hj (fun y2 S2 => dIdx (t6 v) (.int (l : Int)) S2 fun y3 S3 => Sz 3 ∧ N (.tup [.int (at6 v i), y2, y3]) S3) (ix v l hl (fun y3 S3 => Sz 3 ∧ N (.tup [.int (at6 v i), .int (at6 v j), y3]) S3) ⟨sz_of (show 3 ≤ 1000000 by decide), hN⟩))
    exact goal
  · refine tcl_of h ⟨rfl, pk3 k i j l, pk3 o i j l, pk3 t i j l, rfl, (pk3_B bk i j l).mono (by omega), (pk3_B bo i j l).mono (by omega), (pk3_B bt i j l).mono (by omega), q_ne eqD_int ?_⟩
    by_cases e : mn i j l k o t = 0
    · rw [decide_eq_true (show blk (pk3 k i j l) (pk3 o i j l) (pk3 t i j l) = 0 from e)]
      exact if_f (q0 e _)
    · rw [decide_eq_false (show ¬ blk (pk3 k i j l) (pk3 o i j l) (pk3 t i j l) = 0 from e)]
      exact if_t (q1 e)
theorem r_mixed3 (h : Γ.f "_law_block" = some (3, e_block)) : ∀ ds S Q, ds.length = 3 → e_lmixed ds S Q → evS Γ c__law_is_mixed (endsD Q) (startD n__law_is_mixed.length ds) S := by
  rintro ds S Q _ ⟨k, o, t, rfl, bk, bo, bt, q⟩
  have qf : ∀ i j l : Nat, l < j → j < i → i < 6 → mn i j l k o t ≠ 0 → VQ Q (.bl false) S := fun i j l h1 h2 h3 hn => by
    have hn2 : mn l j i k o t ≠ 0 := by rw [mn_rev]; omega
    rw [depB_f h1 h2 h3 hn2] at q
    exact VQ.same q
  refine ⟨crng (by decide) (by decide), ?_⟩
  refine sl_rng (fun i σ S' => S' = S ∧ (∀ i' < i, ∀ j' < i', ∀ l' < j', mn i' j' l' k o t = 0) ∧ ∃ o3 o4 o5 o6 : OD, σ = [some (t6 k), some (t6 o), some (t6 t), o3, o4, o5, o6, none, none]) 6 ?_ ?_ _ _ ⟨rfl, fun i' h => by omega, none, none, none, none, rfl⟩
  · rintro i σ S' N hi ⟨rfl, hz, o3, o4, o5, o6, rfl⟩ hN
    refine ⟨trivial, crng (by omega) (by omega), ?_⟩
    refine sl_rng (fun j σ S2 => S2 = S' ∧ (∀ j' < j, ∀ l' < j', mn i j' l' k o t = 0) ∧ ∃ o4 o5 o6 : OD, σ = [some (t6 k), some (t6 o), some (t6 t), some (.int i), o4, o5, o6, none, none]) i ?_ ?_ _ _ ⟨rfl, fun j' h => by omega, _, _, _, rfl⟩
    · rintro j σ S2 N2 hj ⟨rfl, hz2, o4, o5, o6, rfl⟩ hN2
      refine ⟨trivial, crng (by omega) (by omega), ?_⟩
      refine sl_rng (fun l σ S3 => S3 = S2 ∧ (∀ l' < l, mn i j l' k o t = 0) ∧ ∃ o5 o6 : OD, σ = [some (t6 k), some (t6 o), some (t6 t), some (.int i), some (.int j), o5, o6, none, none]) j ?_ ?_ _ _ ⟨rfl, fun l' h => by omega, _, _, rfl⟩
      · rintro l σ S3 N3 hl ⟨rfl, hz3, o5, o6, rfl⟩ hN3
        refine ⟨trivial, mx_1 (E := { nx := N3, rt := _, bk := _, ct := N3 }) h hi (by omega) (by omega) bk bo bt (fun e => qf i j l hl hj hi e) fun e o6 => hN3 _ _ ⟨rfl, fun l' hl' => ?_, _, _, rfl⟩⟩
        by_cases e2 : l' = l
        · rw [e2]; exact e
        · exact hz3 l' (by omega)
      · rintro σ S3 ⟨rfl, hz3, o5, o6, rfl⟩
        refine ⟨trivial, hN2 _ _ ⟨rfl, fun j' hj' => ?_, _, _, _, rfl⟩⟩
        by_cases e2 : j' = j
        · rw [e2]; exact hz3
        · exact hz2 j' (by omega)
    · rintro σ S2 ⟨rfl, hz2, o4, o5, o6, rfl⟩
      refine ⟨trivial, hN _ _ ⟨rfl, fun i' hi' => ?_, _, _, _, _, rfl⟩⟩
      by_cases e2 : i' = i
      · rw [e2]; exact hz2
      · exact hz i' (by omega)
  · rintro σ S' ⟨rfl, hz, o3, o4, o5, o6, rfl⟩
    refine ⟨trivial, VQ.same ?_⟩
    have : depB k o t = true := depB_t fun x hx _ => by
      obtain ⟨h1, h2, h3⟩ := lots_inc x hx
      have := hz x.2.2 h3 x.2.1 h2 x.1 h1
      rw [mn_rev] at this
      omega
    rw [this] at q
    exact q
end
end PyD

set_option Elab.async false
set_option linter.all false
set_option maxRecDepth 100000
set_option maxHeartbeats 1000000
set_option exponentiation.threshold 10000
/-! K78J: k78's draws: a curve of any kind, a pair of curves. -/
namespace PyD
open PySem PySem.Spec PyProof.Rows L2
theorem rc_ne {V : M3} {k : V6} (hV : det V ≠ 0) (hk : k ≠ o6) : rc (adj V) k ≠ o6 := fun z => hk (v6_ext fun x => by
  have h : qv (rc (adj V) k) (mv V x) = det V * det V * qv k x := by rw [qv_rc, adj_mv, qv_sm]
  rw [z] at h
  have z0 : ∀ y, qv o6 y = 0 := fun y => by simp [qv, o6]
  rw [z0] at h
  have : qv k x = 0 := (Int.mul_eq_zero.mp h.symm).resolve_left (Int.mul_ne_zero hV hV)
  rw [this, z0])
theorem q_any6 {S : Sto} {Q : QD} {v : V6} (q : Q (.bl (decide (live v.l ≠ 0))) S) : dAnyX (fun ks => ks.any id) [t6 v] S Q := by
  unfold dAnyX
  show Q (.bl ([v.a != 0, v.b != 0, v.c != 0, v.d != 0, v.e != 0, v.f != 0].any id)) S
  have e : ([v.a != 0, v.b != 0, v.c != 0, v.d != 0, v.e != 0, v.f != 0].any id) = decide (live v.l ≠ 0) := by
    unfold V6.l
    simp only [live_cons]
    by_cases h1 : v.a = 0 <;> by_cases h2 : v.b = 0 <;> by_cases h3 : v.c = 0 <;> by_cases h4 : v.d = 0 <;> by_cases h5 : v.e = 0 <;> by_cases h6 : v.f = 0 <;> simp [h1, h2, h3, h4, h5, h6, live]
  rw [e]; exact q
def e_lcurve : DSp := fun ds S Q => ∃ (a : Addr) (m : Pool) (r : Nat) (w : Int), ds = [.ref a, .int w] ∧ S a = some (pm m) ∧ PO (r + 210) m ∧ 1 ≤ w ∧ w ≤ 100 ∧ ∀ (k : V6) m', PlainL k.l → k.B 60 → PO r m' → Q (t6 k) (ups S a (pm m'))
structure Pq (k o : V6) (a b c d : V3) : Prop where
  pk : PlainL k.l
  po : PlainL o.l
  bk : k.B 60
  bo : o.B 160
  ba : a.B 30
  bb : b.B 30
  bc : c.B 30
  bd : d.B 30
  hk : det (tb k) ≠ 0
  ho : det (tb o) ≠ 0
  pd : PlainL d.l
  com : k ≠ o → Com k o a b c d
def e_pair : DSp := fun ds S Q => ∃ (p : Addr) (m : Pool) (r : Nat) (w : Int), ds = [.ref p, .int w] ∧ S p = some (pm m) ∧ PO (r + 210) m ∧ (∀ k m' ps d, PO r m' → Q (.tup [t6 k, .non, ps, d]) (ups S p (pm m'))) ∧ ∀ (k o : V6) (a b c d : V3) m', Pq k o a b c d → PO r m' → Q (.tup [t6 k, t6 o, tv [a, b, c], t3 d]) (ups S p (pm m'))
theorem B1 : B 1 1 := by unfold B; decide
section
variable {Γ : Gam}
theorem r_lcurve (hd : Γ.f "_law_below" = some (2, e_draw)) (hr : Γ.f "_law_round" = some (3, e_round)) (hv : Γ.f "_law_view" = some (2, e_view)) (ho : Γ.f "_law_one" = some (2, e_oneT)) (ht : Γ.f "_law_turned_curve" = some (2, e_turned)) (hp : Γ.f "_law_plain" = some (1, e_plain)) : ∀ ds S Q, ds.length = 2 → e_lcurve ds S Q → evS Γ c__law_curve (endsD Q) (startD n__law_curve.length ds) S := by
  rintro ds S Q _ ⟨a, m, r, w, rfl, hS, po, hw, hw2, q⟩
  have s6 : Sz 6 := sz_of (show 6 ≤ 1000000 by decide)
  have bw : B 8 w := B_le (N := 100) (by omega) (by decide)
  have mw : CMulW 2 w := BI2.mulW bw
  refine tcl_of hd ⟨rfl, a, m, r + 209, 4, rfl, hS, po, by decide, by decide, fun v m1 v0 v1 po1 => ?_⟩
  refine q_eq eqD_int (ite_d (p := v = 0) (fun _ => ?_) fun _ => ?_)
  · refine tcl_of hr ⟨rfl, a, m1, r + 9, 3, w, rfl, ups_same, po1, by decide, by decide, hw, hw2, fun M L m2 ok bM hL hb nd po2 => ?_⟩
    rw [ups_ups]
    exact VQ.same (q (tc M base) m2 (plain_tc ok.d base_full) ((tc_B bM base_B).mono (by omega)) (po2.le (by omega)))
  refine q_eq eqD_int (ite_d (p := v = 1) (fun _ => ?_) fun _ => ?_)
  · refine tcl_of ht (tcl_of hv ⟨rfl, a, m1, r + 155, w, rfl, ups_same, po1, hw, hw2, fun V m2 ok bV po2 => ?_⟩)
    refine tcl_of ho ⟨s6, s6, s6, s6, s6, s6, s6, rfl, a, m2, r + 154, _, rfl, ups_same, po2, by decide, by decide, fun d m3 hd po3 => ?_⟩
    have : ∃ k : V6, d = t6 k ∧ k ≠ o6 ∧ k.B 3 := by
      simp only [List.mem_cons, List.not_mem_nil, or_false] at hd
      rcases hd with rfl | rfl | rfl | rfl | rfl | rfl
      · exact ⟨⟨1, 1, 1, 0, 0, 0⟩, rfl, live6.mp (by decide), by constructor <;> (unfold B; decide)⟩
      · exact ⟨⟨1, 1, -1, 0, 0, 0⟩, rfl, live6.mp (by decide), by constructor <;> (unfold B; decide)⟩
      · exact ⟨⟨0, 0, 0, 0, 0, 1⟩, rfl, live6.mp (by decide), by constructor <;> (unfold B; decide)⟩
      · exact ⟨⟨1, 0, 0, 0, 0, 0⟩, rfl, live6.mp (by decide), by constructor <;> (unfold B; decide)⟩
      · exact ⟨⟨1, 1, 0, 0, 0, 0⟩, rfl, live6.mp (by decide), by constructor <;> (unfold B; decide)⟩
      · exact ⟨⟨1, 2, 3, 0, 0, 0⟩, rfl, live6.mp (by decide), by constructor <;> (unfold B; decide)⟩
    obtain ⟨k, rfl, hk, bk⟩ := this
    have hn := rc_ne ok.d hk
    rw [ups_ups, ups_ups]
    exact ⟨rfl, V, k, rfl, bV.mono (by omega), bk.mono (by omega), hn, VQ.same (q (tc V k) m3 (p6_plain hn) ((tc_B bV bk).mono (by omega)) (po3.le (by omega)))⟩
  · refine ⟨crng (by decide) (by decide), ?_⟩
    refine tc_cons trivial (tcl_of hd ⟨mw, rfl, a, m1, r + 208, _, rfl, ups_same, po1, by omega, by omega, fun x1 m2 a1 b1 po2 => ⟨lt_line (Nat.zero_le _), ?_⟩⟩)
    refine tc_cons trivial (tcl_of hd ⟨mw, rfl, a, m2, r + 207, _, rfl, ups_same, po2, by omega, by omega, fun x2 m3 a2 b2 po3 => ⟨lt_line (show 1 ≤ 1000000 by decide), ?_⟩⟩)
    refine tc_cons trivial (tcl_of hd ⟨mw, rfl, a, m3, r + 206, _, rfl, ups_same, po3, by omega, by omega, fun x3 m4 a3 b3 po4 => ⟨lt_line (show 2 ≤ 1000000 by decide), ?_⟩⟩)
    refine tc_cons trivial (tcl_of hd ⟨mw, rfl, a, m4, r + 205, _, rfl, ups_same, po4, by omega, by omega, fun x4 m5 a4 b4 po5 => ⟨lt_line (show 3 ≤ 1000000 by decide), ?_⟩⟩)
    refine tc_cons trivial (tcl_of hd ⟨mw, rfl, a, m5, r + 204, _, rfl, ups_same, po5, by omega, by omega, fun x5 m6 a5 b5 po6 => ⟨lt_line (show 4 ≤ 1000000 by decide), ?_⟩⟩)
    refine tc_cons trivial (tcl_of hd ⟨mw, rfl, a, m6, r + 203, _, rfl, ups_same, po6, by omega, by omega, fun x6 m7 a6 b6 po7 => ⟨lt_line (show 5 ≤ 1000000 by decide), ?_⟩⟩)
    simp only [ups_ups]
    refine tc_nil trivial ?_
    have bb : ∀ x : Int, 0 ≤ x → x < 2 * w + 1 → B 8 (x - w) := fun x h0 h1 => B_le (N := 200) (by omega) (by decide)
    have bv : (⟨x1 - w, x2 - w, x3 - w, x4 - w, x5 - w, x6 - w⟩ : V6).B 8 := ⟨bb _ a1 b1, bb _ a2 b2, bb _ a3 b3, bb _ a4 b4, bb _ a5 b5, bb _ a6 b6⟩
    refine q_any6 (v := ⟨x1 - w, x2 - w, x3 - w, x4 - w, x5 - w, x6 - w⟩) ?_
    refine ite_d (p := live (⟨x1 - w, x2 - w, x3 - w, x4 - w, x5 - w, x6 - w⟩ : V6).l ≠ 0) (fun hn => ?_) fun hn => ?_
    · exact tcl_of hp ⟨rfl, _, (⟨x1 - w, x2 - w, x3 - w, x4 - w, x5 - w, x6 - w⟩ : V6).l, rfl, rfl, by show 6 ≤ 1000; decide, hn, bv.l.mono (by omega), VQ.same (q (p6 ⟨x1 - w, x2 - w, x3 - w, x4 - w, x5 - w, x6 - w⟩) m7 (p6_plain (live6.mp hn)) (bv.p6.mono (by omega)) (po7.le (by omega)))⟩
    · exact ⟨s6, VQ.same (q ⟨1, 0, 0, 0, 0, 0⟩ m7 ⟨rfl, by decide⟩ (by constructor <;> (unfold B; decide)) (po7.le (by omega)))⟩
theorem lns_B {l m : V3} {i j : Nat} (hl : l.B i) (hm : m.B j) : (lns l m).B (i + j + 1) := by
  obtain ⟨a1, a2, a3⟩ := hl
  obtain ⟨b1, b2, b3⟩ := hm
  exact ⟨(a1.mul b1).mono (by omega), (a2.mul b2).mono (by omega), (a3.mul b3).mono (by omega), (a2.mul b3).add (a3.mul b2), (a1.mul b3).add (a3.mul b1), (a1.mul b2).add (a2.mul b1)⟩
def pr_b : CS := match tl (tl (tl c__law_pair)) with
  | .seq (.forr _ _ b) _ => b
  | c => c
theorem pr_i (hf : Γ.f "_law_is_full" = some (1, e_lfull)) (hp : Γ.f "_law_plain" = some (1, e_plain)) {p : Addr} {w : Int} {k sec : V6} {a b c d : V3} {o3' o8 o9 o10 : OD} {E : EndsD} {S : Sto} (bs : sec.B 1000)
    (q1 : det (tb sec) ≠ 0 → E.rt (.tup [t6 k, t6 (p6 sec), tv [a, b, c], t3 d]) S) (q0 : E.nx [some (.ref p), some (.int w), some (t6 k), o3', some (t3 a), some (t3 b), some (t3 c), some (t3 d), o8, o9, o10, some (t6 sec), none, none, none] S) :
    evS Γ (tl (tl pr_b)) E [some (.ref p), some (.int w), some (t6 k), o3', some (t3 a), some (t3 b), some (t3 c), some (t3 d), o8, o9, o10, some (t6 sec), none, none, none] S := by
  refine q_any6 (v := sec) (ite_d (p := live sec.l ≠ 0) (fun hl => ?_) fun hl => if_f q0)
  refine tcl_of hf ⟨rfl, sec, rfl, bs.mono (by omega), ite_d (p := det (tb sec) ≠ 0) (fun hd => ?_) fun _ => q0⟩
  exact tcl_of hp ⟨rfl, _, sec.l, rfl, rfl, by show 6 ≤ 1000; decide, hl, bs.l.mono (by omega), sz_of (show 3 ≤ 1000000 by decide), sz_of (show 4 ≤ 1000000 by decide), q1 hd⟩
theorem pr_t (ho : Γ.f "_law_one" = some (2, e_oneT)) (hf : Γ.f "_law_is_full" = some (1, e_lfull)) (hp : Γ.f "_law_plain" = some (1, e_plain)) {p : Addr} {w : Int} {k mate : V6} {a b c d : V3} {o3' o9 o10 o11 : OD} {m : Pool} {r : Nat} {S : Sto} {Q : QD} (hS : S p = some (pm m)) (po : PO (r + 8) m) (bk : k.B 155) (bm : mate.B 155)
    (q0 : ∀ m', PO r m' → Q (.tup [t6 k, .non, tv [a, b, c], t3 d]) (ups S p (pm m')))
    (q1 : ∀ u m', B 4 u → det (tb (c6 1 u k mate)) ≠ 0 → PO r m' → Q (.tup [t6 k, t6 (p6 (c6 1 u k mate)), tv [a, b, c], t3 d]) (ups S p (pm m'))) :
    evS Γ (tl (tl (tl c__law_pair))) (endsD Q) [some (.ref p), some (.int w), some (t6 k), o3', some (t3 a), some (t3 b), some (t3 c), some (t3 d), some (t6 mate), o9, o10, o11, none, none, none] S := by
  refine ⟨crng (by decide) (by decide), crng (by decide) (by decide), ?_⟩
  refine sloop_inv (fun xs σ S' => (∀ x ∈ xs, ∃ i : Int, x = .int i ∧ 1 ≤ i ∧ i < 9) ∧ ∃ (m' : Pool) (o9 o10 o11 : OD), S' = ups S p (pm m') ∧ PO (r + xs.length) m' ∧ σ = [some (.ref p), some (.int w), some (t6 k), o3', some (t3 a), some (t3 b), some (t3 c), some (t3 d), some (t6 mate), o9, o10, o11, none, none, none]) ?_ ?_ (rngD 1 8) _ _
    ⟨fun x hx => ?_, m, o9, o10, o11, (ups_self hS).symm, po.le (by rw [rngD_len]; omega), rfl⟩
  · rintro x xs σ S' N ⟨hx, m', o9, o10, o11, rfl, po', rfl⟩ hN
    obtain ⟨i, rfl, i0, i1⟩ := hx x (List.mem_cons_self ..)
    refine ⟨trivial, tcl_of ho ⟨sz_of (show 4 ≤ 1000000 by decide), rfl, p, m', r + xs.length, _, rfl, ups_same, po'.le (by simp only [List.length_cons]; omega), by decide, by decide, fun d' m2 hd po2 => ?_⟩⟩
    have : ∃ v : Int, d' = .int v ∧ v.natAbs ≤ 3 := by
      simp only [List.mem_cons, List.not_mem_nil, or_false] at hd
      rcases hd with rfl | rfl | rfl | rfl
      · exact ⟨1, rfl, by decide⟩
      · exact ⟨-1, rfl, by decide⟩
      · exact ⟨2, rfl, by decide⟩
      · exact ⟨3, rfl, by decide⟩
    obtain ⟨v, rfl, hv⟩ := this
    have bu : B 4 (v + i) := B_le (N := 11) (by omega) (by decide)
    rw [ups_ups]
    refine tc_zip (is := k.l) (js := mate.l) (fun x y => .int (x + (v + i) * y)) (by exact ⟨rfl, rfl⟩) (by show 6 ≤ 100000; decide) (fun x hx y hy N hN => ⟨rfl, bu.mulW (bm.l y hy), hN⟩) ?_
    have e : (⟨k.a + (v + i) * mate.a, k.b + (v + i) * mate.b, k.c + (v + i) * mate.c, k.d + (v + i) * mate.d, k.e + (v + i) * mate.e, k.f + (v + i) * mate.f⟩ : V6) = c6 1 (v + i) k mate := by
      simp only [c6, Int.one_mul]
    have bs : (c6 1 (v + i) k mate).B 1000 := (c6_B bk bm (B1.mono (by omega)) bu).mono (by omega)
    refine pr_i (E := { nx := N, rt := _, bk := _, ct := N }) (sec := ⟨k.a + (v + i) * mate.a, k.b + (v + i) * mate.b, k.c + (v + i) * mate.c, k.d + (v + i) * mate.d, k.e + (v + i) * mate.e, k.f + (v + i) * mate.f⟩) hf hp (by rw [e]; exact bs) (fun hd => ?_) (hN _ _ ⟨fun x h => hx x (List.mem_cons_of_mem _ h), m2, _, _, _, rfl, po2, rfl⟩)
    rw [e] at hd ⊢
    exact VQ.same (q1 (v + i) m2 bu hd (po2.le (by omega)))
  · rintro σ S' ⟨_, m', o9, o10, o11, rfl, po', rfl⟩
    exact ⟨trivial, sz_of (show 3 ≤ 1000000 by decide), sz_of (show 4 ≤ 1000000 by decide), VQ.same (q0 m' (po'.le (by omega)))⟩
  · obtain ⟨i, rfl, h1, h2⟩ := rng_int _ _ x hx
    exact ⟨i, rfl, h1, by omega⟩
theorem r_pair (hr : Γ.f "_law_round" = some (3, e_round)) (ho : Γ.f "_law_one" = some (2, e_oneT)) (hf : Γ.f "_law_is_full" = some (1, e_lfull)) (hp : Γ.f "_law_plain" = some (1, e_plain)) (hl : Γ.f "_law_lines" = some (2, e_lines)) (hc : Γ.f "_law_cross" = some (2, e_cross)) (hm : Γ.f "_law_times" = some (2, e_times)) (ht : Γ.f "_law_table" = some (1, e_table_by)) :
    ∀ ds S Q, ds.length = 2 → e_pair ds S Q → evS Γ c__law_pair (endsD Q) (startD n__law_pair.length ds) S := by
  rintro ds S Q _ ⟨p, m, r, w, rfl, hS, po, q0, q⟩
  refine tcl_of hr ⟨rfl, p, m, r + 10, 4, 3, rfl, hS, po, by decide, by decide, by decide, by decide, fun M L m2 ok bM hL hb nd po2 => ?_⟩
  match L, hL with
  | [x1, x2, x3, x4], _ =>
    have pc := fun x hx => pc_of bM (hb x hx)
    have p1 := pc x1 (by simp)
    have p2 := pc x2 (by simp)
    have p3' := pc x3 (by simp)
    have p4 := pc x4 (by simp)
    have hM := ok.d
    have pk := plain_tc hM base_full
    have hk := full_tc hM base_full
    have bk : (tc M base).B 52 := (tc_B bM base_B).mono (by omega)
    simp only [List.map_cons, List.map_nil, List.nodup_cons, List.mem_cons, List.not_mem_nil, or_false, not_or] at nd
    obtain ⟨⟨n12, n13, n14⟩, ⟨n23, n24⟩, n34, _⟩ := nd
    have k1 := pt_on hM p1.nz
    have k2 := pt_on hM p2.nz
    have k3 := pt_on hM p3'.nz
    have k4 := pt_on hM p4.nz
    have l1 := pt_plain hM p1.nz
    have l2 := pt_plain hM p2.nz
    have l3 := pt_plain hM p3'.nz
    have l4 := pt_plain hM p4.nz
    have b1 := p1.b
    have b2 := p2.b
    have b3 := p3'.b
    have b4 := p4.b
    refine ⟨rfl, rfl, ?_⟩
    show evS Γ (tl (tl c__law_pair)) (endsD Q) [some (.ref p), some (.int w), some (t6 (tc M base)), some (tv [pt M x1, pt M x2, pt M x3, pt M x4]), some (t3 (pt M x1)), some (t3 (pt M x2)), some (t3 (pt M x3)), some (t3 (pt M x4)), none, none, none, none, none, none, none] (ups S p (pm m2))
    generalize pt M x1 = a at *
    generalize pt M x2 = b at *
    generalize pt M x3 = c at *
    generalize pt M x4 = d at *
    generalize tc M base = k at *
    refine q_eq eqD_int (ite_d (p := w = 0) (fun _ => ?_) fun _ => ?_)
    · have c1 : (cross a b).B 61 := b1.cross b2
      have c2 : (cross c d).B 61 := b3.cross b4
      refine tcl_of hl (tcl_of hc ⟨rfl, a, b, rfl, b1.mono (by omega), b2.mono (by omega), tcl_of hc ⟨rfl, c, d, rfl, b3.mono (by omega), b4.mono (by omega), rfl, cross a b, cross c d, rfl, c1.mono (by omega), c2.mono (by omega), ?_⟩⟩)
      refine pr_t (r := r) ho hf hp ups_same (po2.le (by omega)) (bk.mono (by omega)) ((lns_B c1 c2).mono (by omega)) (fun m' po' => ?_) fun u m' bu hd po' => ?_
      · rw [ups_ups]; exact q0 k m' _ _ po'
      · rw [ups_ups]
        exact q k _ a b c d m' ⟨pk, p6_plain (full_ne hd), bk.mono (by omega), ((c6_B (n := 155) (m := 4) (bk.mono (by omega)) ((lns_B c1 c2).mono (by omega)) (B1.mono (by omega)) bu).p6).mono (by omega), b1, b2, b3, b4, hk, full_p6 hd, l4, fun ne => pair0 pk hk l1 l2 l3 l4 k1 k2 k3 k4 n12 n13 n23 (fun z => n14 z.symm) (fun z => n24 z.symm) (fun z => n34 z.symm) hd ne⟩ po'
    · have c1 : (mv (tb k) a).B 86 := (bk.tb.mv b1).mono (by omega)
      have c2 : (cross b c).B 61 := b2.cross b3
      refine tcl_of hl (tcl_of hm (tcl_of ht ⟨rfl, k, rfl, bk.mono (by omega), rfl, tb k, a, rfl, bk.tb.mono (by omega), b1.mono (by omega), tcl_of hc ⟨rfl, b, c, rfl, b2.mono (by omega), b3.mono (by omega), rfl, mv (tb k) a, cross b c, rfl, c1.mono (by omega), c2.mono (by omega), ?_⟩⟩))
      refine pr_t (r := r) ho hf hp ups_same (po2.le (by omega)) (bk.mono (by omega)) ((lns_B c1 c2).mono (by omega)) (fun m' po' => ?_) fun u m' bu hd po' => ?_
      · rw [ups_ups]; exact q0 k m' _ _ po'
      · rw [ups_ups]
        exact q k _ a b c a m' ⟨pk, p6_plain (full_ne hd), bk.mono (by omega), ((c6_B (n := 155) (m := 4) (bk.mono (by omega)) ((lns_B c1 c2).mono (by omega)) (B1.mono (by omega)) bu).p6).mono (by omega), b1, b2, b3, b1, hk, full_p6 hd, l1, fun ne => pair1 pk hk l1 l2 l3 k1 k2 k3 n12 n13 n23 hd ne⟩ po'
end
end PyD

set_option Elab.async false
set_option linter.all false
set_option maxRecDepth 100000
set_option maxHeartbeats 1000000
set_option exponentiation.threshold 10000
/-! K78K: whether a curve of a pencil is told right. -/
namespace PyD
open PySem PySem.Spec PyProof.Rows L2
def e_inp : DSp := fun ds S Q => ∃ k o t : V6, ds = [t6 k, t6 o, t6 t] ∧ PlainL k.l ∧ PlainL o.l ∧ PlainL t.l ∧ k ≠ o ∧ k.B 10000 ∧ o.B 10000 ∧ t.B 10000 ∧ Q (.bl (depB k o t)) S
def e_s3 : DSp := fun ds S Q => e_s2 ds S Q ∨ ∃ b : Bool, ds = [.bl b, .bl b] ∧ Q (.bl true) S
def e_ipr : DSp := fun ds S Q => ∃ (k o : V6) (p : V3) (n : Bool), ds = [t6 k, t6 o, t3 p, .bl n] ∧ PlainL k.l ∧ PlainL o.l ∧ PlainL p.l ∧ k ≠ o ∧ k.B 200 ∧ o.B 200 ∧ p.B 100 ∧ Q (.bl true) S
theorem dep_t {k o : V6} {p : V3} (hk : PlainL k.l) (ho : PlainL o.l) (hn : k ≠ o) (hp : qv k p ≠ 0 ∨ qv o p ≠ 0) : depB k o (pen k o p) = true :=
  depB_t fun x hx _ => let ⟨h1, h2, h3⟩ := lots_inc x hx; dep_pen hk ho hn hp x.1 x.2.1 x.2.2 h1 h2 h3
theorem dec_iff' {p q : Prop} [Decidable p] [Decidable q] (h : p ↔ q) : decide p = decide q := by
  by_cases hp : p
  · rw [decide_eq_true hp, decide_eq_true (h.mp hp)]
  · rw [decide_eq_false hp, decide_eq_false fun z => hp (h.mpr z)]
section
variable {Γ : Gam}
theorem r_inp' (h1 : Γ.f "check_two_curves" = some (2, e_two)) (h2 : Γ.f "check_curve" = some (1, e_check_curve)) (h3 : Γ.f "are_dependent" = some (1, e_dep)) : ∀ ds S Q, ds.length = 3 → e_inp ds S Q → evS Γ c_are_in_pencil (endsD Q) (startD n_are_in_pencil.length ds) S := by
  rintro ds S Q _ ⟨k, o, t, rfl, pk, po, pt', hn, bk, bo, bt, q⟩
  exact r_inp h1 h2 h3 pk po pt' hn bk bo bt q
theorem r_s3 (h : Γ.f "_law_same" = some (2, e_s1)) : ∀ ds S Q, ds.length = 2 → e_s3 ds S Q → evS Γ c__law_same (endsD Q) (startD n__law_same.length ds) S := by
  rintro ds S Q hl (q | ⟨b, rfl, q⟩)
  · exact r_sT h ds S Q hl q
  · refine q_eq eqD_bl ?_
    rw [decide_eq_true rfl]
    exact VQ.same q
structure Fi78 (Γ : Gam) : Prop where
  val : Γ.f "_law_value" = some (2, e_value)
  pc : Γ.f "pencil_curve" = some (3, e_pcurve)
  pck : Γ.fk "pencil_curve" ["point", "other", "curve"] = some (3, [2, 1, 0], e_pcurve)
  same : Γ.f "_law_same" = some (2, e_s3)
  plain : Γ.f "_law_plain" = some (1, e_plain)
  on : Γ.f "is_on_curve" = some (2, e_on_curve)
  inp : Γ.f "are_in_pencil" = some (3, e_inp)
  inpk : Γ.fk "are_in_pencil" ["third", "other", "curve"] = some (3, [2, 1, 0], e_inp)
theorem ipr_t (G : Fi78 Γ) {k o : V6} {p : V3} {n : Bool} {o5 o6 : OD} {S : Sto} {E : EndsD} (pk : PlainL k.l) (po : PlainL o.l) (pp : PlainL p.l) (hn : k ≠ o) (bk : k.B 200) (bo : o.B 200) (bp : p.B 100) (hv : qv k p ≠ 0 ∨ qv o p ≠ 0) (q : E.rt (.bl true) S) :
    evS Γ (tl (tl c__law_is_point_right)) E [some (t6 k), some (t6 o), some (t3 p), some (.bl n), some (t6 (pen k o p)), o5, o6, none, none, none] S := by
  have bv1 : B 600 (qv k p) := (bk.qv bp).mono (by omega)
  have bv2 : B 600 (qv o p) := (bo.qv bp).mono (by omega)
  have bpen : (pen k o p).B 2000 := (pen_B bk bo bp).mono (by omega)
  have ppen := pen_plain pk po hn hv
  refine tcl_of G.val ⟨rfl, k, p, rfl, bk.mono (by omega), bp.mono (by omega), tcl_of G.val ⟨rfl, o, p, rfl, bo.mono (by omega), bp.mono (by omega), sz_of (show 2 ≤ 1000000 by decide), rfl, ?_⟩⟩
  refine tcl_of G.same (tcl_of G.plain (tc_zip (is := k.l) (js := o.l) (fun x y => .int (qv o p * x - qv k p * y)) (by exact ⟨rfl, rfl⟩) (by show 6 ≤ 100000; decide) (fun x hx y hy N hN => ⟨rfl, bv2.mulW (bk.l x hx), bv1.mulW (bo.l y hy), hN⟩) ?_))
  refine ⟨rfl, _, (c6 (qv o p) (-(qv k p)) k o).l, rfl, ?_, by show 6 ≤ 1000; decide, live6.mpr (pen_ne pk po hn hv), (c6_B (n := 200) (m := 600) bk bo bv2 bv1.neg).l.mono (by omega), ?_⟩
  · show some [D.int (qv o p * k.a - qv k p * o.a), .int (qv o p * k.b - qv k p * o.b), .int (qv o p * k.c - qv k p * o.c), .int (qv o p * k.d - qv k p * o.d), .int (qv o p * k.e - qv k p * o.e), .int (qv o p * k.f - qv k p * o.f)] = _
    have e : ∀ u v w x : Int, u * v - w * x = u * v + -w * x := fun u v w x => by grind
    rw [e, e, e, e, e, e]; rfl
  refine ⟨rfl, .inl (use_s2 (is := (pen k o p).l) (by show 6 ≤ 1000; decide) (if_f ?_))⟩
  refine tcl_of G.on ⟨rfl, pen k o p, p, rfl, ppen, pp, bpen.mono (by omega), bp.mono (by omega), ?_⟩
  rw [pen_on pk po hn hv, decide_eq_true rfl]
  refine q_eq (x := ti (pen k o p).l) (y := ti k.l) eqD_ti (q_eq eqD_int (q_ne eqD_bl ?_))
  rw [dec_iff' (l6_iff.trans (pen_k pk po hn hv)), decide_eq_true rfl]
  refine if_f (q_eq (x := ti (pen k o p).l) (y := ti o.l) eqD_ti (q_eq eqD_int (q_ne eqD_bl ?_)))
  rw [dec_iff' (l6_iff.trans (pen_o pk po hn hv)), decide_eq_true rfl]
  refine if_f ?_
  have fin : ∀ b : Bool, b = true → E.rt (.bl (decide (b = true))) S := fun b e => by rw [e]; exact q
  have hd := dep_t pk po hn hv
  cases n with
  | true => exact tclk_of G.inpk ⟨rfl, rfl, k, o, pen k o p, rfl, pk, po, ppen, hn, bk.mono (by omega), bo.mono (by omega), bpen.mono (by omega), fin _ hd⟩
  | false => exact tcl_of G.inp ⟨rfl, k, o, pen k o p, rfl, pk, po, ppen, hn, bk.mono (by omega), bo.mono (by omega), bpen.mono (by omega), fin _ hd⟩
theorem ipr_1 (G : Fi78 Γ) {k o : V6} {p : V3} {n : Bool} {S : Sto} {E : EndsD} (pk : PlainL k.l) (po : PlainL o.l) (pp : PlainL p.l) (hn : k ≠ o) (bk : k.B 200) (bo : o.B 200) (bp : p.B 100) (hv : qv k p ≠ 0 ∨ qv o p ≠ 0) (q : E.rt (.bl true) S) :
    evS Γ (tl c__law_is_point_right) E [some (t6 k), some (t6 o), some (t3 p), some (.bl n), none, none, none, none, none, none] S := by
  have tail := ipr_t (n := n) (o5 := none) (o6 := none) (E := E) G pk po pp hn bk bo bp hv q
  cases n with
  | true => exact tclk_of G.pck ⟨rfl, rfl, k, o, p, rfl, bk.mono (by omega), bo.mono (by omega), bp.mono (by omega), pk, po, pp, hn, hv, tail⟩
  | false => exact tcl_of G.pc ⟨rfl, k, o, p, rfl, bk.mono (by omega), bo.mono (by omega), bp.mono (by omega), pk, po, pp, hn, hv, tail⟩
theorem r_ipr (G : Fi78 Γ) : ∀ ds S Q, ds.length = 4 → e_ipr ds S Q → evS Γ c__law_is_point_right (endsD Q) (startD n__law_is_point_right.length ds) S := by
  rintro ds S Q _ ⟨k, o, p, n, rfl, pk, po, pp, hn, bk, bo, bp, q⟩
  refine tcl_of G.val ⟨rfl, k, p, rfl, bk.mono (by omega), bp.mono (by omega), q_eq eqD_int (ite_d (p := qv k p = 0) (fun h1 => ?_) fun h1 => ?_)⟩
  · refine tcl_of G.val ⟨rfl, o, p, rfl, bo.mono (by omega), bp.mono (by omega), q_eq eqD_int (ite_d (p := qv o p = 0) (fun h2 => VQ.same q) fun h2 => ?_)⟩
    exact ipr_1 G pk po pp hn bk bo bp (.inr h2) (VQ.same q)
  · exact if_f (ipr_1 G pk po pp hn bk bo bp (.inl h1) (VQ.same q))
end
end PyD

set_option Elab.async false
set_option linter.all false
set_option maxRecDepth 100000
set_option maxHeartbeats 1000000
set_option exponentiation.threshold 10000
/-! K78L: k78's laps. -/
namespace PyD
open PySem PySem.Spec PyProof.Rows L2
instance decV3 : DecidableEq V3 := fun u v => decidable_of_iff (u.l = v.l) ⟨l_inj, fun h => by rw [h]⟩
def tch (k o : V6) (p : V3) : Bool := decide ((p3 (mv (tb k) p)).l = (p3 (mv (tb o) p)).l)
theorem Com.tch_iff {k o : V6} {a b c d p : V3} (C : Com k o a b c d) (hp : p = a ∨ p = b ∨ p = c) : tch k o p = decide (p = d) := by
  have pp : PlainL p.l := by
    rcases hp with rfl | rfl | rfl
    · exact C.pa
    · exact C.pb
    · exact C.pc
  have n1 := mv_ne C.hk (pl3_ne pp)
  have n2 := mv_ne C.ho (pl3_ne pp)
  refine dec_iff' ⟨fun h => ?_, fun h => ?_⟩
  · have e := l_inj h
    exact C.only hp ((p3_pr n1).symm.trans (by rw [e]; exact p3_pr n2))
  · subst h
    rcases C.lst with ⟨h1, h2, h3⟩ | ⟨_, h⟩
    · rcases hp with e | e | e
      · exact absurd e h1
      · exact absurd e h2
      · exact absurd e h3
    · rw [p3_eq n1 h]
def t3o (f : V3 → Bool) (d : D) : Bool := match d with
  | .tup [.int x, .int y, .int z] => f ⟨x, y, z⟩
  | _ => false
theorem Com.touches {k o : V6} {a b c d : V3} (C : Com k o a b c d) : ([] : List PyD.D) ++ (([t3 a, t3 b, t3 c].filter (t3o (tch k o))).map id) = if d = a ∨ d = b ∨ d = c then [t3 d] else [] := by
  have e : ∀ p, t3o (tch k o) (t3 p) = tch k o p := fun p => rfl
  rw [List.nil_append, List.map_id]
  simp only [List.filter_cons, List.filter_nil, e, C.tch_iff (.inl rfl), C.tch_iff (.inr (.inl rfl)), C.tch_iff (.inr (.inr rfl)), decide_eq_true_eq]
  by_cases h1 : d = a
  · subst h1
    rw [if_pos rfl, if_neg (fun z => C.ab z.symm), if_neg (fun z => C.ac z.symm), if_pos (.inl rfl)]
  · by_cases h2 : d = b
    · subst h2
      rw [if_neg C.ab, if_pos rfl, if_neg (fun z => C.bc z.symm), if_pos (.inr (.inl rfl))]
    · by_cases h3 : d = c
      · subst h3
        rw [if_neg C.ac, if_neg C.bc, if_pos rfl, if_pos (.inr (.inr rfl))]
      · rw [if_neg (fun z => h1 z.symm), if_neg (fun z => h2 z.symm), if_neg (fun z => h3 z.symm), if_neg (fun z => z.elim h1 fun z => z.elim h2 h3)]
theorem eqD_e1 {S : Sto} {v : V3} : eqD S (.lst [t3 v]) (.lst []) = some false := by
  have e1 : toP S (.lst [t3 v]) = some (.list ([v.l].map fun is => .tuple (is.map PyData.int))) := by
    show toP0 (.lst ([v.l].map ti)) = _
    rw [toP0, toPs_tis]
  have e2 : toP S (.lst []) = some (.list (([] : List (List Int)).map fun is => .tuple (is.map PyData.int))) := by
    show toP0 (.lst (([] : List (List Int)).map ti)) = _
    rw [toP0, toPs_tis]
  unfold eqD
  rw [e1, e2]
  show (if SeqAt.shaped (.list ([v.l].map fun is => .tuple (is.map PyData.int))) && SeqAt.shaped (.list (([] : List (List Int)).map fun is => .tuple (is.map PyData.int))) then some (PyData.eqv (.list ([v.l].map fun is => .tuple (is.map PyData.int))) (.list (([] : List (List Int)).map fun is => .tuple (is.map PyData.int)))) else none) = _
  rw [shaped_tisl, shaped_tisl, PyData.eqv, List.map_cons, List.map_nil, PyData.eqvAll]; rfl
theorem eqD_e0 {S : Sto} : eqD S (.lst []) (.lst []) = some true := by
  have e2 : toP S (.lst []) = some (.list (([] : List (List Int)).map fun is => .tuple (is.map PyData.int))) := by
    show toP0 (.lst (([] : List (List Int)).map ti)) = _
    rw [toP0, toPs_tis]
  unfold eqD
  rw [e2]
  show (if SeqAt.shaped (.list (([] : List (List Int)).map fun is => .tuple (is.map PyData.int))) && SeqAt.shaped (.list (([] : List (List Int)).map fun is => .tuple (is.map PyData.int))) then some (PyData.eqv (.list (([] : List (List Int)).map fun is => .tuple (is.map PyData.int))) (.list (([] : List (List Int)).map fun is => .tuple (is.map PyData.int)))) else none) = _
  rw [shaped_tisl, PyData.eqv, List.map_nil, PyData.eqvAll]; rfl
structure Fs78 (Γ : Gam) : Prop where
  val : Γ.f "_law_value" = some (2, e_value)
  same : Γ.f "_law_same" = some (2, e_s3)
  last : Γ.f "last_common" = some (3, e_last)
  lastk : Γ.fk "last_common" ["three", "other", "curve"] = some (3, [2, 1, 0], e_last)
  pol : Γ.f "polar" = some (2, e_polar)
  view : Γ.f "_law_view" = some (2, e_view)
  turn : Γ.f "_law_turn" = some (2, e_turn)
  tcv : Γ.f "turned_curve" = some (2, e_turned_curve)
  lcurve : Γ.f "_law_curve" = some (2, e_lcurve)
  ipr : Γ.f "_law_is_point_right" = some (4, e_ipr)
  point : Γ.f "_law_point" = some (2, e_point)
  one : Γ.f "_law_one" = some (2, e_oneT)
  inp : Γ.f "are_in_pencil" = some (3, e_inp)
  mixed : Γ.f "_law_is_mixed" = some (3, e_lmixed)
  pair : Γ.f "_law_pair" = some (2, e_pair)
def lapA : CS := match tl (fb c__law_right) with
  | .seq (.iff _ a _) _ => a
  | c => c
def lapB : CS := match tl (tl (tl (fb c__law_right))) with
  | .seq (.iff _ a _) _ => a
  | c => c
section
variable {Γ : Gam}
theorem A_5 (G : Fs78 Γ) {p : Addr} {lap : Int} {k o : V6} {a b c d : V3} {o7 o8 o9 o10 o11 o12 : OD} {m : Pool} {r : Nat} {S : Sto} {E : EndsD} (hS : S p = some (pm m)) (po : PO (r + 54) m) (R : Pq k o a b c d) (C : Com k o a b c d)
    (nx : ∀ m' o8 o9, PO r m' → E.nx [some (.ref p), some (.int lap), some (t6 k), some (t6 o), some (tv [a, b, c]), some (t3 d), some (t3 d), o7, o8, o9, o10, o11, o12, none, none, none] (ups S p (pm m'))) :
    evS Γ (tl (tl (tl (tl lapA)))) E [some (.ref p), some (.int lap), some (t6 k), some (t6 o), some (tv [a, b, c]), some (t3 d), some (t3 d), o7, o8, o9, o10, o11, o12, none, none, none] S := by
  refine tcl_of G.view ⟨rfl, p, m, r, 3, rfl, hS, po, by decide, by decide, fun V m' ok bV po' => ?_⟩
  have nz : ∀ {q : V3}, PlainL q.l → mv V q ≠ o3 := fun h => mv_ne ok.d (pl3_ne h)
  have bt : ∀ {q : V3}, q.B 30 → (p3 (mv V q)).B 60 := fun h => ((bV.mv h).p3).mono (by omega)
  have go : ∀ (x : V3), x.B 30 → PlainL x.l → ∀ (s9 s13 s15 : OD) (N : D → Sto → Prop), N (t3 (p3 (mv V x))) (ups S p (pm m')) → tcl Γ "_law_turn" (evA Γ (.cons (.var 8) (.cons (.var 14) .nil))) [some (.ref p), some (.int lap), some (t6 k), some (t6 o), some (tv [a, b, c]), some (t3 d), some (t3 d), o7, some (vw V), s9, o10, o11, o12, s13, some (t3 x), s15] (ups S p (pm m')) N := fun x bx px s9 s13 s15 N hN =>
    tcl_of G.turn ⟨rfl, V, x, rfl, bV.mono (by omega), bx.mono (by omega), nz px, hN⟩
  refine tc_cons (by rfl) (go a R.ba C.pa _ _ _ _ ⟨lt_line (Nat.zero_le _), ?_⟩)
  refine tc_cons (by rfl) (go b R.bb C.pb _ _ _ _ ⟨lt_line (show 1 ≤ 1000000 by decide), ?_⟩)
  refine tc_cons (by rfl) (go c R.bc C.pc _ _ _ _ ⟨lt_line (show 2 ≤ 1000000 by decide), ?_⟩)
  refine tc_nil (by rfl) ?_
  refine tcl_of G.same (tcl_of G.last (tcl_of G.tcv ⟨rfl, V, k, rfl, ok, bV.mono (by omega), C.pk, R.bk.mono (by omega), C.hk, tcl_of G.tcv ⟨rfl, V, o, rfl, ok, bV.mono (by omega), C.po, R.bo.mono (by omega), C.ho, ?_⟩⟩))
  refine ⟨rfl, tc V k, tc V o, p3 (mv V a), p3 (mv V b), p3 (mv V c), p3 (mv V d), rfl, (tc_B bV R.bk).mono (by omega), (tc_B bV R.bo).mono (by omega), bt R.ba, bt R.bb, bt R.bc, C.turn ok.d, ?_⟩
  refine tcl_of G.turn ⟨rfl, V, d, rfl, bV.mono (by omega), R.bd.mono (by omega), nz C.pd, ?_⟩
  exact ⟨rfl, .inl (use_s2 (is := (p3 (mv V d)).l) (by show 3 ≤ 1000; decide) (if_f (nx m' _ _ po')))⟩
theorem A_3 (G : Fs78 Γ) {p : Addr} {lap : Int} {k o : V6} {a b c d : V3} {o7 o8 o9 o10 o11 o12 : OD} {m : Pool} {r : Nat} {S : Sto} {E : EndsD} (hS : S p = some (pm m)) (po : PO (r + 54) m) (R : Pq k o a b c d) (C : Com k o a b c d)
    (nx : ∀ m' o7 o8 o9, PO r m' → E.nx [some (.ref p), some (.int lap), some (t6 k), some (t6 o), some (tv [a, b, c]), some (t3 d), some (t3 d), o7, o8, o9, o10, o11, o12, none, none, none] (ups S p (pm m'))) :
    evS Γ (tl (tl lapA)) E [some (.ref p), some (.int lap), some (t6 k), some (t6 o), some (tv [a, b, c]), some (t3 d), some (t3 d), o7, o8, o9, o10, o11, o12, none, none, none] S := by
  have bk := R.bk
  have bo := R.bo
  have s0 : Sz 0 := sz_of (Nat.zero_le _)
  have pls : ∀ q, q = a ∨ q = b ∨ q = c → PlainL q.l ∧ q.B 30 := fun q hq => by
    rcases hq with rfl | rfl | rfl
    · exact ⟨C.pa, R.ba⟩
    · exact ⟨C.pb, R.bb⟩
    · exact ⟨C.pc, R.bc⟩
  refine tcomp_filter (t3o (tch k o)) id (by rfl) [t3 a, t3 b, t3 c] [] (by show 0 + 3 ≤ 1000000; decide) (fun x hx N1 N0 h1 h0 => ?_) ?_
  · have : ∃ q : V3, x = t3 q ∧ (q = a ∨ q = b ∨ q = c) := by
      simp only [List.mem_cons, List.not_mem_nil, or_false] at hx
      rcases hx with rfl | rfl | rfl
      · exact ⟨a, rfl, .inl rfl⟩
      · exact ⟨b, rfl, .inr (.inl rfl)⟩
      · exact ⟨c, rfl, .inr (.inr rfl)⟩
    obtain ⟨q, rfl, hq⟩ := this
    obtain ⟨pq, bq⟩ := pls q hq
    refine tcl_of G.pol ⟨rfl, k, q, rfl, bk.mono (by omega), bq.mono (by omega), C.pk, pq, C.hk, tcl_of G.pol ⟨rfl, o, q, rfl, bo.mono (by omega), bq.mono (by omega), C.po, pq, C.ho, ?_⟩⟩
    refine q_eq (x := ti (p3 (mv (tb k) q)).l) (y := ti (p3 (mv (tb o) q)).l) eqD_ti ?_
    exact ite_b (b := decide ((p3 (mv (tb k) q)).l = (p3 (mv (tb o) q)).l)) (fun h => h1 h) fun h => h0 h
  rw [C.touches]
  have hin : ∀ Q' : QD, Q' (.bl (decide (d.l ∈ [a.l, b.l, c.l]))) S → dIn false (t3 d) (tv [a, b, c]) S Q' := fun Q' q' => q_in (x := ti d.l) (y := .tup ([a.l, b.l, c.l].map ti)) inD_ti q' (fun z h => by cases h)
  have hm : d.l ∈ [a.l, b.l, c.l] ↔ (d = a ∨ d = b ∨ d = c) := by
    simp only [List.mem_cons, List.not_mem_nil, or_false]
    exact ⟨fun h => h.imp l_inj fun h => h.imp l_inj l_inj, fun h => h.imp (fun e => by rw [e]) fun h => h.imp (fun e => by rw [e]) fun e => by rw [e]⟩
  rw [dec_iff' hm] at hin
  by_cases hd : d = a ∨ d = b ∨ d = c
  · rw [if_pos hd]
    rw [decide_eq_true hd] at hin
    have nx' := A_5 (r := r) (o7 := some (.lst [t3 d])) (o8 := o8) (o9 := o9) (o10 := o10) (o11 := o11) (o12 := o12) (lap := lap) (E := E) G hS po R C fun m' o8 o9 po' => nx m' _ o8 o9 po'
    have goal : dIn false (t3 d) (tv [a, b, c]) S (fun y S1 => Sz 0 ∧ dEq true (.lst [t3 d]) (.lst []) S1 fun z S2 => dEq true y z S2 fun u S3 => match u with
      | .bl t => if t = true then E.rt (.bl false) S3 else (Sz 0 ∧ dEq true (.lst [t3 d]) (.lst []) S3 fun z S4 => match z with
        | .bl t => if t = true then (dEq true (t3 d) (t3 d) S4 fun u S5 => match u with
          | .bl t => if t = true then E.rt (.bl false) S5 else evS Γ (tl (tl (tl (tl lapA)))) E [some (.ref p), some (.int lap), some (t6 k), some (t6 o), some (tv [a, b, c]), some (t3 d), some (t3 d), some (.lst [t3 d]), o8, o9, o10, o11, o12, none, none, none] S5
          | _ => False) else evS Γ (tl (tl (tl (tl lapA)))) E [some (.ref p), some (.int lap), some (t6 k), some (t6 o), some (tv [a, b, c]), some (t3 d), some (t3 d), some (.lst [t3 d]), o8, o9, o10, o11, o12, none, none, none] S4
        | _ => False)
      | _ => False) := by
      refine hin _ ⟨s0, q_ne eqD_e1 (q_ne eqD_bl ?_)⟩
      refine ⟨s0, q_ne eqD_e1 (q_ne (x := ti d.l) (y := ti d.l) eqD_ti ?_)⟩
      rw [decide_eq_true rfl]
      exact nx'
    exact goal
  · rw [if_neg hd]
    rw [decide_eq_false hd] at hin
    have nx' := A_5 (r := r) (o7 := some (.lst [])) (o8 := o8) (o9 := o9) (o10 := o10) (o11 := o11) (o12 := o12) (lap := lap) (E := E) G hS po R C fun m' o8 o9 po' => nx m' _ o8 o9 po'
    refine hin _ ⟨s0, q_ne eqD_e0 (q_ne eqD_bl ?_)⟩
    exact ⟨s0, q_ne eqD_e0 nx'⟩
theorem A_1 (G : Fs78 Γ) {p : Addr} {lap : Int} {k o : V6} {a b c d : V3} {o6 o7 o8 o9 o10 o11 o12 : OD} {m : Pool} {r : Nat} {S : Sto} {E : EndsD} (hS : S p = some (pm m)) (po : PO (r + 54) m) (R : Pq k o a b c d) (C : Com k o a b c d)
    (nx : ∀ m' o6 o7 o8 o9, PO r m' → E.nx [some (.ref p), some (.int lap), some (t6 k), some (t6 o), some (tv [a, b, c]), some (t3 d), o6, o7, o8, o9, o10, o11, o12, none, none, none] (ups S p (pm m'))) :
    evS Γ lapA E [some (.ref p), some (.int lap), some (t6 k), some (t6 o), some (tv [a, b, c]), some (t3 d), o6, o7, o8, o9, o10, o11, o12, none, none, none] S := by
  have bk : k.B 300 := R.bk.mono (by omega)
  have bo : o.B 300 := R.bo.mono (by omega)
  have ba : a.B 60 := R.ba.mono (by omega)
  have bb : b.B 60 := R.bb.mono (by omega)
  have bc : c.B 60 := R.bc.mono (by omega)
  have bd : d.B 60 := R.bd.mono (by omega)
  have t3' := A_3 (r := r) (o7 := o7) (o8 := o8) (o9 := o9) (o10 := o10) (o11 := o11) (o12 := o12) (lap := lap) (E := E) G hS po R C fun m' o7 o8 o9 po' => nx m' _ o7 o8 o9 po'
  have t2 : evS Γ (tl lapA) E [some (.ref p), some (.int lap), some (t6 k), some (t6 o), some (tv [a, b, c]), some (t3 d), some (t3 d), o7, o8, o9, o10, o11, o12, none, none, none] S := by
    refine tcl_of G.same ⟨rfl, .inl (use_s2 (is := d.l) (by show 3 ≤ 1000; decide) (if_f ?_))⟩
    refine tcl_of G.same (tcl_of G.last ⟨rfl, o, k, c, b, a, d, rfl, bo, bk, bc, bb, ba, C.rev.swap, rfl, .inl (use_s2 (is := d.l) (by show 3 ≤ 1000; decide) (if_f ?_))⟩)
    refine tcl_of G.val ⟨rfl, k, d, rfl, bk.mono (by omega), bd.mono (by omega), q_ne eqD_int ?_⟩
    rw [C.kd]
    refine if_f (tcl_of G.val ⟨rfl, o, d, rfl, bo.mono (by omega), bd.mono (by omega), q_ne eqD_int ?_⟩)
    rw [C.od]
    exact if_f t3'
  refine q_eq eqD_int (ite_d (p := lap = 1) (fun _ => ?_) fun _ => ?_)
  · exact tclk_of G.lastk ⟨rfl, rfl, k, o, a, b, c, d, rfl, bk, bo, ba, bb, bc, C, t2⟩
  · exact tcl_of G.last ⟨rfl, k, o, a, b, c, d, rfl, bk, bo, ba, bb, bc, C, t2⟩
end
end PyD

set_option Elab.async false
set_option linter.all false
set_option maxRecDepth 100000
set_option maxHeartbeats 1000000
set_option exponentiation.threshold 10000
/-! K78M: k78's laps, joined. -/
namespace PyD
open PySem PySem.Spec PyProof.Rows L2
/-- what stands in the slots of the other curve and of the last point -/
inductive Oth (k : V6) (S : Sto) : D → D → Prop
  | non (d : D) : Oth k S .non d
  | same (d : D) : Oth k S (t6 k) d
  | other {o : V6} {d : V3} (pk : PlainL k.l) (po : PlainL o.l) (pd : PlainL d.l) (hn : k ≠ o) (bk : k.B 60) (bo : o.B 160) (bd : d.B 30) : Oth k S (t6 o) (t3 d)
section
variable {Γ : Gam}
theorem C_1 (G : Fs78 Γ) {p : Addr} {lap : Int} {k : V6} {xo xd : D} {o4 o6 o7 o8 o9 o10 o11 o12 : OD} {S : Sto} {E : EndsD} (O : Oth k S xo xd)
    (nx : E.nx [some (.ref p), some (.int lap), some (t6 k), some xo, o4, some xd, o6, o7, o8, o9, o10, o11, o12, none, none, none] S) :
    evS Γ (tl (tl (tl (tl (fb c__law_right))))) E [some (.ref p), some (.int lap), some (t6 k), some xo, o4, some xd, o6, o7, o8, o9, o10, o11, o12, none, none, none] S := by
  have s3 : Sz 3 := sz_of (show 3 ≤ 1000000 by decide)
  cases O with
  | non d => exact nx
  | same d =>
    refine q_ne (x := ti k.l) (y := ti k.l) eqD_ti ?_
    rw [decide_eq_true rfl]
    exact if_f nx
  | @other o d pk po pd hn bk bo bd =>
    refine q_ne (x := ti o.l) (y := ti k.l) eqD_ti ?_
    rw [decide_eq_false fun z => hn (l6_inj z.symm)]
    refine if_t ⟨s3, s3, s3, ?_⟩
    refine tcomp_map (fun _ => .bl true) (by rfl) [t3 d, t3 ⟨1, 2, 3⟩, t3 ⟨3, 1, 1⟩] [] (by show 0 + 3 ≤ 1000000; decide) (fun x hx N hN => ?_) (q_allT allT_map (if_f nx))
    have : ∃ q : V3, x = t3 q ∧ PlainL q.l ∧ q.B 100 := by
      simp only [List.mem_cons, List.not_mem_nil, or_false] at hx
      rcases hx with rfl | rfl | rfl
      · exact ⟨d, rfl, pd, bd.mono (by omega)⟩
      · exact ⟨⟨1, 2, 3⟩, rfl, ⟨rfl, by decide⟩, V3.B.mono (n := 2) ⟨by unfold B; decide, by unfold B; decide, by unfold B; decide⟩ (by omega)⟩
      · exact ⟨⟨3, 1, 1⟩, rfl, ⟨rfl, by decide⟩, V3.B.mono (n := 2) ⟨by unfold B; decide, by unfold B; decide, by unfold B; decide⟩ (by omega)⟩
    obtain ⟨q, rfl, pq, bq⟩ := this
    exact tcl_of G.ipr ⟨rfl, k, o, q, false, rfl, pk, po, pq, hn, bk.mono (by omega), bo.mono (by omega), bq, hN⟩
theorem B_2 (G : Fs78 Γ) {p : Addr} {lap : Int} {u v : V6} {o2 o3' o4 o5 o6 o7 o8 o9 o12 : OD} {m : Pool} {r : Nat} {S : Sto} {E : EndsD} (hS : S p = some (pm m)) (po : PO (r + 211) m) (pu : PlainL u.l) (pv : PlainL v.l) (hn : u ≠ v) (bu : u.B 60) (bv : v.B 60)
    (nx : ∀ m' o12, PO r m' → E.nx [some (.ref p), some (.int lap), o2, o3', o4, o5, o6, o7, o8, o9, some (t6 u), some (t6 v), o12, none, none, none] (ups S p (pm m'))) :
    evS Γ (tl lapB) E [some (.ref p), some (.int lap), o2, o3', o4, o5, o6, o7, o8, o9, some (t6 u), some (t6 v), o12, none, none, none] S := by
  refine tcl_of G.one (tcl_of G.lcurve ⟨rfl, p, m, r + 1, 4, rfl, hS, po, by decide, by decide, fun t m1 pt' bt po1 => ?_⟩)
  refine ⟨sz_of (show 3 ≤ 1000000 by decide), rfl, p, m1, r, _, rfl, ups_same, po1, (show 1 ≤ 3 by decide), (show 3 ≤ 1000 by decide), fun d m2 hd po2 => ?_⟩
  have : ∃ t : V6, d = t6 t ∧ PlainL t.l ∧ t.B 60 := by
    simp only [List.mem_cons, List.not_mem_nil, or_false] at hd
    rcases hd with rfl | rfl | rfl
    · exact ⟨t, rfl, pt', bt⟩
    · exact ⟨u, rfl, pu, bu⟩
    · exact ⟨v, rfl, pv, bv⟩
  obtain ⟨t, rfl, pt', bt⟩ := this
  rw [ups_ups]
  refine tcl_of G.same (tcl_of G.inp ⟨rfl, u, v, t, rfl, pu, pv, pt', hn, bu.mono (by omega), bv.mono (by omega), bt.mono (by omega), tcl_of G.mixed ⟨rfl, u, v, t, rfl, bu.mono (by omega), bv.mono (by omega), bt.mono (by omega), rfl, .inr ⟨_, rfl, if_f (nx m2 _ po2)⟩⟩⟩)
theorem B_1 (G : Fs78 Γ) {p : Addr} {lap : Int} {u v : V6} {o2 o3' o4 o5 o6 o7 o8 o9 o12 : OD} {m : Pool} {r : Nat} {S : Sto} {E : EndsD} (hS : S p = some (pm m)) (po : PO (r + 220) m) (pu : PlainL u.l) (pv : PlainL v.l) (hn : u ≠ v) (bu : u.B 60) (bv : v.B 60)
    (nx : ∀ m' o12, PO r m' → E.nx [some (.ref p), some (.int lap), o2, o3', o4, o5, o6, o7, o8, o9, some (t6 u), some (t6 v), o12, none, none, none] (ups S p (pm m'))) :
    evS Γ lapB E [some (.ref p), some (.int lap), o2, o3', o4, o5, o6, o7, o8, o9, some (t6 u), some (t6 v), o12, none, none, none] S := by
  refine ⟨crng (by decide) (by decide), ?_⟩
  refine tc_cons trivial (tcl_of G.ipr (tcl_of G.point ⟨rfl, p, m, r + 217, 4, rfl, hS, po, by decide, by decide, fun q m1 pq bq po1 => q_eq eqD_int ⟨rfl, u, v, q, _, rfl, pu, pv, pq, hn, bu.mono (by omega), bv.mono (by omega), bq.mono (by omega), lt_line (Nat.zero_le _), ?_⟩⟩))
  refine tc_cons trivial (tcl_of G.ipr (tcl_of G.point ⟨rfl, p, m1, r + 214, 4, rfl, ups_same, po1, by decide, by decide, fun q m2 pq bq po2 => q_eq eqD_int ⟨rfl, u, v, q, _, rfl, pu, pv, pq, hn, bu.mono (by omega), bv.mono (by omega), bq.mono (by omega), lt_line (show 1 ≤ 1000000 by decide), ?_⟩⟩))
  refine tc_cons trivial (tcl_of G.ipr (tcl_of G.point ⟨rfl, p, m2, r + 211, 4, rfl, ups_same, po2, by decide, by decide, fun q m3 pq bq po3 => q_eq eqD_int ⟨rfl, u, v, q, _, rfl, pu, pv, pq, hn, bu.mono (by omega), bv.mono (by omega), bq.mono (by omega), lt_line (show 2 ≤ 1000000 by decide), ?_⟩⟩))
  refine tc_nil trivial (q_allT (fun x hx => ?_) (if_f ?_))
  · simp only [List.nil_append, List.cons_append, List.mem_cons, List.not_mem_nil, or_false] at hx
    rcases hx with rfl | rfl | rfl <;> rfl
  · rw [ups_ups, ups_ups]
    refine B_2 (r := r) (E := { nx := E.nx, rt := E.rt, bk := E.bk, ct := E.ct }) G ups_same po3 pu pv hn bu bv fun m' o12 po' => ?_
    rw [ups_ups]
    exact nx m' _ po'
theorem lap_t (G : Fs78 Γ) {p : Addr} {lap : Int} {k : V6} {xo xd : D} {o4 o6 o7 o8 o9 o10 o11 o12 : OD} {m : Pool} {r : Nat} {S : Sto} {E : EndsD} (hS : S p = some (pm m)) (po : PO (r + 640) m) (O : ∀ S, Oth k S xo xd)
    (nx : ∀ m' o10 o11 o12, PO r m' → E.nx [some (.ref p), some (.int lap), some (t6 k), some xo, o4, some xd, o6, o7, o8, o9, o10, o11, o12, none, none, none] (ups S p (pm m'))) :
    evS Γ (tl (tl (fb c__law_right))) E [some (.ref p), some (.int lap), some (t6 k), some xo, o4, some xd, o6, o7, o8, o9, o10, o11, o12, none, none, none] S := by
  refine tcl_of G.lcurve ⟨rfl, p, m, r + 430, 4, rfl, hS, po, by decide, by decide, fun u m1 pu bu po1 => ?_⟩
  refine tcl_of G.lcurve ⟨rfl, p, m1, r + 220, 4, rfl, ups_same, po1, by decide, by decide, fun v m2 pv bv po2 => ?_⟩
  rw [ups_ups]
  refine ⟨sz_of (show 2 ≤ 1000000 by decide), rfl, ?_⟩
  refine q_ne (x := ti u.l) (y := ti v.l) eqD_ti ?_
  by_cases e : u = v
  · rw [decide_eq_true (congrArg V6.l e)]
    exact if_f (C_1 (E := { nx := E.nx, rt := E.rt, bk := E.bk, ct := E.ct }) G (O _) (nx m2 _ _ _ (po2.le (by omega))))
  · rw [decide_eq_false fun z => e (l6_inj z)]
    refine if_t (B_1 (r := r) G ups_same po2 pu pv e bu bv fun m' o12 po' => ?_)
    rw [ups_ups]
    exact C_1 (E := { nx := E.nx, rt := E.rt, bk := E.bk, ct := E.ct }) G (O _) (nx m' _ _ _ po')
theorem lap_b (G : Fs78 Γ) {p : Addr} {lap : Int} {o2 o3' o4 o5 o6 o7 o8 o9 o10 o11 o12 : OD} {m : Pool} {r : Nat} {S : Sto} {E : EndsD} (hS : S p = some (pm m)) (po : PO (r + 1000) m)
    (nx : ∀ m' o2 o3 o4 o5 o6 o7 o8 o9 o10 o11 o12, PO r m' → E.nx [some (.ref p), some (.int lap), o2, o3, o4, o5, o6, o7, o8, o9, o10, o11, o12, none, none, none] (ups S p (pm m'))) :
    evS Γ (fb c__law_right) E [some (.ref p), some (.int lap), o2, o3', o4, o5, o6, o7, o8, o9, o10, o11, o12, none, none, none] S := by
  refine tcl_of G.pair ⟨by decide, rfl, p, m, r + 790, _, rfl, hS, po, fun k m1 ps d po1 => ?_, fun k o a b c d m1 R po1 => ?_⟩
  · refine ⟨rfl, ?_⟩
    refine lap_t (r := r) (E := { nx := E.nx, rt := E.rt, bk := E.bk, ct := E.ct }) G ups_same (po1.le (by omega)) (fun _ => .non d) fun m' o10 o11 o12 po' => ?_
    rw [ups_ups]
    exact nx m' _ _ _ _ _ _ _ _ _ _ _ po'
  · refine ⟨rfl, ?_⟩
    refine q_ne (x := ti o.l) (y := ti k.l) eqD_ti ?_
    by_cases e : k = o
    · rw [decide_eq_true (congrArg V6.l e.symm)]
      subst e
      refine if_f (lap_t (r := r) (E := { nx := E.nx, rt := E.rt, bk := E.bk, ct := E.ct }) G ups_same (po1.le (by omega)) (fun _ => .same (t3 d)) fun m' o10 o11 o12 po' => ?_)
      rw [ups_ups]
      exact nx m' _ _ _ _ _ _ _ _ _ _ _ po'
    · rw [decide_eq_false fun z => e (l6_inj z.symm)]
      refine if_t (A_1 (r := r + 736) G ups_same (po1.le (by omega)) R (R.com e) fun m2 o6 o7 o8 o9 po2 => ?_)
      rw [ups_ups]
      refine lap_t (r := r) (E := { nx := E.nx, rt := E.rt, bk := E.bk, ct := E.ct }) G ups_same (po2.le (by omega)) (fun _ => .other R.pk R.po R.pd e R.bk R.bo R.bd) fun m' o10 o11 o12 po' => ?_
      rw [ups_ups]
      exact nx m' _ _ _ _ _ _ _ _ _ _ _ po'
theorem r_right (G : Fs78 Γ) : ∀ ds S Q, ds.length = 1 → e_right ds S Q → evS Γ c__law_right (endsD Q) (startD n__law_right.length ds) S := by
  rintro ds S Q _ ⟨a, m, r, rfl, hS, po, q⟩
  refine ⟨crng (by decide) (by decide), ?_⟩
  refine sloop_inv (fun xs σ S' => (∀ x ∈ xs, ∃ i : Int, x = .int i) ∧ xs.length ≤ 16 ∧ ∃ (m' : Pool) (o1 o2 o3 o4 o5 o6 o7 o8 o9 o10 o11 o12 : OD), S' = ups S a (pm m') ∧ PO (r + 1000 * xs.length) m' ∧ σ = [some (.ref a), o1, o2, o3, o4, o5, o6, o7, o8, o9, o10, o11, o12, none, none, none]) ?_ ?_ (rngD 0 16) _ _
    ⟨fun x hx => ?_, by rw [rngD_len]; exact Nat.le_refl _, m, none, none, none, none, none, none, none, none, none, none, none, none, (ups_self hS).symm, po.le (by rw [rngD_len]; omega), rfl⟩
  · rintro x xs σ S' N ⟨hx, hl, m', o1, o2, o3', o4, o5, o6, o7, o8, o9, o10, o11, o12, rfl, po', rfl⟩ hN
    obtain ⟨i, rfl⟩ := hx x (List.mem_cons_self ..)
    have hl' : xs.length + 1 ≤ 16 := hl
    refine ⟨trivial, lap_b (r := r + 1000 * xs.length) (E := { nx := N, rt := _, bk := _, ct := N }) G ups_same (po'.le (by simp only [List.length_cons]; omega)) fun m2 o2 o3 o4 o5 o6 o7 o8 o9 o10 o11 o12 po2 => ?_⟩
    rw [ups_ups]
    exact hN _ _ ⟨fun x h => hx x (List.mem_cons_of_mem _ h), by omega, m2, _, _, _, _, _, _, _, _, _, _, _, _, rfl, po2, rfl⟩
  · rintro σ S' ⟨hx, hl, m', o1, o2, o3', o4, o5, o6, o7, o8, o9, o10, o11, o12, rfl, po', rfl⟩
    exact ⟨trivial, VQ.same (q m' (po'.le (by omega)))⟩
  · obtain ⟨i, rfl, _⟩ := rng_int _ _ x hx
    exact ⟨i, rfl⟩
end
end PyD

set_option Elab.async false
set_option linter.all false
set_option maxRecDepth 100000
set_option maxHeartbeats 4000000
namespace PyD
open PySem PySem.Spec PyProof.Rows L2
def gMod : Str → Option D := fun x => if x = "SIZE" then some (.int 6) else none
def look (x : Str) : List (Str × (Nat × DSp)) → Option (Nat × DSp)
  | [] => none
  | (y, v) :: r => if y = x then some v else look x r
def lookK (x : Str) (ks : List Str) : List (Str × List Str × (Nat × List Nat × DSp)) → Option (Nat × List Nat × DSp)
  | [] => none
  | (y, js, v) :: r => if y = x ∧ js = ks then some v else lookK x ks r
def gam (T : List (Str × (Nat × DSp))) (U : List (Str × List Str × (Nat × List Nat × DSp))) : Gam := ⟨fun x => look x T, fun x ks => lookK x ks U, gMod⟩
section
variable {P : Program} {w : World} {K : PySem.W.Frag} {mg : Str → Option Value} {base : Heap}
theorem gam_nil : GamOk P w K mg base 0 (gam [] []) := ⟨fun _ _ _ h => (by cases h), fun _ _ _ _ _ h => (by cases h)⟩
theorem gam_f {T : List (Str × (Nat × DSp))} {U : List (Str × List Str × (Nat × List Nat × DSp))} {k n : Nat} {x : Str} {sp : DSp} (G : GamOk P w K mg base k (gam T U)) (F : FnD P w K mg base (k + 1) x n sp) : GamOk P w K mg base (k + 1) (gam ((x, n, sp) :: T) U) := by
  refine ⟨fun y m s h => ?_, fun y ks m p s h => (G.fk y ks m p s h).mono (Nat.le_succ k)⟩
  have h' : (if x = y then some (n, sp) else look y T) = some (m, s) := h
  split at h'
  · rename_i e
    cases h'
    rw [← e]; exact F
  · exact (G.f y m s h').mono (Nat.le_succ k)
theorem gam_k {T : List (Str × (Nat × DSp))} {U : List (Str × List Str × (Nat × List Nat × DSp))} {k n : Nat} {x : Str} {ks : List Str} {perm : List Nat} {sp : DSp} (G : GamOk P w K mg base k (gam T U)) (F : FnK P w K mg base k x n ks perm sp) : GamOk P w K mg base k (gam T ((x, ks, n, perm, sp) :: U)) := by
  refine ⟨G.f, fun y js m p s h => ?_⟩
  have h' : (if x = y ∧ ks = js then some (n, perm, sp) else lookK y js U) = some (m, p, s) := h
  split at h'
  · rename_i e
    cases h'
    rw [← e.1, ← e.2]; exact F
  · exact G.fk y js m p s h'
end
abbrev T_0 : List (Str × (Nat × DSp)) := []
abbrev U_0 : List (Str × List Str × (Nat × List Nat × DSp)) := []
abbrev T_1 : List (Str × (Nat × DSp)) := ("is_whole", 1, e_is_whole) :: T_0
abbrev T_2 : List (Str × (Nat × DSp)) := ("is_tuple_up_to", 3, e_up_to) :: T_1
abbrev T_3 : List (Str × (Nat × DSp)) := ("is_tuple_of", 2, e_tuple_of) :: T_2
abbrev T_4 : List (Str × (Nat × DSp)) := ("are_whole", 2, e_are_whole) :: T_3
abbrev T_5 : List (Str × (Nat × DSp)) := ("divisor_of", 1, e_divisor_of) :: T_4
abbrev T_6 : List (Str × (Nat × DSp)) := ("first_live", 1, e_first_live) :: T_5
abbrev T_7 : List (Str × (Nat × DSp)) := ("plain_of", 1, e_plain) :: T_6
abbrev T_8 : List (Str × (Nat × DSp)) := ("is_plain", 2, e_is_plain) :: T_7
abbrev T_9 : List (Str × (Nat × DSp)) := ("dot", 2, e_dot) :: T_8
abbrev T_10 : List (Str × (Nat × DSp)) := ("cross", 2, e_cross) :: T_9
abbrev T_11 : List (Str × (Nat × DSp)) := ("block", 3, e_block) :: T_10
abbrev T_12 : List (Str × (Nat × DSp)) := ("scaled", 2, e_scaled) :: T_11
abbrev T_13 : List (Str × (Nat × DSp)) := ("added", 2, e_added) :: T_12
abbrev T_14 : List (Str × (Nat × DSp)) := ("table_times", 2, e_times) :: T_13
abbrev T_15 : List (Str × (Nat × DSp)) := ("turned_table", 1, e_trt) :: T_14
abbrev T_16 : List (Str × (Nat × DSp)) := ("adjugate", 1, e_adj) :: T_15
abbrev T_17 : List (Str × (Nat × DSp)) := ("table_of", 2, e_table_of) :: T_16
abbrev T_18 : List (Str × (Nat × DSp)) := ("is_triple", 1, e_is_triple) :: T_17
abbrev T_19 : List (Str × (Nat × DSp)) := ("is_view_of", 1, e_is_view) :: T_18
abbrev T_20 : List (Str × (Nat × DSp)) := ("check_point", 1, e_check3) :: T_19
abbrev T_21 : List (Str × (Nat × DSp)) := ("check_view", 1, e_check_view) :: T_20
abbrev T_22 : List (Str × (Nat × DSp)) := ("table_by", 1, e_table_by) :: T_21
abbrev T_23 : List (Str × (Nat × DSp)) := ("curve_of_table", 1, e_curve_of_table) :: T_22
abbrev T_24 : List (Str × (Nat × DSp)) := ("is_full_by", 1, e_is_full) :: T_23
abbrev T_25 : List (Str × (Nat × DSp)) := ("products_of", 1, e_products) :: T_24
abbrev T_26 : List (Str × (Nat × DSp)) := ("value_by_curvework", 2, e_value) :: T_25
abbrev T_27 : List (Str × (Nat × DSp)) := ("is_on_by", 2, e_is_on) :: T_26
abbrev T_28 : List (Str × (Nat × DSp)) := ("polar_by", 2, e_polar_by) :: T_27
abbrev T_29 : List (Str × (Nat × DSp)) := ("turned_by", 2, e_turned) :: T_28
abbrev T_30 : List (Str × (Nat × DSp)) := ("is_curve_of", 1, e_is_curve) :: T_29
abbrev T_31 : List (Str × (Nat × DSp)) := ("check_curve", 1, e_check_curve) :: T_30
abbrev T_32 : List (Str × (Nat × DSp)) := ("value_by_curvepointwork", 2, e_value) :: T_31
abbrev T_33 : List (Str × (Nat × DSp)) := ("other_on", 2, e_other_on) :: T_32
abbrev T_34 : List (Str × (Nat × DSp)) := ("second_of", 3, e_second_of) :: T_33
abbrev T_35 : List (Str × (Nat × DSp)) := ("second_by", 3, e_second_by) :: T_34
abbrev T_36 : List (Str × (Nat × DSp)) := ("are_on_by", 2, e_are_on) :: T_35
abbrev T_37 : List (Str × (Nat × DSp)) := ("is_on_curve", 2, e_on_curve) :: T_36
abbrev T_38 : List (Str × (Nat × DSp)) := ("turned_curve", 2, e_turned_curve) :: T_37
abbrev T_39 : List (Str × (Nat × DSp)) := ("_law_pool", 2, e_pool) :: T_38
abbrev T_40 : List (Str × (Nat × DSp)) := ("_law_below", 2, e_draw) :: T_39
abbrev T_41 : List (Str × (Nat × DSp)) := ("_law_one", 2, e_oneT) :: T_40
abbrev T_42 : List (Str × (Nat × DSp)) := ("_law_common", 1, e_common) :: T_41
abbrev T_43 : List (Str × (Nat × DSp)) := ("_law_plain", 1, e_plain) :: T_42
abbrev T_44 : List (Str × (Nat × DSp)) := ("_law_cross", 2, e_cross) :: T_43
abbrev T_45 : List (Str × (Nat × DSp)) := ("_law_dot", 2, e_dot) :: T_44
abbrev T_46 : List (Str × (Nat × DSp)) := ("_law_block", 3, e_block) :: T_45
abbrev T_47 : List (Str × (Nat × DSp)) := ("_law_times", 2, e_times) :: T_46
abbrev T_48 : List (Str × (Nat × DSp)) := ("_law_point", 2, e_point) :: T_47
abbrev T_49 : List (Str × (Nat × DSp)) := ("_law_view", 2, e_view) :: T_48
abbrev T_50 : List (Str × (Nat × DSp)) := ("_law_turn", 2, e_turn) :: T_49
abbrev T_51 : List (Str × (Nat × DSp)) := ("_law_adjugate", 1, e_adj) :: T_50
abbrev T_52 : List (Str × (Nat × DSp)) := ("_law_table", 1, e_table_by) :: T_51
abbrev T_53 : List (Str × (Nat × DSp)) := ("_law_turned_curve", 2, e_turned) :: T_52
abbrev T_54 : List (Str × (Nat × DSp)) := ("_law_round", 3, e_round) :: T_53
abbrev T_55 : List (Str × (Nat × DSp)) := ("_law_same", 2, e_sameI) :: T_54
abbrev T_56 : List (Str × (Nat × DSp)) := ("_law_same", 2, e_s1) :: T_55
abbrev T_57 : List (Str × (Nat × DSp)) := ("_law_same", 2, e_s3) :: T_56
abbrev T_58 : List (Str × (Nat × DSp)) := ("wrong_in_figure", 3, e_wrong) :: T_57
abbrev T_59 : List (Str × (Nat × DSp)) := ("check_figure", 3, e_check_figure) :: T_58
abbrev T_60 : List (Str × (Nat × DSp)) := ("check_full", 1, e_check_full) :: T_59
abbrev T_61 : List (Str × (Nat × DSp)) := ("polar", 2, e_polar) :: T_60
abbrev T_62 : List (Str × (Nat × DSp)) := ("mixed_curve", 4, e_mixed) :: T_61
abbrev T_63 : List (Str × (Nat × DSp)) := ("pencil_by", 3, e_pencil) :: T_62
abbrev T_64 : List (Str × (Nat × DSp)) := ("beyond", 2, e_beyond) :: T_63
abbrev T_65 : List (Str × (Nat × DSp)) := ("other_line", 2, e_oline) :: T_64
abbrev T_66 : List (Str × (Nat × DSp)) := ("last_by", 3, e_last) :: T_65
abbrev T_67 : List (Str × (Nat × DSp)) := ("check_two_curves", 2, e_two) :: T_66
abbrev T_68 : List (Str × (Nat × DSp)) := ("pencil_curve", 3, e_pcurve) :: T_67
abbrev U_1 : List (Str × List Str × (Nat × List Nat × DSp)) := ("pencil_curve", ["point", "other", "curve"], 3, [2, 1, 0], e_pcurve) :: U_0
abbrev T_69 : List (Str × (Nat × DSp)) := ("last_common", 3, e_last) :: T_68
abbrev U_2 : List (Str × List Str × (Nat × List Nat × DSp)) := ("last_common", ["three", "other", "curve"], 3, [2, 1, 0], e_last) :: U_1
abbrev T_70 : List (Str × (Nat × DSp)) := ("cross", 2, e_crossL) :: T_69
abbrev T_71 : List (Str × (Nat × DSp)) := ("minors_of", 2, e_minors) :: T_70
abbrev T_72 : List (Str × (Nat × DSp)) := ("are_dependent", 1, e_dep) :: T_71
abbrev T_73 : List (Str × (Nat × DSp)) := ("are_in_pencil", 3, e_inp) :: T_72
abbrev U_3 : List (Str × List Str × (Nat × List Nat × DSp)) := ("are_in_pencil", ["third", "other", "curve"], 3, [2, 1, 0], e_inp) :: U_2
abbrev T_74 : List (Str × (Nat × DSp)) := ("_law_value", 2, e_value) :: T_73
abbrev T_75 : List (Str × (Nat × DSp)) := ("_law_is_full", 1, e_lfull) :: T_74
abbrev T_76 : List (Str × (Nat × DSp)) := ("_law_lines", 2, e_lines) :: T_75
abbrev T_77 : List (Str × (Nat × DSp)) := ("_law_curve", 2, e_lcurve) :: T_76
abbrev T_78 : List (Str × (Nat × DSp)) := ("_law_is_mixed", 3, e_lmixed) :: T_77
abbrev T_79 : List (Str × (Nat × DSp)) := ("_law_pair", 2, e_pair) :: T_78
abbrev T_80 : List (Str × (Nat × DSp)) := ("_law_is_point_right", 4, e_ipr) :: T_79
abbrev T_81 : List (Str × (Nat × DSp)) := ("_law_right", 1, e_right) :: T_80
abbrev T_82 : List (Str × (Nat × DSp)) := ("law", 1, e_lawD) :: T_81
section
variable {P : Program} {w : World} {K : PySem.W.Frag} {mg : Str → Option Value} {base : Heap}
/-- all defs stand as they are written -/
structure Stand (K : PySem.W.Frag) (mg : Str → Option Value) (y x : Str) (st : Stmt) : Prop where
  ex : ∃ f fd, FunD K x x (defArgs st) (defBody st) (defScope st) [] [] f fd ∧ mg y = some (.ref f)
theorem a_0 (M : ModOk P w K mg base bltsAll true gMod) (H : Stand K mg "is_whole" "is_whole" s_is_whole) (G : GamOk P w K mg base 0 (gam T_0 U_0)) : GamOk P w K mg base 1 (gam T_1 U_0) := by
  obtain ⟨f, fd, F, hm⟩ := H.ex
  have rd : ∀ ds S Q, ds.length = 1 → e_is_whole ds S Q → evS (gam T_0 U_0) c_is_whole (endsD Q) (startD n_is_whole.length ds) S := (fun ds S Q h1 h2 => r_is_whole ds S Q h1 h2)
  have D := fnD_of (w := w) (ps := ["value"]) (n := 1) F hm z_is_whole rfl (fun _ _ _ _ _ _ us hl => match us, hl with | [_], _ => rfl) M G k_is_whole rd
  exact gam_f G D
theorem a_1 (M : ModOk P w K mg base bltsAll true gMod) (H : Stand K mg "is_tuple_up_to" "is_tuple_up_to" s_is_tuple_up_to) (G : GamOk P w K mg base 1 (gam T_1 U_0)) : GamOk P w K mg base 2 (gam T_2 U_0) := by
  obtain ⟨f, fd, F, hm⟩ := H.ex
  have rd : ∀ ds S Q, ds.length = 3 → e_up_to ds S Q → evS (gam T_1 U_0) c_is_tuple_up_to (endsD Q) (startD n_is_tuple_up_to.length ds) S := (fun ds S Q h1 h2 => r_up_to ds S Q h1 h2)
  have D := fnD_of (w := w) (ps := ["value", "low", "high"]) (n := 3) F hm z_is_tuple_up_to rfl (fun _ _ _ _ _ _ us hl => match us, hl with | [_, _, _], _ => rfl) M G k_is_tuple_up_to rd
  exact gam_f G D
theorem a_2 (M : ModOk P w K mg base bltsAll true gMod) (H : Stand K mg "is_tuple_of" "is_tuple_of" s_is_tuple_of) (G : GamOk P w K mg base 2 (gam T_2 U_0)) : GamOk P w K mg base 3 (gam T_3 U_0) := by
  obtain ⟨f, fd, F, hm⟩ := H.ex
  have rd : ∀ ds S Q, ds.length = 2 → e_tuple_of ds S Q → evS (gam T_2 U_0) c_is_tuple_of (endsD Q) (startD n_is_tuple_of.length ds) S := (fun ds S Q h1 h2 => r_tuple_of (by kernel_rfl) ds S Q h1 h2)
  have D := fnD_of (w := w) (ps := ["value", "many"]) (n := 2) F hm z_is_tuple_of rfl (fun _ _ _ _ _ _ us hl => match us, hl with | [_, _], _ => rfl) M G k_is_tuple_of rd
  exact gam_f G D
theorem a_3 (M : ModOk P w K mg base bltsAll true gMod) (H : Stand K mg "are_whole" "are_whole" s_are_whole) (G : GamOk P w K mg base 3 (gam T_3 U_0)) : GamOk P w K mg base 4 (gam T_4 U_0) := by
  obtain ⟨f, fd, F, hm⟩ := H.ex
  have rd : ∀ ds S Q, ds.length = 2 → e_are_whole ds S Q → evS (gam T_3 U_0) c_are_whole (endsD Q) (startD n_are_whole.length ds) S := (fun ds S Q h1 h2 => r_are_whole (by kernel_rfl) (by kernel_rfl) ds S Q h1 h2)
  have D := fnD_of (w := w) (ps := ["value", "many"]) (n := 2) F hm z_are_whole rfl (fun _ _ _ _ _ _ us hl => match us, hl with | [_, _], _ => rfl) M G k_are_whole rd
  exact gam_f G D
theorem a_4 (M : ModOk P w K mg base bltsAll true gMod) (H : Stand K mg "divisor_of" "divisor_of" s_divisor_of) (G : GamOk P w K mg base 4 (gam T_4 U_0)) : GamOk P w K mg base 5 (gam T_5 U_0) := by
  obtain ⟨f, fd, F, hm⟩ := H.ex
  have rd : ∀ ds S Q, ds.length = 1 → e_divisor_of ds S Q → evS (gam T_4 U_0) c_divisor_of (endsD Q) (startD n_divisor_of.length ds) S := (fun ds S Q h1 h2 => r_divisor_of ds S Q h1 h2)
  have D := fnD_of (w := w) (ps := ["numbers"]) (n := 1) F hm z_divisor_of rfl (fun _ _ _ _ _ _ us hl => match us, hl with | [_], _ => rfl) M G k_divisor_of rd
  exact gam_f G D
theorem a_5 (M : ModOk P w K mg base bltsAll true gMod) (H : Stand K mg "first_live" "first_live" s_first_live) (G : GamOk P w K mg base 5 (gam T_5 U_0)) : GamOk P w K mg base 6 (gam T_6 U_0) := by
  obtain ⟨f, fd, F, hm⟩ := H.ex
  have rd : ∀ ds S Q, ds.length = 1 → e_first_live ds S Q → evS (gam T_5 U_0) c_first_live (endsD Q) (startD n_first_live.length ds) S := (fun ds S Q h1 h2 => r_first_live ds S Q h1 h2)
  have D := fnD_of (w := w) (ps := ["numbers"]) (n := 1) F hm z_first_live rfl (fun _ _ _ _ _ _ us hl => match us, hl with | [_], _ => rfl) M G k_first_live rd
  exact gam_f G D
theorem a_6 (M : ModOk P w K mg base bltsAll true gMod) (H : Stand K mg "plain_of" "plain_of" s_plain_of) (G : GamOk P w K mg base 6 (gam T_6 U_0)) : GamOk P w K mg base 7 (gam T_7 U_0) := by
  obtain ⟨f, fd, F, hm⟩ := H.ex
  have rd : ∀ ds S Q, ds.length = 1 → e_plain ds S Q → evS (gam T_6 U_0) c_plain_of (endsD Q) (startD n_plain_of.length ds) S := (fun ds S Q h1 h2 => r_plain_of (by kernel_rfl) (by kernel_rfl) ds S Q h1 h2)
  have D := fnD_of (w := w) (ps := ["numbers"]) (n := 1) F hm z_plain_of rfl (fun _ _ _ _ _ _ us hl => match us, hl with | [_], _ => rfl) M G k_plain_of rd
  exact gam_f G D
theorem a_7 (M : ModOk P w K mg base bltsAll true gMod) (H : Stand K mg "is_plain" "is_plain" s_is_plain) (G : GamOk P w K mg base 7 (gam T_7 U_0)) : GamOk P w K mg base 8 (gam T_8 U_0) := by
  obtain ⟨f, fd, F, hm⟩ := H.ex
  have rd : ∀ ds S Q, ds.length = 2 → e_is_plain ds S Q → evS (gam T_7 U_0) c_is_plain (endsD Q) (startD n_is_plain.length ds) S := (fun ds S Q h1 h2 => r_is_plain (by kernel_rfl) (by kernel_rfl) (by kernel_rfl) ds S Q h1 h2)
  have D := fnD_of (w := w) (ps := ["value", "many"]) (n := 2) F hm z_is_plain rfl (fun _ _ _ _ _ _ us hl => match us, hl with | [_, _], _ => rfl) M G k_is_plain rd
  exact gam_f G D
theorem a_8 (M : ModOk P w K mg base bltsAll true gMod) (H : Stand K mg "dot" "dot" s_dot) (G : GamOk P w K mg base 8 (gam T_8 U_0)) : GamOk P w K mg base 9 (gam T_9 U_0) := by
  obtain ⟨f, fd, F, hm⟩ := H.ex
  have rd : ∀ ds S Q, ds.length = 2 → e_dot ds S Q → evS (gam T_8 U_0) c_dot (endsD Q) (startD n_dot.length ds) S := (fun ds S Q h1 h2 => r_dot ds S Q h1 h2)
  have D := fnD_of (w := w) (ps := ["one", "two"]) (n := 2) F hm z_dot rfl (fun _ _ _ _ _ _ us hl => match us, hl with | [_, _], _ => rfl) M G k_dot rd
  exact gam_f G D
theorem a_9 (M : ModOk P w K mg base bltsAll true gMod) (H : Stand K mg "cross" "cross" s_cross) (G : GamOk P w K mg base 9 (gam T_9 U_0)) : GamOk P w K mg base 10 (gam T_10 U_0) := by
  obtain ⟨f, fd, F, hm⟩ := H.ex
  have rd : ∀ ds S Q, ds.length = 2 → e_cross ds S Q → evS (gam T_9 U_0) c_cross (endsD Q) (startD n_cross.length ds) S := (fun ds S Q h1 h2 => r_cross ds S Q h1 h2)
  have D := fnD_of (w := w) (ps := ["one", "two"]) (n := 2) F hm z_cross rfl (fun _ _ _ _ _ _ us hl => match us, hl with | [_, _], _ => rfl) M G k_cross rd
  exact gam_f G D
theorem a_10 (M : ModOk P w K mg base bltsAll true gMod) (H : Stand K mg "block" "block" s_block) (G : GamOk P w K mg base 10 (gam T_10 U_0)) : GamOk P w K mg base 11 (gam T_11 U_0) := by
  obtain ⟨f, fd, F, hm⟩ := H.ex
  have rd : ∀ ds S Q, ds.length = 3 → e_block ds S Q → evS (gam T_10 U_0) c_block (endsD Q) (startD n_block.length ds) S := (fun ds S Q h1 h2 => r_block (by kernel_rfl) (by kernel_rfl) ds S Q h1 h2)
  have D := fnD_of (w := w) (ps := ["one", "two", "three"]) (n := 3) F hm z_block rfl (fun _ _ _ _ _ _ us hl => match us, hl with | [_, _, _], _ => rfl) M G k_block rd
  exact gam_f G D
theorem a_11 (M : ModOk P w K mg base bltsAll true gMod) (H : Stand K mg "scaled" "scaled" s_scaled) (G : GamOk P w K mg base 11 (gam T_11 U_0)) : GamOk P w K mg base 12 (gam T_12 U_0) := by
  obtain ⟨f, fd, F, hm⟩ := H.ex
  have rd : ∀ ds S Q, ds.length = 2 → e_scaled ds S Q → evS (gam T_11 U_0) c_scaled (endsD Q) (startD n_scaled.length ds) S := (fun ds S Q h1 h2 => r_scaled ds S Q h1 h2)
  have D := fnD_of (w := w) (ps := ["triple", "number"]) (n := 2) F hm z_scaled rfl (fun _ _ _ _ _ _ us hl => match us, hl with | [_, _], _ => rfl) M G k_scaled rd
  exact gam_f G D
theorem a_12 (M : ModOk P w K mg base bltsAll true gMod) (H : Stand K mg "added" "added" s_added) (G : GamOk P w K mg base 12 (gam T_12 U_0)) : GamOk P w K mg base 13 (gam T_13 U_0) := by
  obtain ⟨f, fd, F, hm⟩ := H.ex
  have rd : ∀ ds S Q, ds.length = 2 → e_added ds S Q → evS (gam T_12 U_0) c_added (endsD Q) (startD n_added.length ds) S := (fun ds S Q h1 h2 => r_added ds S Q h1 h2)
  have D := fnD_of (w := w) (ps := ["one", "two"]) (n := 2) F hm z_added rfl (fun _ _ _ _ _ _ us hl => match us, hl with | [_, _], _ => rfl) M G k_added rd
  exact gam_f G D
theorem a_13 (M : ModOk P w K mg base bltsAll true gMod) (H : Stand K mg "table_times" "table_times" s_table_times) (G : GamOk P w K mg base 13 (gam T_13 U_0)) : GamOk P w K mg base 14 (gam T_14 U_0) := by
  obtain ⟨f, fd, F, hm⟩ := H.ex
  have rd : ∀ ds S Q, ds.length = 2 → e_times ds S Q → evS (gam T_13 U_0) c_table_times (endsD Q) (startD n_table_times.length ds) S := (fun ds S Q h1 h2 => r_times (by kernel_rfl) ds S Q h1 h2)
  have D := fnD_of (w := w) (ps := ["rows", "triple"]) (n := 2) F hm z_table_times rfl (fun _ _ _ _ _ _ us hl => match us, hl with | [_, _], _ => rfl) M G k_table_times rd
  exact gam_f G D
theorem a_14 (M : ModOk P w K mg base bltsAll true gMod) (H : Stand K mg "turned_table" "turned_table" s_turned_table) (G : GamOk P w K mg base 14 (gam T_14 U_0)) : GamOk P w K mg base 15 (gam T_15 U_0) := by
  obtain ⟨f, fd, F, hm⟩ := H.ex
  have rd : ∀ ds S Q, ds.length = 1 → e_trt ds S Q → evS (gam T_14 U_0) c_turned_table (endsD Q) (startD n_turned_table.length ds) S := (fun ds S Q h1 h2 => r_trt ds S Q h1 h2)
  have D := fnD_of (w := w) (ps := ["rows"]) (n := 1) F hm z_turned_table rfl (fun _ _ _ _ _ _ us hl => match us, hl with | [_], _ => rfl) M G k_turned_table rd
  exact gam_f G D
theorem a_15 (M : ModOk P w K mg base bltsAll true gMod) (H : Stand K mg "adjugate" "adjugate" s_adjugate) (G : GamOk P w K mg base 15 (gam T_15 U_0)) : GamOk P w K mg base 16 (gam T_16 U_0) := by
  obtain ⟨f, fd, F, hm⟩ := H.ex
  have rd : ∀ ds S Q, ds.length = 1 → e_adj ds S Q → evS (gam T_15 U_0) c_adjugate (endsD Q) (startD n_adjugate.length ds) S := (fun ds S Q h1 h2 => r_adj (by kernel_rfl) (by kernel_rfl) ds S Q h1 h2)
  have D := fnD_of (w := w) (ps := ["rows"]) (n := 1) F hm z_adjugate rfl (fun _ _ _ _ _ _ us hl => match us, hl with | [_], _ => rfl) M G k_adjugate rd
  exact gam_f G D
theorem a_16 (M : ModOk P w K mg base bltsAll true gMod) (H : Stand K mg "table_of" "table_of" s_table_of) (G : GamOk P w K mg base 16 (gam T_16 U_0)) : GamOk P w K mg base 17 (gam T_17 U_0) := by
  obtain ⟨f, fd, F, hm⟩ := H.ex
  have rd : ∀ ds S Q, ds.length = 2 → e_table_of ds S Q → evS (gam T_16 U_0) c_table_of (endsD Q) (startD n_table_of.length ds) S := (fun ds S Q h1 h2 => r_table_of (by kernel_rfl) (by kernel_rfl) ds S Q h1 h2)
  have D := fnD_of (w := w) (ps := ["rows", "other"]) (n := 2) F hm z_table_of rfl (fun _ _ _ _ _ _ us hl => match us, hl with | [_, _], _ => rfl) M G k_table_of rd
  exact gam_f G D
theorem a_17 (M : ModOk P w K mg base bltsAll true gMod) (H : Stand K mg "is_triple" "is_triple" s_is_triple) (G : GamOk P w K mg base 17 (gam T_17 U_0)) : GamOk P w K mg base 18 (gam T_18 U_0) := by
  obtain ⟨f, fd, F, hm⟩ := H.ex
  have rd : ∀ ds S Q, ds.length = 1 → e_is_triple ds S Q → evS (gam T_17 U_0) c_is_triple (endsD Q) (startD n_is_triple.length ds) S := (fun ds S Q h1 h2 => r_is_triple (by kernel_rfl) ds S Q h1 h2)
  have D := fnD_of (w := w) (ps := ["value"]) (n := 1) F hm z_is_triple rfl (fun _ _ _ _ _ _ us hl => match us, hl with | [_], _ => rfl) M G k_is_triple rd
  exact gam_f G D
theorem a_18 (M : ModOk P w K mg base bltsAll true gMod) (H : Stand K mg "is_view_of" "is_view_of" s_is_view_of) (G : GamOk P w K mg base 18 (gam T_18 U_0)) : GamOk P w K mg base 19 (gam T_19 U_0) := by
  obtain ⟨f, fd, F, hm⟩ := H.ex
  have rd : ∀ ds S Q, ds.length = 1 → e_is_view ds S Q → evS (gam T_18 U_0) c_is_view_of (endsD Q) (startD n_is_view_of.length ds) S := (fun ds S Q h1 h2 => r_is_view_of (by kernel_rfl) (by kernel_rfl) (by kernel_rfl) (by kernel_rfl) ds S Q h1 h2)
  have D := fnD_of (w := w) (ps := ["value"]) (n := 1) F hm z_is_view_of rfl (fun _ _ _ _ _ _ us hl => match us, hl with | [_], _ => rfl) M G k_is_view_of rd
  exact gam_f G D
theorem a_19 (M : ModOk P w K mg base bltsAll true gMod) (H : Stand K mg "check_point" "check_point" s_check_point) (G : GamOk P w K mg base 19 (gam T_19 U_0)) : GamOk P w K mg base 20 (gam T_20 U_0) := by
  obtain ⟨f, fd, F, hm⟩ := H.ex
  have rd : ∀ ds S Q, ds.length = 1 → e_check3 ds S Q → evS (gam T_19 U_0) c_check_point (endsD Q) (startD n_check_point.length ds) S := (fun ds S Q h1 h2 => r_check_point (by kernel_rfl) ds S Q h1 h2)
  have D := fnD_of (w := w) (ps := ["point"]) (n := 1) F hm z_check_point rfl (fun _ _ _ _ _ _ us hl => match us, hl with | [_], _ => rfl) M G k_check_point rd
  exact gam_f G D
theorem a_20 (M : ModOk P w K mg base bltsAll true gMod) (H : Stand K mg "check_view" "check_view" s_check_view) (G : GamOk P w K mg base 20 (gam T_20 U_0)) : GamOk P w K mg base 21 (gam T_21 U_0) := by
  obtain ⟨f, fd, F, hm⟩ := H.ex
  have rd : ∀ ds S Q, ds.length = 1 → e_check_view ds S Q → evS (gam T_20 U_0) c_check_view (endsD Q) (startD n_check_view.length ds) S := (fun ds S Q h1 h2 => r_check_view (by kernel_rfl) ds S Q h1 h2)
  have D := fnD_of (w := w) (ps := ["view"]) (n := 1) F hm z_check_view rfl (fun _ _ _ _ _ _ us hl => match us, hl with | [_], _ => rfl) M G k_check_view rd
  exact gam_f G D
theorem a_21 (M : ModOk P w K mg base bltsAll true gMod) (H : Stand K mg "table_by" "table_by" s_table_by) (G : GamOk P w K mg base 21 (gam T_21 U_0)) : GamOk P w K mg base 22 (gam T_22 U_0) := by
  obtain ⟨f, fd, F, hm⟩ := H.ex
  have rd : ∀ ds S Q, ds.length = 1 → e_table_by ds S Q → evS (gam T_21 U_0) c_table_by (endsD Q) (startD n_table_by.length ds) S := (fun ds S Q h1 h2 => r_table_by ds S Q h1 h2)
  have D := fnD_of (w := w) (ps := ["curve"]) (n := 1) F hm z_table_by rfl (fun _ _ _ _ _ _ us hl => match us, hl with | [_], _ => rfl) M G k_table_by rd
  exact gam_f G D
theorem a_22 (M : ModOk P w K mg base bltsAll true gMod) (H : Stand K mg "curve_of_table" "curve_of_table" s_curve_of_table) (G : GamOk P w K mg base 22 (gam T_22 U_0)) : GamOk P w K mg base 23 (gam T_23 U_0) := by
  obtain ⟨f, fd, F, hm⟩ := H.ex
  have rd : ∀ ds S Q, ds.length = 1 → e_curve_of_table ds S Q → evS (gam T_22 U_0) c_curve_of_table (endsD Q) (startD n_curve_of_table.length ds) S := (fun ds S Q h1 h2 => r_curve_of_table (by kernel_rfl) ds S Q h1 h2)
  have D := fnD_of (w := w) (ps := ["table"]) (n := 1) F hm z_curve_of_table rfl (fun _ _ _ _ _ _ us hl => match us, hl with | [_], _ => rfl) M G k_curve_of_table rd
  exact gam_f G D
theorem a_23 (M : ModOk P w K mg base bltsAll true gMod) (H : Stand K mg "is_full_by" "is_full_by" s_is_full_by) (G : GamOk P w K mg base 23 (gam T_23 U_0)) : GamOk P w K mg base 24 (gam T_24 U_0) := by
  obtain ⟨f, fd, F, hm⟩ := H.ex
  have rd : ∀ ds S Q, ds.length = 1 → e_is_full ds S Q → evS (gam T_23 U_0) c_is_full_by (endsD Q) (startD n_is_full_by.length ds) S := (fun ds S Q h1 h2 => r_is_full (by kernel_rfl) (by kernel_rfl) ds S Q h1 h2)
  have D := fnD_of (w := w) (ps := ["curve"]) (n := 1) F hm z_is_full_by rfl (fun _ _ _ _ _ _ us hl => match us, hl with | [_], _ => rfl) M G k_is_full_by rd
  exact gam_f G D
theorem a_24 (M : ModOk P w K mg base bltsAll true gMod) (H : Stand K mg "products_of" "products_of" s_products_of) (G : GamOk P w K mg base 24 (gam T_24 U_0)) : GamOk P w K mg base 25 (gam T_25 U_0) := by
  obtain ⟨f, fd, F, hm⟩ := H.ex
  have rd : ∀ ds S Q, ds.length = 1 → e_products ds S Q → evS (gam T_24 U_0) c_products_of (endsD Q) (startD n_products_of.length ds) S := (fun ds S Q h1 h2 => r_products ds S Q h1 h2)
  have D := fnD_of (w := w) (ps := ["point"]) (n := 1) F hm z_products_of rfl (fun _ _ _ _ _ _ us hl => match us, hl with | [_], _ => rfl) M G k_products_of rd
  exact gam_f G D
theorem a_25 (M : ModOk P w K mg base bltsAll true gMod) (H : Stand K mg "value_by_curvework" "value_by" s_value_by) (G : GamOk P w K mg base 25 (gam T_25 U_0)) : GamOk P w K mg base 26 (gam T_26 U_0) := by
  obtain ⟨f, fd, F, hm⟩ := H.ex
  have rd : ∀ ds S Q, ds.length = 2 → e_value ds S Q → evS (gam T_25 U_0) c_value_by (endsD Q) (startD n_value_by.length ds) S := (fun ds S Q h1 h2 => r_value (by kernel_rfl) (by kernel_rfl) ds S Q h1 h2)
  have D := fnD_of (w := w) (ps := ["curve", "point"]) (n := 2) F hm z_value_by rfl (fun _ _ _ _ _ _ us hl => match us, hl with | [_, _], _ => rfl) M G k_value_by rd
  exact gam_f G D
theorem a_26 (M : ModOk P w K mg base bltsAll true gMod) (H : Stand K mg "is_on_by" "is_on_by" s_is_on_by) (G : GamOk P w K mg base 26 (gam T_26 U_0)) : GamOk P w K mg base 27 (gam T_27 U_0) := by
  obtain ⟨f, fd, F, hm⟩ := H.ex
  have rd : ∀ ds S Q, ds.length = 2 → e_is_on ds S Q → evS (gam T_26 U_0) c_is_on_by (endsD Q) (startD n_is_on_by.length ds) S := (fun ds S Q h1 h2 => r_is_on (by kernel_rfl) ds S Q h1 h2)
  have D := fnD_of (w := w) (ps := ["curve", "point"]) (n := 2) F hm z_is_on_by rfl (fun _ _ _ _ _ _ us hl => match us, hl with | [_, _], _ => rfl) M G k_is_on_by rd
  exact gam_f G D
theorem a_27 (M : ModOk P w K mg base bltsAll true gMod) (H : Stand K mg "polar_by" "polar_by" s_polar_by) (G : GamOk P w K mg base 27 (gam T_27 U_0)) : GamOk P w K mg base 28 (gam T_28 U_0) := by
  obtain ⟨f, fd, F, hm⟩ := H.ex
  have rd : ∀ ds S Q, ds.length = 2 → e_polar_by ds S Q → evS (gam T_27 U_0) c_polar_by (endsD Q) (startD n_polar_by.length ds) S := (fun ds S Q h1 h2 => r_polar_by (by kernel_rfl) (by kernel_rfl) (by kernel_rfl) ds S Q h1 h2)
  have D := fnD_of (w := w) (ps := ["curve", "point"]) (n := 2) F hm z_polar_by rfl (fun _ _ _ _ _ _ us hl => match us, hl with | [_, _], _ => rfl) M G k_polar_by rd
  exact gam_f G D
theorem a_28 (M : ModOk P w K mg base bltsAll true gMod) (H : Stand K mg "turned_by" "turned_by" s_turned_by) (G : GamOk P w K mg base 28 (gam T_28 U_0)) : GamOk P w K mg base 29 (gam T_29 U_0) := by
  obtain ⟨f, fd, F, hm⟩ := H.ex
  have rd : ∀ ds S Q, ds.length = 2 → e_turned ds S Q → evS (gam T_28 U_0) c_turned_by (endsD Q) (startD n_turned_by.length ds) S := (fun ds S Q h1 h2 => r_turned_by (by kernel_rfl) (by kernel_rfl) (by kernel_rfl) (by kernel_rfl) (by kernel_rfl) ds S Q h1 h2)
  have D := fnD_of (w := w) (ps := ["view", "curve"]) (n := 2) F hm z_turned_by rfl (fun _ _ _ _ _ _ us hl => match us, hl with | [_, _], _ => rfl) M G k_turned_by rd
  exact gam_f G D
theorem a_29 (M : ModOk P w K mg base bltsAll true gMod) (H : Stand K mg "is_curve_of" "is_curve_of" s_is_curve_of) (G : GamOk P w K mg base 29 (gam T_29 U_0)) : GamOk P w K mg base 30 (gam T_30 U_0) := by
  obtain ⟨f, fd, F, hm⟩ := H.ex
  have rd : ∀ ds S Q, ds.length = 1 → e_is_curve ds S Q → evS (gam T_29 U_0) c_is_curve_of (endsD Q) (startD n_is_curve_of.length ds) S := (fun ds S Q h1 h2 => r_is_curve (by kernel_rfl) (by kernel_rfl) ds S Q h1 h2)
  have D := fnD_of (w := w) (ps := ["value"]) (n := 1) F hm z_is_curve_of rfl (fun _ _ _ _ _ _ us hl => match us, hl with | [_], _ => rfl) M G k_is_curve_of rd
  exact gam_f G D
theorem a_30 (M : ModOk P w K mg base bltsAll true gMod) (H : Stand K mg "check_curve" "check_curve" s_check_curve) (G : GamOk P w K mg base 30 (gam T_30 U_0)) : GamOk P w K mg base 31 (gam T_31 U_0) := by
  obtain ⟨f, fd, F, hm⟩ := H.ex
  have rd : ∀ ds S Q, ds.length = 1 → e_check_curve ds S Q → evS (gam T_30 U_0) c_check_curve (endsD Q) (startD n_check_curve.length ds) S := (fun ds S Q h1 h2 => r_check_curve (by kernel_rfl) ds S Q h1 h2)
  have D := fnD_of (w := w) (ps := ["curve"]) (n := 1) F hm z_check_curve rfl (fun _ _ _ _ _ _ us hl => match us, hl with | [_], _ => rfl) M G k_check_curve rd
  exact gam_f G D
theorem a_31 (M : ModOk P w K mg base bltsAll true gMod) (H : Stand K mg "value_by_curvepointwork" "value_by" s_value_by_2) (G : GamOk P w K mg base 31 (gam T_31 U_0)) : GamOk P w K mg base 32 (gam T_32 U_0) := by
  obtain ⟨f, fd, F, hm⟩ := H.ex
  have rd : ∀ ds S Q, ds.length = 2 → e_value ds S Q → evS (gam T_31 U_0) c_value_by_2 (endsD Q) (startD n_value_by_2.length ds) S := (fun ds S Q h1 h2 => r_value2 (by kernel_rfl) (by kernel_rfl) ds S Q h1 h2)
  have D := fnD_of (w := w) (ps := ["curve", "point"]) (n := 2) F hm z_value_by_2 rfl (fun _ _ _ _ _ _ us hl => match us, hl with | [_, _], _ => rfl) M G k_value_by_2 rd
  exact gam_f G D
theorem a_32 (M : ModOk P w K mg base bltsAll true gMod) (H : Stand K mg "other_on" "other_on" s_other_on) (G : GamOk P w K mg base 32 (gam T_32 U_0)) : GamOk P w K mg base 33 (gam T_33 U_0) := by
  obtain ⟨f, fd, F, hm⟩ := H.ex
  have rd : ∀ ds S Q, ds.length = 2 → e_other_on ds S Q → evS (gam T_32 U_0) c_other_on (endsD Q) (startD n_other_on.length ds) S := (fun ds S Q h1 h2 => r_other_on (by kernel_rfl) (by kernel_rfl) ds S Q h1 h2)
  have D := fnD_of (w := w) (ps := ["line", "point"]) (n := 2) F hm z_other_on rfl (fun _ _ _ _ _ _ us hl => match us, hl with | [_, _], _ => rfl) M G k_other_on rd
  exact gam_f G D
theorem a_33 (M : ModOk P w K mg base bltsAll true gMod) (H : Stand K mg "second_of" "second_of" s_second_of) (G : GamOk P w K mg base 33 (gam T_33 U_0)) : GamOk P w K mg base 34 (gam T_34 U_0) := by
  obtain ⟨f, fd, F, hm⟩ := H.ex
  have rd : ∀ ds S Q, ds.length = 3 → e_second_of ds S Q → evS (gam T_33 U_0) c_second_of (endsD Q) (startD n_second_of.length ds) S := (fun ds S Q h1 h2 => r_second_of (by kernel_rfl) (by kernel_rfl) (by kernel_rfl) (by kernel_rfl) ds S Q h1 h2)
  have D := fnD_of (w := w) (ps := ["curve", "point", "other"]) (n := 3) F hm z_second_of rfl (fun _ _ _ _ _ _ us hl => match us, hl with | [_, _, _], _ => rfl) M G k_second_of rd
  exact gam_f G D
theorem a_34 (M : ModOk P w K mg base bltsAll true gMod) (H : Stand K mg "second_by" "second_by" s_second_by) (G : GamOk P w K mg base 34 (gam T_34 U_0)) : GamOk P w K mg base 35 (gam T_35 U_0) := by
  obtain ⟨f, fd, F, hm⟩ := H.ex
  have rd : ∀ ds S Q, ds.length = 3 → e_second_by ds S Q → evS (gam T_34 U_0) c_second_by (endsD Q) (startD n_second_by.length ds) S := (fun ds S Q h1 h2 => r_second_by (by kernel_rfl) (by kernel_rfl) (by kernel_rfl) (by kernel_rfl) ds S Q h1 h2)
  have D := fnD_of (w := w) (ps := ["curve", "point", "line"]) (n := 3) F hm z_second_by rfl (fun _ _ _ _ _ _ us hl => match us, hl with | [_, _, _], _ => rfl) M G k_second_by rd
  exact gam_f G D
theorem a_35 (M : ModOk P w K mg base bltsAll true gMod) (H : Stand K mg "are_on_by" "are_on_by" s_are_on_by) (G : GamOk P w K mg base 35 (gam T_35 U_0)) : GamOk P w K mg base 36 (gam T_36 U_0) := by
  obtain ⟨f, fd, F, hm⟩ := H.ex
  have rd : ∀ ds S Q, ds.length = 2 → e_are_on ds S Q → evS (gam T_35 U_0) c_are_on_by (endsD Q) (startD n_are_on_by.length ds) S := (fun ds S Q h1 h2 => r_are_on (by kernel_rfl) ds S Q h1 h2)
  have D := fnD_of (w := w) (ps := ["curve", "points"]) (n := 2) F hm z_are_on_by rfl (fun _ _ _ _ _ _ us hl => match us, hl with | [_, _], _ => rfl) M G k_are_on_by rd
  exact gam_f G D
theorem a_36 (M : ModOk P w K mg base bltsAll true gMod) (H : Stand K mg "is_on_curve" "is_on_curve" s_is_on_curve) (G : GamOk P w K mg base 36 (gam T_36 U_0)) : GamOk P w K mg base 37 (gam T_37 U_0) := by
  obtain ⟨f, fd, F, hm⟩ := H.ex
  have rd : ∀ ds S Q, ds.length = 2 → e_on_curve ds S Q → evS (gam T_36 U_0) c_is_on_curve (endsD Q) (startD n_is_on_curve.length ds) S := (fun ds S Q h1 h2 => r_on_curve (by kernel_rfl) (by kernel_rfl) (by kernel_rfl) ds S Q h1 h2)
  have D := fnD_of (w := w) (ps := ["curve", "point"]) (n := 2) F hm z_is_on_curve rfl (fun _ _ _ _ _ _ us hl => match us, hl with | [_, _], _ => rfl) M G k_is_on_curve rd
  exact gam_f G D
theorem a_37 (M : ModOk P w K mg base bltsAll true gMod) (H : Stand K mg "turned_curve" "turned_curve" s_turned_curve) (G : GamOk P w K mg base 37 (gam T_37 U_0)) : GamOk P w K mg base 38 (gam T_38 U_0) := by
  obtain ⟨f, fd, F, hm⟩ := H.ex
  have rd : ∀ ds S Q, ds.length = 2 → e_turned_curve ds S Q → evS (gam T_37 U_0) c_turned_curve (endsD Q) (startD n_turned_curve.length ds) S := (fun ds S Q h1 h2 => r_turned_curve (by kernel_rfl) (by kernel_rfl) (by kernel_rfl) ds S Q h1 h2)
  have D := fnD_of (w := w) (ps := ["view", "curve"]) (n := 2) F hm z_turned_curve rfl (fun _ _ _ _ _ _ us hl => match us, hl with | [_, _], _ => rfl) M G k_turned_curve rd
  exact gam_f G D
theorem a_38 (M : ModOk P w K mg base bltsAll true gMod) (H : Stand K mg "_law_pool" "_law_pool" s__law_pool) (G : GamOk P w K mg base 38 (gam T_38 U_0)) : GamOk P w K mg base 39 (gam T_39 U_0) := by
  obtain ⟨f, fd, F, hm⟩ := H.ex
  have rd : ∀ ds S Q, ds.length = 2 → e_pool ds S Q → evS (gam T_38 U_0) c__law_pool (endsD Q) (startD n__law_pool.length ds) S := (fun ds S Q h1 h2 => r_pool ds S Q h1 h2)
  have D := fnD_of (w := w) (ps := ["script", "lap"]) (n := 2) F hm z__law_pool rfl (fun _ _ _ _ _ _ us hl => match us, hl with | [_, _], _ => rfl) M G k__law_pool rd
  exact gam_f G D
theorem a_39 (M : ModOk P w K mg base bltsAll true gMod) (H : Stand K mg "_law_below" "_law_below" s__law_below) (G : GamOk P w K mg base 39 (gam T_39 U_0)) : GamOk P w K mg base 40 (gam T_40 U_0) := by
  obtain ⟨f, fd, F, hm⟩ := H.ex
  have rd : ∀ ds S Q, ds.length = 2 → e_draw ds S Q → evS (gam T_39 U_0) c__law_below (endsD Q) (startD n__law_below.length ds) S := (fun ds S Q h1 h2 => r_draw ds S Q h1 h2)
  have D := fnD_of (w := w) (ps := ["pool", "many"]) (n := 2) F hm z__law_below rfl (fun _ _ _ _ _ _ us hl => match us, hl with | [_, _], _ => rfl) M G k__law_below rd
  exact gam_f G D
theorem a_40 (M : ModOk P w K mg base bltsAll true gMod) (H : Stand K mg "_law_one" "_law_one" s__law_one) (G : GamOk P w K mg base 40 (gam T_40 U_0)) : GamOk P w K mg base 41 (gam T_41 U_0) := by
  obtain ⟨f, fd, F, hm⟩ := H.ex
  have rd : ∀ ds S Q, ds.length = 2 → e_oneT ds S Q → evS (gam T_40 U_0) c__law_one (endsD Q) (startD n__law_one.length ds) S := (fun ds S Q h1 h2 => r_oneT (by kernel_rfl) ds S Q h1 h2)
  have D := fnD_of (w := w) (ps := ["pool", "some"]) (n := 2) F hm z__law_one rfl (fun _ _ _ _ _ _ us hl => match us, hl with | [_, _], _ => rfl) M G k__law_one rd
  exact gam_f G D
theorem a_41 (M : ModOk P w K mg base bltsAll true gMod) (H : Stand K mg "_law_common" "_law_common" s__law_common) (G : GamOk P w K mg base 41 (gam T_41 U_0)) : GamOk P w K mg base 42 (gam T_42 U_0) := by
  obtain ⟨f, fd, F, hm⟩ := H.ex
  have rd : ∀ ds S Q, ds.length = 1 → e_common ds S Q → evS (gam T_41 U_0) c__law_common (endsD Q) (startD n__law_common.length ds) S := (fun ds S Q h1 h2 => r_common ds S Q h1 h2)
  have D := fnD_of (w := w) (ps := ["numbers"]) (n := 1) F hm z__law_common rfl (fun _ _ _ _ _ _ us hl => match us, hl with | [_], _ => rfl) M G k__law_common rd
  exact gam_f G D
theorem a_42 (M : ModOk P w K mg base bltsAll true gMod) (H : Stand K mg "_law_plain" "_law_plain" s__law_plain) (G : GamOk P w K mg base 42 (gam T_42 U_0)) : GamOk P w K mg base 43 (gam T_43 U_0) := by
  obtain ⟨f, fd, F, hm⟩ := H.ex
  have rd : ∀ ds S Q, ds.length = 1 → e_plain ds S Q → evS (gam T_42 U_0) c__law_plain (endsD Q) (startD n__law_plain.length ds) S := (fun ds S Q h1 h2 => r_law_plain (by kernel_rfl) ds S Q h1 h2)
  have D := fnD_of (w := w) (ps := ["numbers"]) (n := 1) F hm z__law_plain rfl (fun _ _ _ _ _ _ us hl => match us, hl with | [_], _ => rfl) M G k__law_plain rd
  exact gam_f G D
theorem a_43 (M : ModOk P w K mg base bltsAll true gMod) (H : Stand K mg "_law_cross" "_law_cross" s__law_cross) (G : GamOk P w K mg base 43 (gam T_43 U_0)) : GamOk P w K mg base 44 (gam T_44 U_0) := by
  obtain ⟨f, fd, F, hm⟩ := H.ex
  have rd : ∀ ds S Q, ds.length = 2 → e_cross ds S Q → evS (gam T_43 U_0) c__law_cross (endsD Q) (startD n__law_cross.length ds) S := (fun ds S Q h1 h2 => r_law_cross ds S Q h1 h2)
  have D := fnD_of (w := w) (ps := ["one", "two"]) (n := 2) F hm z__law_cross rfl (fun _ _ _ _ _ _ us hl => match us, hl with | [_, _], _ => rfl) M G k__law_cross rd
  exact gam_f G D
theorem a_44 (M : ModOk P w K mg base bltsAll true gMod) (H : Stand K mg "_law_dot" "_law_dot" s__law_dot) (G : GamOk P w K mg base 44 (gam T_44 U_0)) : GamOk P w K mg base 45 (gam T_45 U_0) := by
  obtain ⟨f, fd, F, hm⟩ := H.ex
  have rd : ∀ ds S Q, ds.length = 2 → e_dot ds S Q → evS (gam T_44 U_0) c__law_dot (endsD Q) (startD n__law_dot.length ds) S := (fun ds S Q h1 h2 => r_law_dot ds S Q h1 h2)
  have D := fnD_of (w := w) (ps := ["one", "two"]) (n := 2) F hm z__law_dot rfl (fun _ _ _ _ _ _ us hl => match us, hl with | [_, _], _ => rfl) M G k__law_dot rd
  exact gam_f G D
theorem a_45 (M : ModOk P w K mg base bltsAll true gMod) (H : Stand K mg "_law_block" "_law_block" s__law_block) (G : GamOk P w K mg base 45 (gam T_45 U_0)) : GamOk P w K mg base 46 (gam T_46 U_0) := by
  obtain ⟨f, fd, F, hm⟩ := H.ex
  have rd : ∀ ds S Q, ds.length = 3 → e_block ds S Q → evS (gam T_45 U_0) c__law_block (endsD Q) (startD n__law_block.length ds) S := (fun ds S Q h1 h2 => r_law_block (by kernel_rfl) (by kernel_rfl) ds S Q h1 h2)
  have D := fnD_of (w := w) (ps := ["one", "two", "three"]) (n := 3) F hm z__law_block rfl (fun _ _ _ _ _ _ us hl => match us, hl with | [_, _, _], _ => rfl) M G k__law_block rd
  exact gam_f G D
theorem a_46 (M : ModOk P w K mg base bltsAll true gMod) (H : Stand K mg "_law_times" "_law_times" s__law_times) (G : GamOk P w K mg base 46 (gam T_46 U_0)) : GamOk P w K mg base 47 (gam T_47 U_0) := by
  obtain ⟨f, fd, F, hm⟩ := H.ex
  have rd : ∀ ds S Q, ds.length = 2 → e_times ds S Q → evS (gam T_46 U_0) c__law_times (endsD Q) (startD n__law_times.length ds) S := (fun ds S Q h1 h2 => r_law_times (by kernel_rfl) ds S Q h1 h2)
  have D := fnD_of (w := w) (ps := ["rows", "point"]) (n := 2) F hm z__law_times rfl (fun _ _ _ _ _ _ us hl => match us, hl with | [_, _], _ => rfl) M G k__law_times rd
  exact gam_f G D
theorem a_47 (M : ModOk P w K mg base bltsAll true gMod) (H : Stand K mg "_law_point" "_law_point" s__law_point) (G : GamOk P w K mg base 47 (gam T_47 U_0)) : GamOk P w K mg base 48 (gam T_48 U_0) := by
  obtain ⟨f, fd, F, hm⟩ := H.ex
  have rd : ∀ ds S Q, ds.length = 2 → e_point ds S Q → evS (gam T_47 U_0) c__law_point (endsD Q) (startD n__law_point.length ds) S := (fun ds S Q h1 h2 => r_point (by kernel_rfl) (by kernel_rfl) ds S Q h1 h2)
  have D := fnD_of (w := w) (ps := ["pool", "wide"]) (n := 2) F hm z__law_point rfl (fun _ _ _ _ _ _ us hl => match us, hl with | [_, _], _ => rfl) M G k__law_point rd
  exact gam_f G D
theorem a_48 (M : ModOk P w K mg base bltsAll true gMod) (H : Stand K mg "_law_view" "_law_view" s__law_view) (G : GamOk P w K mg base 48 (gam T_48 U_0)) : GamOk P w K mg base 49 (gam T_49 U_0) := by
  obtain ⟨f, fd, F, hm⟩ := H.ex
  have rd : ∀ ds S Q, ds.length = 2 → e_view ds S Q → evS (gam T_48 U_0) c__law_view (endsD Q) (startD n__law_view.length ds) S := (fun ds S Q h1 h2 => r_view (by kernel_rfl) (by kernel_rfl) (by kernel_rfl) ds S Q h1 h2)
  have D := fnD_of (w := w) (ps := ["pool", "wide"]) (n := 2) F hm z__law_view rfl (fun _ _ _ _ _ _ us hl => match us, hl with | [_, _], _ => rfl) M G k__law_view rd
  exact gam_f G D
theorem a_49 (M : ModOk P w K mg base bltsAll true gMod) (H : Stand K mg "_law_turn" "_law_turn" s__law_turn) (G : GamOk P w K mg base 49 (gam T_49 U_0)) : GamOk P w K mg base 50 (gam T_50 U_0) := by
  obtain ⟨f, fd, F, hm⟩ := H.ex
  have rd : ∀ ds S Q, ds.length = 2 → e_turn ds S Q → evS (gam T_49 U_0) c__law_turn (endsD Q) (startD n__law_turn.length ds) S := (fun ds S Q h1 h2 => r_law_turn (by kernel_rfl) (by kernel_rfl) ds S Q h1 h2)
  have D := fnD_of (w := w) (ps := ["view_there", "point"]) (n := 2) F hm z__law_turn rfl (fun _ _ _ _ _ _ us hl => match us, hl with | [_, _], _ => rfl) M G k__law_turn rd
  exact gam_f G D
theorem a_50 (M : ModOk P w K mg base bltsAll true gMod) (H : Stand K mg "_law_adjugate" "_law_adjugate" s__law_adjugate) (G : GamOk P w K mg base 50 (gam T_50 U_0)) : GamOk P w K mg base 51 (gam T_51 U_0) := by
  obtain ⟨f, fd, F, hm⟩ := H.ex
  have rd : ∀ ds S Q, ds.length = 1 → e_adj ds S Q → evS (gam T_50 U_0) c__law_adjugate (endsD Q) (startD n__law_adjugate.length ds) S := (fun ds S Q h1 h2 => r_law_adj (by kernel_rfl) ds S Q h1 h2)
  have D := fnD_of (w := w) (ps := ["rows"]) (n := 1) F hm z__law_adjugate rfl (fun _ _ _ _ _ _ us hl => match us, hl with | [_], _ => rfl) M G k__law_adjugate rd
  exact gam_f G D
theorem a_51 (M : ModOk P w K mg base bltsAll true gMod) (H : Stand K mg "_law_table" "_law_table" s__law_table) (G : GamOk P w K mg base 51 (gam T_51 U_0)) : GamOk P w K mg base 52 (gam T_52 U_0) := by
  obtain ⟨f, fd, F, hm⟩ := H.ex
  have rd : ∀ ds S Q, ds.length = 1 → e_table_by ds S Q → evS (gam T_51 U_0) c__law_table (endsD Q) (startD n__law_table.length ds) S := (fun ds S Q h1 h2 => r_law_table ds S Q h1 h2)
  have D := fnD_of (w := w) (ps := ["curve"]) (n := 1) F hm z__law_table rfl (fun _ _ _ _ _ _ us hl => match us, hl with | [_], _ => rfl) M G k__law_table rd
  exact gam_f G D
theorem a_52 (M : ModOk P w K mg base bltsAll true gMod) (H : Stand K mg "_law_turned_curve" "_law_turned_curve" s__law_turned_curve) (G : GamOk P w K mg base 52 (gam T_52 U_0)) : GamOk P w K mg base 53 (gam T_53 U_0) := by
  obtain ⟨f, fd, F, hm⟩ := H.ex
  have rd : ∀ ds S Q, ds.length = 2 → e_turned ds S Q → evS (gam T_52 U_0) c__law_turned_curve (endsD Q) (startD n__law_turned_curve.length ds) S := (fun ds S Q h1 h2 => r_law_turned_curve (by kernel_rfl) (by kernel_rfl) (by kernel_rfl) (by kernel_rfl) (by kernel_rfl) ds S Q h1 h2)
  have D := fnD_of (w := w) (ps := ["view_there", "curve"]) (n := 2) F hm z__law_turned_curve rfl (fun _ _ _ _ _ _ us hl => match us, hl with | [_, _], _ => rfl) M G k__law_turned_curve rd
  exact gam_f G D
theorem a_53 (M : ModOk P w K mg base bltsAll true gMod) (H : Stand K mg "_law_round" "_law_round" s__law_round) (G : GamOk P w K mg base 53 (gam T_53 U_0)) : GamOk P w K mg base 54 (gam T_54 U_0) := by
  obtain ⟨f, fd, F, hm⟩ := H.ex
  have rd : ∀ ds S Q, ds.length = 3 → e_round ds S Q → evS (gam T_53 U_0) c__law_round (endsD Q) (startD n__law_round.length ds) S := (fun ds S Q h1 h2 => r_round (by kernel_rfl) (by kernel_rfl) (by kernel_rfl) (by kernel_rfl) (by kernel_rfl) ds S Q h1 h2)
  have D := fnD_of (w := w) (ps := ["pool", "many", "wide"]) (n := 3) F hm z__law_round rfl (fun _ _ _ _ _ _ us hl => match us, hl with | [_, _, _], _ => rfl) M G k__law_round rd
  exact gam_f G D
theorem a_54 (M : ModOk P w K mg base bltsAll true gMod) (H : Stand K mg "_law_same" "_law_same" s__law_same) (G : GamOk P w K mg base 54 (gam T_54 U_0)) : GamOk P w K mg base 55 (gam T_55 U_0) := by
  obtain ⟨f, fd, F, hm⟩ := H.ex
  have rd : ∀ ds S Q, ds.length = 2 → e_sameI ds S Q → evS (gam T_54 U_0) c__law_same (endsD Q) (startD n__law_same.length ds) S := (fun ds S Q h1 h2 => r_sameI ds S Q h1 h2)
  have D := fnD_of (w := w) (ps := ["told", "due"]) (n := 2) F hm z__law_same rfl (fun _ _ _ _ _ _ us hl => match us, hl with | [_, _], _ => rfl) M G k__law_same rd
  exact gam_f G D
theorem a_55 (M : ModOk P w K mg base bltsAll true gMod) (H : Stand K mg "_law_same" "_law_same" s__law_same) (G : GamOk P w K mg base 55 (gam T_55 U_0)) : GamOk P w K mg base 56 (gam T_56 U_0) := by
  obtain ⟨f, fd, F, hm⟩ := H.ex
  have rd : ∀ ds S Q, ds.length = 2 → e_s1 ds S Q → evS (gam T_55 U_0) c__law_same (endsD Q) (startD n__law_same.length ds) S := (fun ds S Q h1 h2 => r_sT (by kernel_rfl) ds S Q h1 h2)
  have D := fnD_of (w := w) (ps := ["told", "due"]) (n := 2) F hm z__law_same rfl (fun _ _ _ _ _ _ us hl => match us, hl with | [_, _], _ => rfl) M G k__law_same rd
  exact gam_f G D
theorem a_56 (M : ModOk P w K mg base bltsAll true gMod) (H : Stand K mg "_law_same" "_law_same" s__law_same) (G : GamOk P w K mg base 56 (gam T_56 U_0)) : GamOk P w K mg base 57 (gam T_57 U_0) := by
  obtain ⟨f, fd, F, hm⟩ := H.ex
  have rd : ∀ ds S Q, ds.length = 2 → e_s3 ds S Q → evS (gam T_56 U_0) c__law_same (endsD Q) (startD n__law_same.length ds) S := (fun ds S Q h1 h2 => r_s3 (by kernel_rfl) ds S Q h1 h2)
  have D := fnD_of (w := w) (ps := ["told", "due"]) (n := 2) F hm z__law_same rfl (fun _ _ _ _ _ _ us hl => match us, hl with | [_, _], _ => rfl) M G k__law_same rd
  exact gam_f G D
theorem a_57 (M : ModOk P w K mg base bltsAll true gMod) (H : Stand K mg "wrong_in_figure" "wrong_in_figure" s_wrong_in_figure) (G : GamOk P w K mg base 57 (gam T_57 U_0)) : GamOk P w K mg base 58 (gam T_58 U_0) := by
  obtain ⟨f, fd, F, hm⟩ := H.ex
  have rd : ∀ ds S Q, ds.length = 3 → e_wrong ds S Q → evS (gam T_57 U_0) c_wrong_in_figure (endsD Q) (startD n_wrong_in_figure.length ds) S := (fun ds S Q h1 h2 => r_wrong (by kernel_rfl) (by kernel_rfl) ds S Q h1 h2)
  have D := fnD_of (w := w) (ps := ["value", "low", "high"]) (n := 3) F hm z_wrong_in_figure rfl (fun _ _ _ _ _ _ us hl => match us, hl with | [_, _, _], _ => rfl) M G k_wrong_in_figure rd
  exact gam_f G D
theorem a_58 (M : ModOk P w K mg base bltsAll true gMod) (H : Stand K mg "check_figure" "check_figure" s_check_figure) (G : GamOk P w K mg base 58 (gam T_58 U_0)) : GamOk P w K mg base 59 (gam T_59 U_0) := by
  obtain ⟨f, fd, F, hm⟩ := H.ex
  have rd : ∀ ds S Q, ds.length = 3 → e_check_figure ds S Q → evS (gam T_58 U_0) c_check_figure (endsD Q) (startD n_check_figure.length ds) S := (fun ds S Q h1 h2 => r_check_figure (by kernel_rfl) ds S Q h1 h2)
  have D := fnD_of (w := w) (ps := ["figure", "low", "high"]) (n := 3) F hm z_check_figure rfl (fun _ _ _ _ _ _ us hl => match us, hl with | [_, _, _], _ => rfl) M G k_check_figure rd
  exact gam_f G D
theorem a_59 (M : ModOk P w K mg base bltsAll true gMod) (H : Stand K mg "check_full" "check_full" s_check_full) (G : GamOk P w K mg base 59 (gam T_59 U_0)) : GamOk P w K mg base 60 (gam T_60 U_0) := by
  obtain ⟨f, fd, F, hm⟩ := H.ex
  have rd : ∀ ds S Q, ds.length = 1 → e_check_full ds S Q → evS (gam T_59 U_0) c_check_full (endsD Q) (startD n_check_full.length ds) S := (fun ds S Q h1 h2 => r_check_full (by kernel_rfl) ds S Q h1 h2)
  have D := fnD_of (w := w) (ps := ["curve"]) (n := 1) F hm z_check_full rfl (fun _ _ _ _ _ _ us hl => match us, hl with | [_], _ => rfl) M G k_check_full rd
  exact gam_f G D
theorem a_60 (M : ModOk P w K mg base bltsAll true gMod) (H : Stand K mg "polar" "polar" s_polar) (G : GamOk P w K mg base 60 (gam T_60 U_0)) : GamOk P w K mg base 61 (gam T_61 U_0) := by
  obtain ⟨f, fd, F, hm⟩ := H.ex
  have rd : ∀ ds S Q, ds.length = 2 → e_polar ds S Q → evS (gam T_60 U_0) c_polar (endsD Q) (startD n_polar.length ds) S := (fun ds S Q h1 h2 => r_polar (by kernel_rfl) (by kernel_rfl) (by kernel_rfl) (by kernel_rfl) ds S Q h1 h2)
  have D := fnD_of (w := w) (ps := ["curve", "point"]) (n := 2) F hm z_polar rfl (fun _ _ _ _ _ _ us hl => match us, hl with | [_, _], _ => rfl) M G k_polar rd
  exact gam_f G D
theorem a_61 (M : ModOk P w K mg base bltsAll true gMod) (H : Stand K mg "mixed_curve" "mixed_curve" s_mixed_curve) (G : GamOk P w K mg base 61 (gam T_61 U_0)) : GamOk P w K mg base 62 (gam T_62 U_0) := by
  obtain ⟨f, fd, F, hm⟩ := H.ex
  have rd : ∀ ds S Q, ds.length = 4 → e_mixed ds S Q → evS (gam T_61 U_0) c_mixed_curve (endsD Q) (startD n_mixed_curve.length ds) S := (fun ds S Q h1 h2 => r_mixed (by kernel_rfl) ds S Q h1 h2)
  have D := fnD_of (w := w) (ps := ["curve", "other", "one", "two"]) (n := 4) F hm z_mixed_curve rfl (fun _ _ _ _ _ _ us hl => match us, hl with | [_, _, _, _], _ => rfl) M G k_mixed_curve rd
  exact gam_f G D
theorem a_62 (M : ModOk P w K mg base bltsAll true gMod) (H : Stand K mg "pencil_by" "pencil_by" s_pencil_by) (G : GamOk P w K mg base 62 (gam T_62 U_0)) : GamOk P w K mg base 63 (gam T_63 U_0) := by
  obtain ⟨f, fd, F, hm⟩ := H.ex
  have rd : ∀ ds S Q, ds.length = 3 → e_pencil ds S Q → evS (gam T_62 U_0) c_pencil_by (endsD Q) (startD n_pencil_by.length ds) S := (fun ds S Q h1 h2 => r_pencil (by kernel_rfl) (by kernel_rfl) ds S Q h1 h2)
  have D := fnD_of (w := w) (ps := ["curve", "other", "point"]) (n := 3) F hm z_pencil_by rfl (fun _ _ _ _ _ _ us hl => match us, hl with | [_, _, _], _ => rfl) M G k_pencil_by rd
  exact gam_f G D
theorem a_63 (M : ModOk P w K mg base bltsAll true gMod) (H : Stand K mg "beyond" "beyond" s_beyond) (G : GamOk P w K mg base 63 (gam T_63 U_0)) : GamOk P w K mg base 64 (gam T_64 U_0) := by
  obtain ⟨f, fd, F, hm⟩ := H.ex
  have rd : ∀ ds S Q, ds.length = 2 → e_beyond ds S Q → evS (gam T_63 U_0) c_beyond (endsD Q) (startD n_beyond.length ds) S := (fun ds S Q h1 h2 => r_beyond (by kernel_rfl) ds S Q h1 h2)
  have D := fnD_of (w := w) (ps := ["one", "two"]) (n := 2) F hm z_beyond rfl (fun _ _ _ _ _ _ us hl => match us, hl with | [_, _], _ => rfl) M G k_beyond rd
  exact gam_f G D
theorem a_64 (M : ModOk P w K mg base bltsAll true gMod) (H : Stand K mg "other_line" "other_line" s_other_line) (G : GamOk P w K mg base 64 (gam T_64 U_0)) : GamOk P w K mg base 65 (gam T_65 U_0) := by
  obtain ⟨f, fd, F, hm⟩ := H.ex
  have rd : ∀ ds S Q, ds.length = 2 → e_oline ds S Q → evS (gam T_64 U_0) c_other_line (endsD Q) (startD n_other_line.length ds) S := (fun ds S Q h1 h2 => r_oline (by kernel_rfl) ds S Q h1 h2)
  have D := fnD_of (w := w) (ps := ["curve", "line"]) (n := 2) F hm z_other_line rfl (fun _ _ _ _ _ _ us hl => match us, hl with | [_, _], _ => rfl) M G k_other_line rd
  exact gam_f G D
theorem a_65 (M : ModOk P w K mg base bltsAll true gMod) (H : Stand K mg "last_by" "last_by" s_last_by) (G : GamOk P w K mg base 65 (gam T_65 U_0)) : GamOk P w K mg base 66 (gam T_66 U_0) := by
  obtain ⟨f, fd, F, hm⟩ := H.ex
  have rd : ∀ ds S Q, ds.length = 3 → e_last ds S Q → evS (gam T_65 U_0) c_last_by (endsD Q) (startD n_last_by.length ds) S := (fun ds S Q h1 h2 => r_last (by kernel_rfl) (by kernel_rfl) (by kernel_rfl) (by kernel_rfl) (by kernel_rfl) (by kernel_rfl) ds S Q h1 h2)
  have D := fnD_of (w := w) (ps := ["curve", "other", "three"]) (n := 3) F hm z_last_by rfl (fun _ _ _ _ _ _ us hl => match us, hl with | [_, _, _], _ => rfl) M G k_last_by rd
  exact gam_f G D
theorem a_66 (M : ModOk P w K mg base bltsAll true gMod) (H : Stand K mg "check_two_curves" "check_two_curves" s_check_two_curves) (G : GamOk P w K mg base 66 (gam T_66 U_0)) : GamOk P w K mg base 67 (gam T_67 U_0) := by
  obtain ⟨f, fd, F, hm⟩ := H.ex
  have rd : ∀ ds S Q, ds.length = 2 → e_two ds S Q → evS (gam T_66 U_0) c_check_two_curves (endsD Q) (startD n_check_two_curves.length ds) S := (fun ds S Q h1 h2 => r_two (by kernel_rfl) ds S Q h1 h2)
  have D := fnD_of (w := w) (ps := ["curve", "other"]) (n := 2) F hm z_check_two_curves rfl (fun _ _ _ _ _ _ us hl => match us, hl with | [_, _], _ => rfl) M G k_check_two_curves rd
  exact gam_f G D
theorem a_67 (M : ModOk P w K mg base bltsAll true gMod) (H : Stand K mg "pencil_curve" "pencil_curve" s_pencil_curve) (G : GamOk P w K mg base 67 (gam T_67 U_0)) : GamOk P w K mg base 68 (gam T_68 U_1) := by
  obtain ⟨f, fd, F, hm⟩ := H.ex
  have rd : ∀ ds S Q, ds.length = 3 → e_pcurve ds S Q → evS (gam T_67 U_0) c_pencil_curve (endsD Q) (startD n_pencil_curve.length ds) S := (fun ds S Q h1 h2 => r_pcurve (by kernel_rfl) (by kernel_rfl) (by kernel_rfl) (by kernel_rfl) ds S Q h1 h2)
  have D := fnD_of (w := w) (ps := ["curve", "other", "point"]) (n := 3) F hm z_pencil_curve rfl (fun _ _ _ _ _ _ us hl => match us, hl with | [_, _, _], _ => rfl) M G k_pencil_curve rd
  have E := fnK_of (w := w) (ps := ["curve", "other", "point"]) (n := 3) (ks := ["point", "other", "curve"]) (perm := [2, 1, 0]) F hm z_pencil_curve rfl (by decide) (fun _ _ _ _ _ _ ws hl => match ws, hl with | [_, _, _], _ => rfl) M G k_pencil_curve rd
  exact gam_k (gam_f G D) E
theorem a_68 (M : ModOk P w K mg base bltsAll true gMod) (H : Stand K mg "last_common" "last_common" s_last_common) (G : GamOk P w K mg base 68 (gam T_68 U_1)) : GamOk P w K mg base 69 (gam T_69 U_2) := by
  obtain ⟨f, fd, F, hm⟩ := H.ex
  have rd : ∀ ds S Q, ds.length = 3 → e_last ds S Q → evS (gam T_68 U_1) c_last_common (endsD Q) (startD n_last_common.length ds) S := (fun ds S Q h1 h2 => r_lcommon (by kernel_rfl) (by kernel_rfl) (by kernel_rfl) (by kernel_rfl) (by kernel_rfl) ds S Q h1 h2)
  have D := fnD_of (w := w) (ps := ["curve", "other", "three"]) (n := 3) F hm z_last_common rfl (fun _ _ _ _ _ _ us hl => match us, hl with | [_, _, _], _ => rfl) M G k_last_common rd
  have E := fnK_of (w := w) (ps := ["curve", "other", "three"]) (n := 3) (ks := ["three", "other", "curve"]) (perm := [2, 1, 0]) F hm z_last_common rfl (by decide) (fun _ _ _ _ _ _ ws hl => match ws, hl with | [_, _, _], _ => rfl) M G k_last_common rd
  exact gam_k (gam_f G D) E
theorem a_69 (M : ModOk P w K mg base bltsAll true gMod) (H : Stand K mg "cross" "cross" s_cross) (G : GamOk P w K mg base 69 (gam T_69 U_2)) : GamOk P w K mg base 70 (gam T_70 U_2) := by
  obtain ⟨f, fd, F, hm⟩ := H.ex
  have rd : ∀ ds S Q, ds.length = 2 → e_crossL ds S Q → evS (gam T_69 U_2) c_cross (endsD Q) (startD n_cross.length ds) S := (fun ds S Q h1 h2 => r_crossL ds S Q h1 h2)
  have D := fnD_of (w := w) (ps := ["one", "two"]) (n := 2) F hm z_cross rfl (fun _ _ _ _ _ _ us hl => match us, hl with | [_, _], _ => rfl) M G k_cross rd
  exact gam_f G D
theorem a_70 (M : ModOk P w K mg base bltsAll true gMod) (H : Stand K mg "minors_of" "minors_of" s_minors_of) (G : GamOk P w K mg base 70 (gam T_70 U_2)) : GamOk P w K mg base 71 (gam T_71 U_2) := by
  obtain ⟨f, fd, F, hm⟩ := H.ex
  have rd : ∀ ds S Q, ds.length = 2 → e_minors ds S Q → evS (gam T_70 U_2) c_minors_of (endsD Q) (startD n_minors_of.length ds) S := (fun ds S Q h1 h2 => r_minors (by kernel_rfl) ds S Q h1 h2)
  have D := fnD_of (w := w) (ps := ["rows", "places"]) (n := 2) F hm z_minors_of rfl (fun _ _ _ _ _ _ us hl => match us, hl with | [_, _], _ => rfl) M G k_minors_of rd
  exact gam_f G D
theorem a_71 (M : ModOk P w K mg base bltsAll true gMod) (H : Stand K mg "are_dependent" "are_dependent" s_are_dependent) (G : GamOk P w K mg base 71 (gam T_71 U_2)) : GamOk P w K mg base 72 (gam T_72 U_2) := by
  obtain ⟨f, fd, F, hm⟩ := H.ex
  have rd : ∀ ds S Q, ds.length = 1 → e_dep ds S Q → evS (gam T_71 U_2) c_are_dependent (endsD Q) (startD n_are_dependent.length ds) S := (fun ds S Q h1 h2 => r_dep (by kernel_rfl) (by kernel_rfl) ds S Q h1 h2)
  have D := fnD_of (w := w) (ps := ["rows"]) (n := 1) F hm z_are_dependent rfl (fun _ _ _ _ _ _ us hl => match us, hl with | [_], _ => rfl) M G k_are_dependent rd
  exact gam_f G D
theorem a_72 (M : ModOk P w K mg base bltsAll true gMod) (H : Stand K mg "are_in_pencil" "are_in_pencil" s_are_in_pencil) (G : GamOk P w K mg base 72 (gam T_72 U_2)) : GamOk P w K mg base 73 (gam T_73 U_3) := by
  obtain ⟨f, fd, F, hm⟩ := H.ex
  have rd : ∀ ds S Q, ds.length = 3 → e_inp ds S Q → evS (gam T_72 U_2) c_are_in_pencil (endsD Q) (startD n_are_in_pencil.length ds) S := (fun ds S Q h1 h2 => r_inp' (by kernel_rfl) (by kernel_rfl) (by kernel_rfl) ds S Q h1 h2)
  have D := fnD_of (w := w) (ps := ["curve", "other", "third"]) (n := 3) F hm z_are_in_pencil rfl (fun _ _ _ _ _ _ us hl => match us, hl with | [_, _, _], _ => rfl) M G k_are_in_pencil rd
  have E := fnK_of (w := w) (ps := ["curve", "other", "third"]) (n := 3) (ks := ["third", "other", "curve"]) (perm := [2, 1, 0]) F hm z_are_in_pencil rfl (by decide) (fun _ _ _ _ _ _ ws hl => match ws, hl with | [_, _, _], _ => rfl) M G k_are_in_pencil rd
  exact gam_k (gam_f G D) E
theorem a_73 (M : ModOk P w K mg base bltsAll true gMod) (H : Stand K mg "_law_value" "_law_value" s__law_value) (G : GamOk P w K mg base 73 (gam T_73 U_3)) : GamOk P w K mg base 74 (gam T_74 U_3) := by
  obtain ⟨f, fd, F, hm⟩ := H.ex
  have rd : ∀ ds S Q, ds.length = 2 → e_value ds S Q → evS (gam T_73 U_3) c__law_value (endsD Q) (startD n__law_value.length ds) S := (fun ds S Q h1 h2 => r_law_value (by kernel_rfl) ds S Q h1 h2)
  have D := fnD_of (w := w) (ps := ["curve", "point"]) (n := 2) F hm z__law_value rfl (fun _ _ _ _ _ _ us hl => match us, hl with | [_, _], _ => rfl) M G k__law_value rd
  exact gam_f G D
theorem a_74 (M : ModOk P w K mg base bltsAll true gMod) (H : Stand K mg "_law_is_full" "_law_is_full" s__law_is_full) (G : GamOk P w K mg base 74 (gam T_74 U_3)) : GamOk P w K mg base 75 (gam T_75 U_3) := by
  obtain ⟨f, fd, F, hm⟩ := H.ex
  have rd : ∀ ds S Q, ds.length = 1 → e_lfull ds S Q → evS (gam T_74 U_3) c__law_is_full (endsD Q) (startD n__law_is_full.length ds) S := (fun ds S Q h1 h2 => r_lfull (by kernel_rfl) (by kernel_rfl) ds S Q h1 h2)
  have D := fnD_of (w := w) (ps := ["curve"]) (n := 1) F hm z__law_is_full rfl (fun _ _ _ _ _ _ us hl => match us, hl with | [_], _ => rfl) M G k__law_is_full rd
  exact gam_f G D
theorem a_75 (M : ModOk P w K mg base bltsAll true gMod) (H : Stand K mg "_law_lines" "_law_lines" s__law_lines) (G : GamOk P w K mg base 75 (gam T_75 U_3)) : GamOk P w K mg base 76 (gam T_76 U_3) := by
  obtain ⟨f, fd, F, hm⟩ := H.ex
  have rd : ∀ ds S Q, ds.length = 2 → e_lines ds S Q → evS (gam T_75 U_3) c__law_lines (endsD Q) (startD n__law_lines.length ds) S := (fun ds S Q h1 h2 => r_lines ds S Q h1 h2)
  have D := fnD_of (w := w) (ps := ["one", "two"]) (n := 2) F hm z__law_lines rfl (fun _ _ _ _ _ _ us hl => match us, hl with | [_, _], _ => rfl) M G k__law_lines rd
  exact gam_f G D
theorem a_76 (M : ModOk P w K mg base bltsAll true gMod) (H : Stand K mg "_law_curve" "_law_curve" s__law_curve) (G : GamOk P w K mg base 76 (gam T_76 U_3)) : GamOk P w K mg base 77 (gam T_77 U_3) := by
  obtain ⟨f, fd, F, hm⟩ := H.ex
  have rd : ∀ ds S Q, ds.length = 2 → e_lcurve ds S Q → evS (gam T_76 U_3) c__law_curve (endsD Q) (startD n__law_curve.length ds) S := (fun ds S Q h1 h2 => r_lcurve (by kernel_rfl) (by kernel_rfl) (by kernel_rfl) (by kernel_rfl) (by kernel_rfl) (by kernel_rfl) ds S Q h1 h2)
  have D := fnD_of (w := w) (ps := ["pool", "wide"]) (n := 2) F hm z__law_curve rfl (fun _ _ _ _ _ _ us hl => match us, hl with | [_, _], _ => rfl) M G k__law_curve rd
  exact gam_f G D
theorem a_77 (M : ModOk P w K mg base bltsAll true gMod) (H : Stand K mg "_law_is_mixed" "_law_is_mixed" s__law_is_mixed) (G : GamOk P w K mg base 77 (gam T_77 U_3)) : GamOk P w K mg base 78 (gam T_78 U_3) := by
  obtain ⟨f, fd, F, hm⟩ := H.ex
  have rd : ∀ ds S Q, ds.length = 3 → e_lmixed ds S Q → evS (gam T_77 U_3) c__law_is_mixed (endsD Q) (startD n__law_is_mixed.length ds) S := (fun ds S Q h1 h2 => r_mixed3 (by kernel_rfl) ds S Q h1 h2)
  have D := fnD_of (w := w) (ps := ["curve", "other", "third"]) (n := 3) F hm z__law_is_mixed rfl (fun _ _ _ _ _ _ us hl => match us, hl with | [_, _, _], _ => rfl) M G k__law_is_mixed rd
  exact gam_f G D
theorem a_78 (M : ModOk P w K mg base bltsAll true gMod) (H : Stand K mg "_law_pair" "_law_pair" s__law_pair) (G : GamOk P w K mg base 78 (gam T_78 U_3)) : GamOk P w K mg base 79 (gam T_79 U_3) := by
  obtain ⟨f, fd, F, hm⟩ := H.ex
  have rd : ∀ ds S Q, ds.length = 2 → e_pair ds S Q → evS (gam T_78 U_3) c__law_pair (endsD Q) (startD n__law_pair.length ds) S := (fun ds S Q h1 h2 => r_pair (by kernel_rfl) (by kernel_rfl) (by kernel_rfl) (by kernel_rfl) (by kernel_rfl) (by kernel_rfl) (by kernel_rfl) (by kernel_rfl) ds S Q h1 h2)
  have D := fnD_of (w := w) (ps := ["pool", "way"]) (n := 2) F hm z__law_pair rfl (fun _ _ _ _ _ _ us hl => match us, hl with | [_, _], _ => rfl) M G k__law_pair rd
  exact gam_f G D
theorem a_79 (M : ModOk P w K mg base bltsAll true gMod) (H : Stand K mg "_law_is_point_right" "_law_is_point_right" s__law_is_point_right) (G : GamOk P w K mg base 79 (gam T_79 U_3)) : GamOk P w K mg base 80 (gam T_80 U_3) := by
  obtain ⟨f, fd, F, hm⟩ := H.ex
  have rd : ∀ ds S Q, ds.length = 4 → e_ipr ds S Q → evS (gam T_79 U_3) c__law_is_point_right (endsD Q) (startD n__law_is_point_right.length ds) S := (fun ds S Q h1 h2 => r_ipr (show Fi78 (gam T_79 U_3) from ⟨by kernel_rfl, by kernel_rfl, by kernel_rfl, by kernel_rfl, by kernel_rfl, by kernel_rfl, by kernel_rfl, by kernel_rfl⟩) ds S Q h1 h2)
  have D := fnD_of (w := w) (ps := ["curve", "other", "point", "is_named"]) (n := 4) F hm z__law_is_point_right rfl (fun _ _ _ _ _ _ us hl => match us, hl with | [_, _, _, _], _ => rfl) M G k__law_is_point_right rd
  exact gam_f G D
theorem a_80 (M : ModOk P w K mg base bltsAll true gMod) (H : Stand K mg "_law_right" "_law_right" s__law_right) (G : GamOk P w K mg base 80 (gam T_80 U_3)) : GamOk P w K mg base 81 (gam T_81 U_3) := by
  obtain ⟨f, fd, F, hm⟩ := H.ex
  have rd : ∀ ds S Q, ds.length = 1 → e_right ds S Q → evS (gam T_80 U_3) c__law_right (endsD Q) (startD n__law_right.length ds) S := (fun ds S Q h1 h2 => r_right (show Fs78 (gam T_80 U_3) from ⟨by kernel_rfl, by kernel_rfl, by kernel_rfl, by kernel_rfl, by kernel_rfl, by kernel_rfl, by kernel_rfl, by kernel_rfl, by kernel_rfl, by kernel_rfl, by kernel_rfl, by kernel_rfl, by kernel_rfl, by kernel_rfl, by kernel_rfl⟩) ds S Q h1 h2)
  have D := fnD_of (w := w) (ps := ["pool"]) (n := 1) F hm z__law_right rfl (fun _ _ _ _ _ _ us hl => match us, hl with | [_], _ => rfl) M G k__law_right rd
  exact gam_f G D
end
end PyD

set_option Elab.async false
set_option linter.all false
set_option maxRecDepth 100000
set_option maxHeartbeats 4000000
namespace PyD
open PySem PySem.Spec PyProof.Rows L2

section
variable {w : World} {K : PySem.W.Frag} {h : Heap} {mg : Str → Option Value}
theorem modM {P : Program} {base : Heap} (X : K.In h) (G : h.Ns mainGlobals mg) (c : He.SaysX hfa hfn [] [] hexM w h K) : ModOk P w K mg base bltsAll true gMod := by
  have hx := c.more
  unfold hexM at hx
  have d := c.t.d
  refine ⟨fun y v e => ?_, fun y hy => ?_, fun _ => PySem.W.mg_of X G (of_decide_eq_true hx)⟩
  · unfold gMod at e
    split at e
    · rename_i ey; cases e; rw [ey]; obtain ⟨t, ht⟩ := He.int_ok X G (d.fact 99 (f := .int "SIZE" 6) rfl); exact ⟨.int _ t, .int _, ht, ⟨t, rfl⟩, fun _ _ => .int _⟩
    · cases e
  · simp only [bltsAll, List.mem_cons, List.not_mem_nil, or_false] at hy
    rcases hy with rfl | rfl | rfl | rfl | rfl | rfl | rfl | rfl | rfl | rfl | rfl | rfl | rfl | rfl | rfl | rfl | rfl | rfl | rfl | rfl
    · exact He.free_ok X G (d.fact 79 (f := .free "len") rfl)
    · exact He.free_ok X G (d.fact 80 (f := .free "int") rfl)
    · exact He.free_ok X G (d.fact 81 (f := .free "tuple") rfl)
    · exact He.free_ok X G (d.fact 82 (f := .free "all") rfl)
    · exact He.free_ok X G (d.fact 83 (f := .free "any") rfl)
    · exact He.free_ok X G (d.fact 84 (f := .free "list") rfl)
    · exact He.free_ok X G (d.fact 85 (f := .free "abs") rfl)
    · exact He.free_ok X G (d.fact 86 (f := .free "sum") rfl)
    · exact He.free_ok X G (d.fact 87 (f := .free "min") rfl)
    · exact He.free_ok X G (d.fact 88 (f := .free "max") rfl)
    · exact He.free_ok X G (d.fact 89 (f := .free "divmod") rfl)
    · exact He.free_ok X G (d.fact 90 (f := .free "range") rfl)
    · exact He.free_ok X G (d.fact 91 (f := .free "enumerate") rfl)
    · exact He.free_ok X G (d.fact 92 (f := .free "zip") rfl)
    · exact He.free_ok X G (d.fact 93 (f := .free "isinstance") rfl)
    · exact He.free_ok X G (d.fact 94 (f := .free "bool") rfl)
    · exact He.free_ok X G (d.fact 95 (f := .free "str") rfl)
    · exact He.free_ok X G (d.fact 96 (f := .free "sorted") rfl)
    · exact He.free_ok X G (d.fact 97 (f := .free "set") rfl)
    · exact He.free_ok X G (d.fact 98 (f := .free "dict") rfl)
theorem lawM (X : K.In h) (G : h.Ns mainGlobals mg) (c : He.SaysX hfa hfn [] [] hexM w h K) {f : Addr} (hf : mg "law" = some (.ref f)) {P : Program} :
    ∃ fd : FuncData, (∀ (s : Shared) (v : Value), BindsTo s fd ⟨[v], []⟩ [("script", v)]) ∧ ∀ base : Heap, K.In base → base.Ns mainGlobals mg → FnOk P w K mg base CX0 82 f fd ["script"] (liftSp K mg 1 e_lawD) := by
  have d := c.t.d
  have h_0 : Stand K mg "is_whole" "is_whole" s_is_whole := ⟨_, _, (d.def_ 0 (d := d_0) rfl).choose_spec, He.glo_ok X G (d.fact 0 (f := .glo "is_whole") rfl)⟩
  have h_1 : Stand K mg "is_tuple_up_to" "is_tuple_up_to" s_is_tuple_up_to := ⟨_, _, (d.def_ 1 (d := d_1) rfl).choose_spec, He.glo_ok X G (d.fact 1 (f := .glo "is_tuple_up_to") rfl)⟩
  have h_2 : Stand K mg "is_tuple_of" "is_tuple_of" s_is_tuple_of := ⟨_, _, (d.def_ 2 (d := d_2) rfl).choose_spec, He.glo_ok X G (d.fact 2 (f := .glo "is_tuple_of") rfl)⟩
  have h_3 : Stand K mg "are_whole" "are_whole" s_are_whole := ⟨_, _, (d.def_ 3 (d := d_3) rfl).choose_spec, He.glo_ok X G (d.fact 3 (f := .glo "are_whole") rfl)⟩
  have h_4 : Stand K mg "divisor_of" "divisor_of" s_divisor_of := ⟨_, _, (d.def_ 4 (d := d_4) rfl).choose_spec, He.glo_ok X G (d.fact 4 (f := .glo "divisor_of") rfl)⟩
  have h_5 : Stand K mg "first_live" "first_live" s_first_live := ⟨_, _, (d.def_ 5 (d := d_5) rfl).choose_spec, He.glo_ok X G (d.fact 5 (f := .glo "first_live") rfl)⟩
  have h_6 : Stand K mg "plain_of" "plain_of" s_plain_of := ⟨_, _, (d.def_ 6 (d := d_6) rfl).choose_spec, He.glo_ok X G (d.fact 6 (f := .glo "plain_of") rfl)⟩
  have h_7 : Stand K mg "is_plain" "is_plain" s_is_plain := ⟨_, _, (d.def_ 7 (d := d_7) rfl).choose_spec, He.glo_ok X G (d.fact 7 (f := .glo "is_plain") rfl)⟩
  have h_8 : Stand K mg "dot" "dot" s_dot := ⟨_, _, (d.def_ 8 (d := d_8) rfl).choose_spec, He.glo_ok X G (d.fact 8 (f := .glo "dot") rfl)⟩
  have h_9 : Stand K mg "cross" "cross" s_cross := ⟨_, _, (d.def_ 9 (d := d_9) rfl).choose_spec, He.glo_ok X G (d.fact 9 (f := .glo "cross") rfl)⟩
  have h_10 : Stand K mg "block" "block" s_block := ⟨_, _, (d.def_ 10 (d := d_10) rfl).choose_spec, He.glo_ok X G (d.fact 10 (f := .glo "block") rfl)⟩
  have h_11 : Stand K mg "scaled" "scaled" s_scaled := ⟨_, _, (d.def_ 11 (d := d_11) rfl).choose_spec, He.glo_ok X G (d.fact 11 (f := .glo "scaled") rfl)⟩
  have h_12 : Stand K mg "added" "added" s_added := ⟨_, _, (d.def_ 12 (d := d_12) rfl).choose_spec, He.glo_ok X G (d.fact 12 (f := .glo "added") rfl)⟩
  have h_13 : Stand K mg "table_times" "table_times" s_table_times := ⟨_, _, (d.def_ 13 (d := d_13) rfl).choose_spec, He.glo_ok X G (d.fact 13 (f := .glo "table_times") rfl)⟩
  have h_14 : Stand K mg "turned_table" "turned_table" s_turned_table := ⟨_, _, (d.def_ 14 (d := d_14) rfl).choose_spec, He.glo_ok X G (d.fact 14 (f := .glo "turned_table") rfl)⟩
  have h_15 : Stand K mg "adjugate" "adjugate" s_adjugate := ⟨_, _, (d.def_ 15 (d := d_15) rfl).choose_spec, He.glo_ok X G (d.fact 15 (f := .glo "adjugate") rfl)⟩
  have h_16 : Stand K mg "table_of" "table_of" s_table_of := ⟨_, _, (d.def_ 16 (d := d_16) rfl).choose_spec, He.glo_ok X G (d.fact 16 (f := .glo "table_of") rfl)⟩
  have h_17 : Stand K mg "is_triple" "is_triple" s_is_triple := ⟨_, _, (d.def_ 17 (d := d_17) rfl).choose_spec, He.glo_ok X G (d.fact 17 (f := .glo "is_triple") rfl)⟩
  have h_18 : Stand K mg "is_view_of" "is_view_of" s_is_view_of := ⟨_, _, (d.def_ 18 (d := d_18) rfl).choose_spec, He.glo_ok X G (d.fact 18 (f := .glo "is_view_of") rfl)⟩
  have h_19 : Stand K mg "check_point" "check_point" s_check_point := ⟨_, _, (d.def_ 19 (d := d_19) rfl).choose_spec, He.glo_ok X G (d.fact 19 (f := .glo "check_point") rfl)⟩
  have h_20 : Stand K mg "check_view" "check_view" s_check_view := ⟨_, _, (d.def_ 20 (d := d_20) rfl).choose_spec, He.glo_ok X G (d.fact 20 (f := .glo "check_view") rfl)⟩
  have h_21 : Stand K mg "table_by" "table_by" s_table_by := ⟨_, _, (d.def_ 21 (d := d_21) rfl).choose_spec, He.glo_ok X G (d.fact 21 (f := .glo "table_by") rfl)⟩
  have h_22 : Stand K mg "curve_of_table" "curve_of_table" s_curve_of_table := ⟨_, _, (d.def_ 22 (d := d_22) rfl).choose_spec, He.glo_ok X G (d.fact 22 (f := .glo "curve_of_table") rfl)⟩
  have h_23 : Stand K mg "is_full_by" "is_full_by" s_is_full_by := ⟨_, _, (d.def_ 23 (d := d_23) rfl).choose_spec, He.glo_ok X G (d.fact 23 (f := .glo "is_full_by") rfl)⟩
  have h_24 : Stand K mg "products_of" "products_of" s_products_of := ⟨_, _, (d.def_ 24 (d := d_24) rfl).choose_spec, He.glo_ok X G (d.fact 24 (f := .glo "products_of") rfl)⟩
  have h_25 : Stand K mg "value_by_curvework" "value_by" s_value_by := ⟨_, _, (d.def_ 25 (d := d_25) rfl).choose_spec, He.glo_ok X G (d.fact 25 (f := .glo "value_by_curvework") rfl)⟩
  have h_26 : Stand K mg "is_on_by" "is_on_by" s_is_on_by := ⟨_, _, (d.def_ 26 (d := d_26) rfl).choose_spec, He.glo_ok X G (d.fact 26 (f := .glo "is_on_by") rfl)⟩
  have h_27 : Stand K mg "polar_by" "polar_by" s_polar_by := ⟨_, _, (d.def_ 27 (d := d_27) rfl).choose_spec, He.glo_ok X G (d.fact 27 (f := .glo "polar_by") rfl)⟩
  have h_28 : Stand K mg "turned_by" "turned_by" s_turned_by := ⟨_, _, (d.def_ 28 (d := d_28) rfl).choose_spec, He.glo_ok X G (d.fact 28 (f := .glo "turned_by") rfl)⟩
  have h_29 : Stand K mg "is_curve_of" "is_curve_of" s_is_curve_of := ⟨_, _, (d.def_ 29 (d := d_29) rfl).choose_spec, He.glo_ok X G (d.fact 29 (f := .glo "is_curve_of") rfl)⟩
  have h_30 : Stand K mg "check_curve" "check_curve" s_check_curve := ⟨_, _, (d.def_ 30 (d := d_30) rfl).choose_spec, He.glo_ok X G (d.fact 30 (f := .glo "check_curve") rfl)⟩
  have h_31 : Stand K mg "value_by_curvepointwork" "value_by" s_value_by_2 := ⟨_, _, (d.def_ 31 (d := d_31) rfl).choose_spec, He.glo_ok X G (d.fact 31 (f := .glo "value_by_curvepointwork") rfl)⟩
  have h_32 : Stand K mg "other_on" "other_on" s_other_on := ⟨_, _, (d.def_ 32 (d := d_32) rfl).choose_spec, He.glo_ok X G (d.fact 32 (f := .glo "other_on") rfl)⟩
  have h_33 : Stand K mg "second_of" "second_of" s_second_of := ⟨_, _, (d.def_ 33 (d := d_33) rfl).choose_spec, He.glo_ok X G (d.fact 33 (f := .glo "second_of") rfl)⟩
  have h_34 : Stand K mg "second_by" "second_by" s_second_by := ⟨_, _, (d.def_ 34 (d := d_34) rfl).choose_spec, He.glo_ok X G (d.fact 34 (f := .glo "second_by") rfl)⟩
  have h_35 : Stand K mg "are_on_by" "are_on_by" s_are_on_by := ⟨_, _, (d.def_ 35 (d := d_35) rfl).choose_spec, He.glo_ok X G (d.fact 35 (f := .glo "are_on_by") rfl)⟩
  have h_36 : Stand K mg "is_on_curve" "is_on_curve" s_is_on_curve := ⟨_, _, (d.def_ 36 (d := d_36) rfl).choose_spec, He.glo_ok X G (d.fact 36 (f := .glo "is_on_curve") rfl)⟩
  have h_37 : Stand K mg "turned_curve" "turned_curve" s_turned_curve := ⟨_, _, (d.def_ 37 (d := d_37) rfl).choose_spec, He.glo_ok X G (d.fact 37 (f := .glo "turned_curve") rfl)⟩
  have h_38 : Stand K mg "_law_pool" "_law_pool" s__law_pool := ⟨_, _, (d.def_ 38 (d := d_38) rfl).choose_spec, He.glo_ok X G (d.fact 38 (f := .glo "_law_pool") rfl)⟩
  have h_39 : Stand K mg "_law_below" "_law_below" s__law_below := ⟨_, _, (d.def_ 39 (d := d_39) rfl).choose_spec, He.glo_ok X G (d.fact 39 (f := .glo "_law_below") rfl)⟩
  have h_40 : Stand K mg "_law_one" "_law_one" s__law_one := ⟨_, _, (d.def_ 40 (d := d_40) rfl).choose_spec, He.glo_ok X G (d.fact 40 (f := .glo "_law_one") rfl)⟩
  have h_41 : Stand K mg "_law_common" "_law_common" s__law_common := ⟨_, _, (d.def_ 41 (d := d_41) rfl).choose_spec, He.glo_ok X G (d.fact 41 (f := .glo "_law_common") rfl)⟩
  have h_42 : Stand K mg "_law_plain" "_law_plain" s__law_plain := ⟨_, _, (d.def_ 42 (d := d_42) rfl).choose_spec, He.glo_ok X G (d.fact 42 (f := .glo "_law_plain") rfl)⟩
  have h_43 : Stand K mg "_law_cross" "_law_cross" s__law_cross := ⟨_, _, (d.def_ 43 (d := d_43) rfl).choose_spec, He.glo_ok X G (d.fact 43 (f := .glo "_law_cross") rfl)⟩
  have h_44 : Stand K mg "_law_dot" "_law_dot" s__law_dot := ⟨_, _, (d.def_ 44 (d := d_44) rfl).choose_spec, He.glo_ok X G (d.fact 44 (f := .glo "_law_dot") rfl)⟩
  have h_45 : Stand K mg "_law_block" "_law_block" s__law_block := ⟨_, _, (d.def_ 45 (d := d_45) rfl).choose_spec, He.glo_ok X G (d.fact 45 (f := .glo "_law_block") rfl)⟩
  have h_46 : Stand K mg "_law_times" "_law_times" s__law_times := ⟨_, _, (d.def_ 46 (d := d_46) rfl).choose_spec, He.glo_ok X G (d.fact 46 (f := .glo "_law_times") rfl)⟩
  have h_47 : Stand K mg "_law_point" "_law_point" s__law_point := ⟨_, _, (d.def_ 47 (d := d_47) rfl).choose_spec, He.glo_ok X G (d.fact 47 (f := .glo "_law_point") rfl)⟩
  have h_48 : Stand K mg "_law_view" "_law_view" s__law_view := ⟨_, _, (d.def_ 48 (d := d_48) rfl).choose_spec, He.glo_ok X G (d.fact 48 (f := .glo "_law_view") rfl)⟩
  have h_49 : Stand K mg "_law_turn" "_law_turn" s__law_turn := ⟨_, _, (d.def_ 49 (d := d_49) rfl).choose_spec, He.glo_ok X G (d.fact 49 (f := .glo "_law_turn") rfl)⟩
  have h_50 : Stand K mg "_law_adjugate" "_law_adjugate" s__law_adjugate := ⟨_, _, (d.def_ 50 (d := d_50) rfl).choose_spec, He.glo_ok X G (d.fact 50 (f := .glo "_law_adjugate") rfl)⟩
  have h_51 : Stand K mg "_law_table" "_law_table" s__law_table := ⟨_, _, (d.def_ 51 (d := d_51) rfl).choose_spec, He.glo_ok X G (d.fact 51 (f := .glo "_law_table") rfl)⟩
  have h_52 : Stand K mg "_law_turned_curve" "_law_turned_curve" s__law_turned_curve := ⟨_, _, (d.def_ 52 (d := d_52) rfl).choose_spec, He.glo_ok X G (d.fact 52 (f := .glo "_law_turned_curve") rfl)⟩
  have h_53 : Stand K mg "_law_round" "_law_round" s__law_round := ⟨_, _, (d.def_ 53 (d := d_53) rfl).choose_spec, He.glo_ok X G (d.fact 53 (f := .glo "_law_round") rfl)⟩
  have h_54 : Stand K mg "_law_same" "_law_same" s__law_same := ⟨_, _, (d.def_ 54 (d := d_54) rfl).choose_spec, He.glo_ok X G (d.fact 54 (f := .glo "_law_same") rfl)⟩
  have h_55 : Stand K mg "wrong_in_figure" "wrong_in_figure" s_wrong_in_figure := ⟨_, _, (d.def_ 55 (d := d_55) rfl).choose_spec, He.glo_ok X G (d.fact 55 (f := .glo "wrong_in_figure") rfl)⟩
  have h_56 : Stand K mg "check_figure" "check_figure" s_check_figure := ⟨_, _, (d.def_ 56 (d := d_56) rfl).choose_spec, He.glo_ok X G (d.fact 56 (f := .glo "check_figure") rfl)⟩
  have h_57 : Stand K mg "check_full" "check_full" s_check_full := ⟨_, _, (d.def_ 57 (d := d_57) rfl).choose_spec, He.glo_ok X G (d.fact 57 (f := .glo "check_full") rfl)⟩
  have h_58 : Stand K mg "polar" "polar" s_polar := ⟨_, _, (d.def_ 58 (d := d_58) rfl).choose_spec, He.glo_ok X G (d.fact 58 (f := .glo "polar") rfl)⟩
  have h_59 : Stand K mg "mixed_curve" "mixed_curve" s_mixed_curve := ⟨_, _, (d.def_ 59 (d := d_59) rfl).choose_spec, He.glo_ok X G (d.fact 59 (f := .glo "mixed_curve") rfl)⟩
  have h_60 : Stand K mg "pencil_by" "pencil_by" s_pencil_by := ⟨_, _, (d.def_ 60 (d := d_60) rfl).choose_spec, He.glo_ok X G (d.fact 60 (f := .glo "pencil_by") rfl)⟩
  have h_61 : Stand K mg "beyond" "beyond" s_beyond := ⟨_, _, (d.def_ 61 (d := d_61) rfl).choose_spec, He.glo_ok X G (d.fact 61 (f := .glo "beyond") rfl)⟩
  have h_62 : Stand K mg "other_line" "other_line" s_other_line := ⟨_, _, (d.def_ 62 (d := d_62) rfl).choose_spec, He.glo_ok X G (d.fact 62 (f := .glo "other_line") rfl)⟩
  have h_63 : Stand K mg "last_by" "last_by" s_last_by := ⟨_, _, (d.def_ 63 (d := d_63) rfl).choose_spec, He.glo_ok X G (d.fact 63 (f := .glo "last_by") rfl)⟩
  have h_64 : Stand K mg "check_two_curves" "check_two_curves" s_check_two_curves := ⟨_, _, (d.def_ 64 (d := d_64) rfl).choose_spec, He.glo_ok X G (d.fact 64 (f := .glo "check_two_curves") rfl)⟩
  have h_65 : Stand K mg "pencil_curve" "pencil_curve" s_pencil_curve := ⟨_, _, (d.def_ 65 (d := d_65) rfl).choose_spec, He.glo_ok X G (d.fact 65 (f := .glo "pencil_curve") rfl)⟩
  have h_66 : Stand K mg "last_common" "last_common" s_last_common := ⟨_, _, (d.def_ 66 (d := d_66) rfl).choose_spec, He.glo_ok X G (d.fact 66 (f := .glo "last_common") rfl)⟩
  have h_67 : Stand K mg "minors_of" "minors_of" s_minors_of := ⟨_, _, (d.def_ 67 (d := d_67) rfl).choose_spec, He.glo_ok X G (d.fact 67 (f := .glo "minors_of") rfl)⟩
  have h_68 : Stand K mg "are_dependent" "are_dependent" s_are_dependent := ⟨_, _, (d.def_ 68 (d := d_68) rfl).choose_spec, He.glo_ok X G (d.fact 68 (f := .glo "are_dependent") rfl)⟩
  have h_69 : Stand K mg "are_in_pencil" "are_in_pencil" s_are_in_pencil := ⟨_, _, (d.def_ 69 (d := d_69) rfl).choose_spec, He.glo_ok X G (d.fact 69 (f := .glo "are_in_pencil") rfl)⟩
  have h_70 : Stand K mg "_law_value" "_law_value" s__law_value := ⟨_, _, (d.def_ 70 (d := d_70) rfl).choose_spec, He.glo_ok X G (d.fact 70 (f := .glo "_law_value") rfl)⟩
  have h_71 : Stand K mg "_law_is_full" "_law_is_full" s__law_is_full := ⟨_, _, (d.def_ 71 (d := d_71) rfl).choose_spec, He.glo_ok X G (d.fact 71 (f := .glo "_law_is_full") rfl)⟩
  have h_72 : Stand K mg "_law_lines" "_law_lines" s__law_lines := ⟨_, _, (d.def_ 72 (d := d_72) rfl).choose_spec, He.glo_ok X G (d.fact 72 (f := .glo "_law_lines") rfl)⟩
  have h_73 : Stand K mg "_law_curve" "_law_curve" s__law_curve := ⟨_, _, (d.def_ 73 (d := d_73) rfl).choose_spec, He.glo_ok X G (d.fact 73 (f := .glo "_law_curve") rfl)⟩
  have h_74 : Stand K mg "_law_is_mixed" "_law_is_mixed" s__law_is_mixed := ⟨_, _, (d.def_ 74 (d := d_74) rfl).choose_spec, He.glo_ok X G (d.fact 74 (f := .glo "_law_is_mixed") rfl)⟩
  have h_75 : Stand K mg "_law_pair" "_law_pair" s__law_pair := ⟨_, _, (d.def_ 75 (d := d_75) rfl).choose_spec, He.glo_ok X G (d.fact 75 (f := .glo "_law_pair") rfl)⟩
  have h_76 : Stand K mg "_law_is_point_right" "_law_is_point_right" s__law_is_point_right := ⟨_, _, (d.def_ 76 (d := d_76) rfl).choose_spec, He.glo_ok X G (d.fact 76 (f := .glo "_law_is_point_right") rfl)⟩
  have h_77 : Stand K mg "_law_right" "_law_right" s__law_right := ⟨_, _, (d.def_ 77 (d := d_77) rfl).choose_spec, He.glo_ok X G (d.fact 77 (f := .glo "_law_right") rfl)⟩
  obtain ⟨fd, F⟩ := d.def_ 78 (d := d_78) rfl
  have e := hf.symm.trans (He.glo_ok X G (d.fact 78 (f := .glo "law") rfl))
  cases e
  refine ⟨fd, fun s v => FunD.bindsA (ps := ["script"]) F (fun _ _ _ _ _ _ us hl => match us, hl with | [_], _ => rfl) s [v] rfl, fun base _ _ => ?_⟩
  have M : ModOk P w K mg base bltsAll true gMod := modM X G c
  have g0 : GamOk P w K mg base 0 (gam T_0 U_0) := gam_nil
  have g1 := a_0 M h_0 g0
  have g2 := a_1 M h_1 g1
  have g3 := a_2 M h_2 g2
  have g4 := a_3 M h_3 g3
  have g5 := a_4 M h_4 g4
  have g6 := a_5 M h_5 g5
  have g7 := a_6 M h_6 g6
  have g8 := a_7 M h_7 g7
  have g9 := a_8 M h_8 g8
  have g10 := a_9 M h_9 g9
  have g11 := a_10 M h_10 g10
  have g12 := a_11 M h_11 g11
  have g13 := a_12 M h_12 g12
  have g14 := a_13 M h_13 g13
  have g15 := a_14 M h_14 g14
  have g16 := a_15 M h_15 g15
  have g17 := a_16 M h_16 g16
  have g18 := a_17 M h_17 g17
  have g19 := a_18 M h_18 g18
  have g20 := a_19 M h_19 g19
  have g21 := a_20 M h_20 g20
  have g22 := a_21 M h_21 g21
  have g23 := a_22 M h_22 g22
  have g24 := a_23 M h_23 g23
  have g25 := a_24 M h_24 g24
  have g26 := a_25 M h_25 g25
  have g27 := a_26 M h_26 g26
  have g28 := a_27 M h_27 g27
  have g29 := a_28 M h_28 g28
  have g30 := a_29 M h_29 g29
  have g31 := a_30 M h_30 g30
  have g32 := a_31 M h_31 g31
  have g33 := a_32 M h_32 g32
  have g34 := a_33 M h_33 g33
  have g35 := a_34 M h_34 g34
  have g36 := a_35 M h_35 g35
  have g37 := a_36 M h_36 g36
  have g38 := a_37 M h_37 g37
  have g39 := a_38 M h_38 g38
  have g40 := a_39 M h_39 g39
  have g41 := a_40 M h_40 g40
  have g42 := a_41 M h_41 g41
  have g43 := a_42 M h_42 g42
  have g44 := a_43 M h_43 g43
  have g45 := a_44 M h_44 g44
  have g46 := a_45 M h_45 g45
  have g47 := a_46 M h_46 g46
  have g48 := a_47 M h_47 g47
  have g49 := a_48 M h_48 g48
  have g50 := a_49 M h_49 g49
  have g51 := a_50 M h_50 g50
  have g52 := a_51 M h_51 g51
  have g53 := a_52 M h_52 g52
  have g54 := a_53 M h_53 g53
  have g55 := a_54 M h_54 g54
  have g56 := a_55 M h_54 g55
  have g57 := a_56 M h_54 g56
  have g58 := a_57 M h_55 g57
  have g59 := a_58 M h_56 g58
  have g60 := a_59 M h_57 g59
  have g61 := a_60 M h_58 g60
  have g62 := a_61 M h_59 g61
  have g63 := a_62 M h_60 g62
  have g64 := a_63 M h_61 g63
  have g65 := a_64 M h_62 g64
  have g66 := a_65 M h_63 g65
  have g67 := a_66 M h_64 g66
  have g68 := a_67 M h_65 g67
  have g69 := a_68 M h_66 g68
  have g70 := a_69 M h_9 g69
  have g71 := a_70 M h_67 g70
  have g72 := a_71 M h_68 g71
  have g73 := a_72 M h_69 g72
  have g74 := a_73 M h_70 g73
  have g75 := a_74 M h_71 g74
  have g76 := a_75 M h_72 g75
  have g77 := a_76 M h_73 g76
  have g78 := a_77 M h_74 g77
  have g79 := a_78 M h_75 g78
  have g80 := a_79 M h_76 g79
  have g81 := a_80 M h_77 g80
  exact fn_def (ps := ["script"]) F z_law M g81 k_law (fun ds S Q h1 h2 => r_law (by kernel_rfl) (by kernel_rfl) ds S Q h1 h2)
theorem spM (H : Hp) (a : Addr) (ns : List Int) (hl : ns.length ≤ 63) (hO : Only H) (hS : SqL K H a (ns.map V.int)) : liftSp K mg 1 e_lawD [.ref a] H (fun v _ => v = .bl true) fun _ _ _ => False := by
  have hq : SqS K H a (ns.map V.int) := by
    rcases hS with (hs | hs) | hs
    · rcases hO a with e | ⟨o, xs, e⟩
      · rw [e] at hs; cases hs
      · rw [e] at hs; cases hs
    · exact .inl hs
    · exact .inr hs
  refine ⟨[.scr (ns.map D.int)], ⟨H, fun _ => False, fun _ => none⟩, fun d _ => d = .bl true, rfl, fun _ _ e => (by cases e), .cons (.scr hq (by simp) fun i u d h1 h2 => ?_) .nil, rfl, ⟨ns, rfl, hl, fun _ => rfl⟩, fun v d w' _ _ r e => ?_⟩
  · rw [List.getElem?_map] at h1 h2
    cases e2 : ns[i]? with
    | none => rw [e2] at h1; cases h1
    | some j => rw [e2] at h1 h2; cases h1; cases h2; exact .int j
  · rw [e] at r
    cases r
    rfl
end
end PyD
open PySem PySem.W PySem.Calls PyProof.Rows
theorem PySem.Challenge.cw_flatviews_k78_whole_pencils_and_last_com_holds : PySem.Challenge.rw_flatviews_k78_whole_pencils_and_last_com.Holds := by
  w_on; o_law
  refine HandSHeadRun.head_imp (r := OpenLaw.row PySem.Challenge.rw_flatviews_k78_whole_pencils_and_last_com) (q := view (OpenLaw.row PySem.Challenge.rw_flatviews_k78_whole_pencils_and_last_com).prog [0, 99]) (H := PyD.hkM) (ob := PyD.obM) (M := 100000) (loose := PyD.hloose) (d := HandSHeadRun.topDef (OpenLaw.row PySem.Challenge.rw_flatviews_k78_whole_pencils_and_last_com).prog 99) (kwd := []) PyD.obM_eq
    PyD.runM (by kernel_rfl) (by kernel_rfl) (by kernel_rfl) (by rfl) (by first | assumption | decide +kernel) (by decide +kernel) ⟨rfl, rfl, rfl, rfl, rfl, by decide +kernel⟩ ?hw ?hc
  case hw => w_witness2
  case hc =>
    refine L2.walk_ofE (l := PySem.Challenge.rw_flatviews_k78_whole_pencils_and_last_com) (n := 63) (k := 82) (x := "script") (CX := L2.CX0) rfl (by decide) (by kernel_rfl) ⟨rfl, by decide, by decide⟩ ?F (fun _ _ _ _ z => z)
    intro w mg fa h Y G hmg0
    obtain ⟨K, KX, c⟩ := Y
    have hmg : mg ("law" : PySem.Str) = some (.ref fa) := by
      have e : (HandSHeadRun.topDef (OpenLaw.row PySem.Challenge.rw_flatviews_k78_whole_pencils_and_last_com).prog 99).name = ("law" : PySem.Str) := by kernel_rfl
      rw [← e]
      exact hmg0
    obtain ⟨fd, hb, hF⟩ := PyD.lawM (P := (PySem.Challenge.rw_flatviews_k78_whole_pencils_and_last_com).prog) KX G c hmg
    exact ⟨K, fd, PyD.liftSp K mg 1 PyD.e_lawD, KX, hb, fun H a ns hl hO hS => PyD.spM H a ns hl hO hS, hF⟩

