import PyProof.Rows.All
import Wide.All
import OpenK.AllK
import Wide.FinOn
import KE.KStateDown
import HandS.Base
import HandS.Call
import HandS.Ends
import HandS.More
import HandS.Words
import HandS.WordsExc
import HandS.Defaults
import HandS.MakeKw
import HandS.MakeKwOnly
import HandS.Head0
import HandS.Head1
import HandS.Head2
import HandS.Head3
import HandS.HeadEnd
import HandS.HeadHook1
import HandS.HeadHook2
import HandS.ForMost
import HandS.ForExc
import HandS.TupAny
import HandS.Deep
import HandS.Conv
import HandS.IsInst
import HandS.Rev
import HandS.RevTup
import HandS.Iter
import PyProof.EnumMake
import KE.GoesMore
import HandS.Strs
import HandS.Gcd
import PySem.Challenge.RW_unbent_k61_whole_clocks_are_obvious
set_option Elab.async false
set_option linter.all false
set_option maxRecDepth 1000000
set_option maxHeartbeats 0
noncomputable section
namespace U
open PySem PySem.Spec
open PyProof.Rows L2
/-! ## the head: what the top lays -/
def topS (i : Nat) : Stmt := PySem.Challenge.pw_unbent_k61_whole_clocks_are_obvious.main.body.getD i (.Pass ⟨0, 0, 0, 0⟩)
abbrev s_make : Stmt := topS 15
abbrev s_add : Stmt := topS 16
abbrev s_negate : Stmt := topS 17
abbrev s_subtract : Stmt := topS 18
abbrev s_multiply : Stmt := topS 19
abbrev s_compare : Stmt := topS 20
abbrev s_is_name : Stmt := topS 35
abbrev s__law_gcd : Stmt := topS 90
abbrev s__law_ratio : Stmt := topS 91
abbrev s__law_add : Stmt := topS 92
abbrev s__law_times : Stmt := topS 93
abbrev s__law_minus : Stmt := topS 94
abbrev s__law_order : Stmt := topS 95
abbrev s__law_deck : Stmt := topS 86
abbrev s__law_draw : Stmt := topS 87
abbrev s__law_small : Stmt := topS 98
abbrev s__law_values : Stmt := topS 110
abbrev s_sign : Stmt := topS 21
abbrev s_total : Stmt := topS 22
abbrev s_dot : Stmt := topS 23
abbrev s_least_index : Stmt := topS 24
abbrev s_greatest_index : Stmt := topS 25
abbrev s_is_integer : Stmt := topS 13
abbrev s_is_index : Stmt := topS 37
abbrev s_are_names : Stmt := topS 36
abbrev s_is_need : Stmt := topS 40
abbrev s_is_excluded : Stmt := topS 41
abbrev s_check_limits : Stmt := topS 42
abbrev s_check_game : Stmt := topS 43
abbrev s_copied_kinds : Stmt := topS 44
abbrev s_copied_need : Stmt := topS 45
abbrev s_Game___init__ : Stmt := inClass (topS 46) 0
abbrev s_profiles : Stmt := topS 47
abbrev s_profile_number : Stmt := topS 48
abbrev s_check : Stmt := topS 53
abbrev s_clock_game : Stmt := topS 54
abbrev s_sold : Stmt := topS 55
abbrev s_Clock___init__ : Stmt := inClass (topS 56) 0
abbrev s_Clock_grow : Stmt := inClass (topS 56) 1
abbrev s_clock : Stmt := topS 57
abbrev s_has : Stmt := topS 59
abbrev s_is_question : Stmt := topS 62
abbrev s_has_parents : Stmt := topS 63
abbrev s_is_part : Stmt := topS 64
abbrev s_split_box : Stmt := topS 65
abbrev s_whole_box : Stmt := topS 66
abbrev s_is_end : Stmt := topS 67
abbrev s_boxes_or_none : Stmt := topS 68
abbrev s_boxes : Stmt := topS 69
abbrev s_path_of : Stmt := topS 70
abbrev s_rule_of : Stmt := topS 71
abbrev s_brings : Stmt := topS 73
abbrev s_ends_below : Stmt := topS 74
abbrev s_worst_and_best : Stmt := topS 75
abbrev s_first_doubt : Stmt := topS 76
abbrev s_is_plain : Stmt := topS 77
abbrev s_in_box : Stmt := topS 78
abbrev s_is_constant : Stmt := topS 79
abbrev s_allowed : Stmt := topS 80
abbrev s_parts_of : Stmt := topS 81
abbrev s_first_split : Stmt := topS 82
abbrev s_grow_below : Stmt := topS 83
abbrev s_grow : Stmt := topS 84
abbrev s__law_same : Stmt := topS 88
abbrev s__law_same_list : Stmt := topS 89
abbrev s__law_total : Stmt := topS 96
abbrev s__law_dot : Stmt := topS 97
abbrev s__law_profiles : Stmt := topS 99
abbrev s__law_with : Stmt := topS 100
abbrev s__law_has : Stmt := topS 101
abbrev s__law_truthful : Stmt := topS 102
abbrev s__law_same_rule : Stmt := topS 103
abbrev s__law_boxes : Stmt := topS 104
abbrev s__law_path : Stmt := topS 105
abbrev s__law_carried : Stmt := topS 106
abbrev s__law_ends : Stmt := topS 107
abbrev s__law_extreme : Stmt := topS 108
abbrev s__law_doubt : Stmt := topS 109
abbrev s__law_sold : Stmt := topS 111
abbrev s_law : Stmt := topS 112
def d_make : He.DefD := ⟨("make", none), "make", "make", defArgs s_make, defBody s_make, defScope s_make, [.int 1], []⟩
def d__law_gcd : He.DefD := ⟨("_law_gcd", none), "_law_gcd", "_law_gcd", defArgs s__law_gcd, defBody s__law_gcd, defScope s__law_gcd, [], []⟩
def d__law_ratio : He.DefD := ⟨("_law_ratio", none), "_law_ratio", "_law_ratio", defArgs s__law_ratio, defBody s__law_ratio, defScope s__law_ratio, [], []⟩
def d_negate : He.DefD := ⟨("negate", none), "negate", "negate", defArgs s_negate, defBody s_negate, defScope s_negate, [], []⟩
def d_add : He.DefD := ⟨("add", none), "add", "add", defArgs s_add, defBody s_add, defScope s_add, [], []⟩
def d_subtract : He.DefD := ⟨("subtract", none), "subtract", "subtract", defArgs s_subtract, defBody s_subtract, defScope s_subtract, [], []⟩
def d_multiply : He.DefD := ⟨("multiply", none), "multiply", "multiply", defArgs s_multiply, defBody s_multiply, defScope s_multiply, [], []⟩
def d_compare : He.DefD := ⟨("compare", none), "compare", "compare", defArgs s_compare, defBody s_compare, defScope s_compare, [], []⟩
def d_is_name : He.DefD := ⟨("is_name", none), "is_name", "is_name", defArgs s_is_name, defBody s_is_name, defScope s_is_name, [], []⟩
def d__law_add : He.DefD := ⟨("_law_add", none), "_law_add", "_law_add", defArgs s__law_add, defBody s__law_add, defScope s__law_add, [], []⟩
def d__law_times : He.DefD := ⟨("_law_times", none), "_law_times", "_law_times", defArgs s__law_times, defBody s__law_times, defScope s__law_times, [], []⟩
def d__law_minus : He.DefD := ⟨("_law_minus", none), "_law_minus", "_law_minus", defArgs s__law_minus, defBody s__law_minus, defScope s__law_minus, [], []⟩
def d__law_order : He.DefD := ⟨("_law_order", none), "_law_order", "_law_order", defArgs s__law_order, defBody s__law_order, defScope s__law_order, [], []⟩
def d__law_deck : He.DefD := ⟨("_law_deck", none), "_law_deck", "_law_deck", defArgs s__law_deck, defBody s__law_deck, defScope s__law_deck, [], []⟩
def d__law_draw : He.DefD := ⟨("_law_draw", none), "_law_draw", "_law_draw", defArgs s__law_draw, defBody s__law_draw, defScope s__law_draw, [], []⟩
def d__law_small : He.DefD := ⟨("_law_small", none), "_law_small", "_law_small", defArgs s__law_small, defBody s__law_small, defScope s__law_small, [], []⟩
def d__law_values : He.DefD := ⟨("_law_values", none), "_law_values", "_law_values", defArgs s__law_values, defBody s__law_values, defScope s__law_values, [], []⟩
def d_sign : He.DefD := ⟨("sign", none), "sign", "sign", defArgs s_sign, defBody s_sign, defScope s_sign, [], []⟩
def d_total : He.DefD := ⟨("total", none), "total", "total", defArgs s_total, defBody s_total, defScope s_total, [], []⟩
def d_dot : He.DefD := ⟨("dot", none), "dot", "dot", defArgs s_dot, defBody s_dot, defScope s_dot, [], []⟩
def d_least_index : He.DefD := ⟨("least_index", none), "least_index", "least_index", defArgs s_least_index, defBody s_least_index, defScope s_least_index, [], []⟩
def d_greatest_index : He.DefD := ⟨("greatest_index", none), "greatest_index", "greatest_index", defArgs s_greatest_index, defBody s_greatest_index, defScope s_greatest_index, [], []⟩
def d_is_integer : He.DefD := ⟨("is_integer", none), "is_integer", "is_integer", defArgs s_is_integer, defBody s_is_integer, defScope s_is_integer, [], []⟩
def d_is_index : He.DefD := ⟨("is_index", none), "is_index", "is_index", defArgs s_is_index, defBody s_is_index, defScope s_is_index, [], []⟩
def d_are_names : He.DefD := ⟨("are_names", none), "are_names", "are_names", defArgs s_are_names, defBody s_are_names, defScope s_are_names, [], []⟩
def d_is_need : He.DefD := ⟨("is_need", none), "is_need", "is_need", defArgs s_is_need, defBody s_is_need, defScope s_is_need, [], []⟩
def d_is_excluded : He.DefD := ⟨("is_excluded", none), "is_excluded", "is_excluded", defArgs s_is_excluded, defBody s_is_excluded, defScope s_is_excluded, [], []⟩
def d_check_limits : He.DefD := ⟨("check_limits", none), "check_limits", "check_limits", defArgs s_check_limits, defBody s_check_limits, defScope s_check_limits, [], []⟩
def d_check_game : He.DefD := ⟨("check_game", none), "check_game", "check_game", defArgs s_check_game, defBody s_check_game, defScope s_check_game, [], []⟩
def d_copied_kinds : He.DefD := ⟨("copied_kinds", none), "copied_kinds", "copied_kinds", defArgs s_copied_kinds, defBody s_copied_kinds, defScope s_copied_kinds, [], []⟩
def d_copied_need : He.DefD := ⟨("copied_need", none), "copied_need", "copied_need", defArgs s_copied_need, defBody s_copied_need, defScope s_copied_need, [], []⟩
def d_Game___init__ : He.DefD := ⟨("Game", some "__init__"), "__init__", "Game.__init__", defArgs s_Game___init__, defBody s_Game___init__, defScope s_Game___init__, [], [("aim", .str "total")]⟩
def d_profiles : He.DefD := ⟨("profiles", none), "profiles", "profiles", defArgs s_profiles, defBody s_profiles, defScope s_profiles, [], []⟩
def d_profile_number : He.DefD := ⟨("profile_number", none), "profile_number", "profile_number", defArgs s_profile_number, defBody s_profile_number, defScope s_profile_number, [], []⟩
def d_check : He.DefD := ⟨("check", none), "check", "check", defArgs s_check, defBody s_check, defScope s_check, [], []⟩
def d_clock_game : He.DefD := ⟨("clock_game", none), "clock_game", "clock_game", defArgs s_clock_game, defBody s_clock_game, defScope s_clock_game, [], []⟩
def d_sold : He.DefD := ⟨("sold", none), "sold", "sold", defArgs s_sold, defBody s_sold, defScope s_sold, [], []⟩
def d_Clock___init__ : He.DefD := ⟨("Clock", some "__init__"), "__init__", "Clock.__init__", defArgs s_Clock___init__, defBody s_Clock___init__, defScope s_Clock___init__, [], []⟩
def d_Clock_grow : He.DefD := ⟨("Clock", some "grow"), "grow", "Clock.grow", defArgs s_Clock_grow, defBody s_Clock_grow, defScope s_Clock_grow, [], []⟩
def d_clock : He.DefD := ⟨("clock", none), "clock", "clock", defArgs s_clock, defBody s_clock, defScope s_clock, [], []⟩
def d_has : He.DefD := ⟨("has", none), "has", "has", defArgs s_has, defBody s_has, defScope s_has, [], []⟩
def d_is_question : He.DefD := ⟨("is_question", none), "is_question", "is_question", defArgs s_is_question, defBody s_is_question, defScope s_is_question, [], []⟩
def d_has_parents : He.DefD := ⟨("has_parents", none), "has_parents", "has_parents", defArgs s_has_parents, defBody s_has_parents, defScope s_has_parents, [], []⟩
def d_is_part : He.DefD := ⟨("is_part", none), "is_part", "is_part", defArgs s_is_part, defBody s_is_part, defScope s_is_part, [], []⟩
def d_split_box : He.DefD := ⟨("split_box", none), "split_box", "split_box", defArgs s_split_box, defBody s_split_box, defScope s_split_box, [], []⟩
def d_whole_box : He.DefD := ⟨("whole_box", none), "whole_box", "whole_box", defArgs s_whole_box, defBody s_whole_box, defScope s_whole_box, [], []⟩
def d_is_end : He.DefD := ⟨("is_end", none), "is_end", "is_end", defArgs s_is_end, defBody s_is_end, defScope s_is_end, [], []⟩
def d_boxes_or_none : He.DefD := ⟨("boxes_or_none", none), "boxes_or_none", "boxes_or_none", defArgs s_boxes_or_none, defBody s_boxes_or_none, defScope s_boxes_or_none, [], []⟩
def d_boxes : He.DefD := ⟨("boxes", none), "boxes", "boxes", defArgs s_boxes, defBody s_boxes, defScope s_boxes, [], []⟩
def d_path_of : He.DefD := ⟨("path_of", none), "path_of", "path_of", defArgs s_path_of, defBody s_path_of, defScope s_path_of, [], []⟩
def d_rule_of : He.DefD := ⟨("rule_of", none), "rule_of", "rule_of", defArgs s_rule_of, defBody s_rule_of, defScope s_rule_of, [], []⟩
def d_brings : He.DefD := ⟨("brings", none), "brings", "brings", defArgs s_brings, defBody s_brings, defScope s_brings, [], []⟩
def d_ends_below : He.DefD := ⟨("ends_below", none), "ends_below", "ends_below", defArgs s_ends_below, defBody s_ends_below, defScope s_ends_below, [], []⟩
def d_worst_and_best : He.DefD := ⟨("worst_and_best", none), "worst_and_best", "worst_and_best", defArgs s_worst_and_best, defBody s_worst_and_best, defScope s_worst_and_best, [], []⟩
def d_first_doubt : He.DefD := ⟨("first_doubt", none), "first_doubt", "first_doubt", defArgs s_first_doubt, defBody s_first_doubt, defScope s_first_doubt, [], []⟩
def d_is_plain : He.DefD := ⟨("is_plain", none), "is_plain", "is_plain", defArgs s_is_plain, defBody s_is_plain, defScope s_is_plain, [], []⟩
def d_in_box : He.DefD := ⟨("in_box", none), "in_box", "in_box", defArgs s_in_box, defBody s_in_box, defScope s_in_box, [], []⟩
def d_is_constant : He.DefD := ⟨("is_constant", none), "is_constant", "is_constant", defArgs s_is_constant, defBody s_is_constant, defScope s_is_constant, [], []⟩
def d_allowed : He.DefD := ⟨("allowed", none), "allowed", "allowed", defArgs s_allowed, defBody s_allowed, defScope s_allowed, [], []⟩
def d_parts_of : He.DefD := ⟨("parts_of", none), "parts_of", "parts_of", defArgs s_parts_of, defBody s_parts_of, defScope s_parts_of, [], []⟩
def d_first_split : He.DefD := ⟨("first_split", none), "first_split", "first_split", defArgs s_first_split, defBody s_first_split, defScope s_first_split, [], []⟩
def d_grow_below : He.DefD := ⟨("grow_below", none), "grow_below", "grow_below", defArgs s_grow_below, defBody s_grow_below, defScope s_grow_below, [], []⟩
def d_grow : He.DefD := ⟨("grow", none), "grow", "grow", defArgs s_grow, defBody s_grow, defScope s_grow, [], []⟩
def d__law_same : He.DefD := ⟨("_law_same", none), "_law_same", "_law_same", defArgs s__law_same, defBody s__law_same, defScope s__law_same, [], []⟩
def d__law_same_list : He.DefD := ⟨("_law_same_list", none), "_law_same_list", "_law_same_list", defArgs s__law_same_list, defBody s__law_same_list, defScope s__law_same_list, [], []⟩
def d__law_total : He.DefD := ⟨("_law_total", none), "_law_total", "_law_total", defArgs s__law_total, defBody s__law_total, defScope s__law_total, [], []⟩
def d__law_dot : He.DefD := ⟨("_law_dot", none), "_law_dot", "_law_dot", defArgs s__law_dot, defBody s__law_dot, defScope s__law_dot, [], []⟩
def d__law_profiles : He.DefD := ⟨("_law_profiles", none), "_law_profiles", "_law_profiles", defArgs s__law_profiles, defBody s__law_profiles, defScope s__law_profiles, [], []⟩
def d__law_with : He.DefD := ⟨("_law_with", none), "_law_with", "_law_with", defArgs s__law_with, defBody s__law_with, defScope s__law_with, [], []⟩
def d__law_has : He.DefD := ⟨("_law_has", none), "_law_has", "_law_has", defArgs s__law_has, defBody s__law_has, defScope s__law_has, [], []⟩
def d__law_truthful : He.DefD := ⟨("_law_truthful", none), "_law_truthful", "_law_truthful", defArgs s__law_truthful, defBody s__law_truthful, defScope s__law_truthful, [], []⟩
def d__law_same_rule : He.DefD := ⟨("_law_same_rule", none), "_law_same_rule", "_law_same_rule", defArgs s__law_same_rule, defBody s__law_same_rule, defScope s__law_same_rule, [], []⟩
def d__law_boxes : He.DefD := ⟨("_law_boxes", none), "_law_boxes", "_law_boxes", defArgs s__law_boxes, defBody s__law_boxes, defScope s__law_boxes, [], []⟩
def d__law_path : He.DefD := ⟨("_law_path", none), "_law_path", "_law_path", defArgs s__law_path, defBody s__law_path, defScope s__law_path, [], []⟩
def d__law_carried : He.DefD := ⟨("_law_carried", none), "_law_carried", "_law_carried", defArgs s__law_carried, defBody s__law_carried, defScope s__law_carried, [], []⟩
def d__law_ends : He.DefD := ⟨("_law_ends", none), "_law_ends", "_law_ends", defArgs s__law_ends, defBody s__law_ends, defScope s__law_ends, [], []⟩
def d__law_extreme : He.DefD := ⟨("_law_extreme", none), "_law_extreme", "_law_extreme", defArgs s__law_extreme, defBody s__law_extreme, defScope s__law_extreme, [], []⟩
def d__law_doubt : He.DefD := ⟨("_law_doubt", none), "_law_doubt", "_law_doubt", defArgs s__law_doubt, defBody s__law_doubt, defScope s__law_doubt, [], []⟩
def d__law_sold : He.DefD := ⟨("_law_sold", none), "_law_sold", "_law_sold", defArgs s__law_sold, defBody s__law_sold, defScope s__law_sold, [], []⟩
def d_law : He.DefD := ⟨("law", none), "law", "law", defArgs s_law, defBody s_law, defScope s_law, [], []⟩
def fnL : List He.DefD := [d_make, d__law_gcd, d__law_ratio, d_negate, d_add, d_subtract, d_multiply, d_compare, d_is_name, d__law_add, d__law_times, d__law_minus, d__law_order, d__law_deck, d__law_draw, d__law_small, d__law_values, d_sign, d_total, d_dot, d_least_index, d_greatest_index, d_is_integer, d_is_index, d_are_names, d_is_need, d_is_excluded, d_check_limits, d_check_game, d_copied_kinds, d_copied_need, d_Game___init__, d_profiles, d_profile_number, d_check, d_clock_game, d_sold, d_Clock___init__, d_Clock_grow, d_clock, d_has, d_is_question, d_has_parents, d_is_part, d_split_box, d_whole_box, d_is_end, d_boxes_or_none, d_boxes, d_path_of, d_rule_of, d_brings, d_ends_below, d_worst_and_best, d_first_doubt, d_is_plain, d_in_box, d_is_constant, d_allowed, d_parts_of, d_first_split, d_grow_below, d_grow, d__law_same, d__law_same_list, d__law_total, d__law_dot, d__law_profiles, d__law_with, d__law_has, d__law_truthful, d__law_same_rule, d__law_boxes, d__law_path, d__law_carried, d__law_ends, d__law_extreme, d__law_doubt, d__law_sold, d_law]
def faL : List He.Fa := [.free "range", .free "int", .free "abs", .free "len", .free "all", .free "list", .free "zip", .free "enumerate", .free "isinstance", .free "bool", .free "set", .free "any", .free "tuple", .free "reversed", .free "str", .free "min", .free "max", .glo "make", .glo "_law_gcd", .glo "_law_ratio", .glo "negate", .glo "add", .glo "subtract", .glo "multiply", .glo "compare", .glo "is_name", .glo "_law_add", .glo "_law_times", .glo "_law_minus", .glo "_law_order", .glo "_law_deck", .glo "_law_draw", .glo "_law_small", .glo "_law_values", .glo "sign", .glo "total", .glo "dot", .glo "least_index", .glo "greatest_index", .glo "is_integer", .glo "is_index", .glo "are_names", .glo "is_need", .glo "is_excluded", .glo "check_limits", .glo "check_game", .glo "copied_kinds", .glo "copied_need", .glo "profiles", .glo "profile_number", .glo "check", .glo "clock_game", .glo "sold", .glo "clock", .glo "has", .glo "is_question", .glo "has_parents", .glo "is_part", .glo "split_box", .glo "whole_box", .glo "is_end", .glo "boxes_or_none", .glo "boxes", .glo "path_of", .glo "rule_of", .glo "brings", .glo "ends_below", .glo "worst_and_best", .glo "first_doubt", .glo "is_plain", .glo "in_box", .glo "is_constant", .glo "allowed", .glo "parts_of", .glo "first_split", .glo "grow_below", .glo "grow", .glo "_law_same", .glo "_law_same_list", .glo "_law_total", .glo "_law_dot", .glo "_law_profiles", .glo "_law_with", .glo "_law_has", .glo "_law_truthful", .glo "_law_same_rule", .glo "_law_boxes", .glo "_law_path", .glo "_law_carried", .glo "_law_ends", .glo "_law_extreme", .glo "_law_doubt", .glo "_law_sold", .glo "law", .glo "Game", .glo "Clock", .int "MOST_AGENTS" 4, .int "MOST_KINDS" 4, .int "MOST_OUTCOMES" 6, .int "MOST_NEEDS" 12, .int "MOST_PROFILES_games" 16, .int "MOST_PROFILES_clocks" 16, .int "MOST_NODES" 200, .str "LETTERS" "abcdefghijklmnopqrstuvwxyz", .glo "ZERO", .glo "ONE", .glo "AIMS", .glo "BIDDERS", .glo "KINDS", .cls "Game", .cls "Clock", .mkr "Game", .mkr "Clock", .meth "Clock" "grow", .noat "Game" "agents", .noat "Game" "outcomes", .noat "Game" "aim", .noat "Game" "payments", .noat "Game" "lots", .noat "Game" "needs", .noat "Clock" "price", .noat "Clock" "bidders", .noat "Clock" "tree"]
def exU (K : PySem.W.Frag) : Bool := He.eqO (PySem.W.nsIn K mainGlobals "gcd") (some (some (.builtin "math.gcd"))) && (He.tupB K "ZERO" [.int 0, .int 1] && (He.tupB K "ONE" [.int 1, .int 1] && (He.tupB K "AIMS" [.str "total", .str "worst", .str "paid"] && (He.tupB K "BIDDERS" [.str "one", .str "two", .str "three"] && (He.tupB K "KINDS" [.str "a", .str "b", .str "c", .str "d"])))))
def loose0 : List PySem.Str := ["UnbentError", "InvalidGame", "TooLarge", "UnknownProfile", "ZeroDenominator", "NotPlain", "InvalidTree", "InvalidClock", "ZERO", "ONE", "is_integer", "is_ratio", "make", "add", "negate", "subtract", "multiply", "compare", "sign", "total", "dot", "least_index", "greatest_index", "MOST_AGENTS", "MOST_KINDS", "MOST_OUTCOMES", "MOST_NEEDS", "MOST_PROFILES_games", "AIMS"]
def loose1 : List PySem.Str := ["SINGLE_NEEDS", "LETTERS", "is_name", "are_names", "is_index", "is_swap", "is_choice", "is_need", "is_excluded", "check_limits", "check_game", "copied_kinds", "copied_need", "Game", "profiles", "profile_number", "BIDDERS", "KINDS", "MOST_PROFILES_clocks", "check", "clock_game", "sold", "Clock", "clock", "has", "MOST_NODES", "is_question", "has_parents", "is_part", "split_box"]
def loose2 : List PySem.Str := ["whole_box", "is_end", "boxes_or_none", "boxes", "path_of", "rule_of", "brings", "ends_below", "worst_and_best", "first_doubt", "is_plain", "in_box", "is_constant", "allowed", "parts_of", "first_split", "grow_below", "grow", "_law_deck", "_law_draw", "_law_same", "_law_same_list", "_law_gcd", "_law_ratio", "_law_add", "_law_times", "_law_minus", "_law_order", "_law_total", "_law_dot"]
def loose3 : List PySem.Str := ["_law_small", "_law_profiles", "_law_with", "_law_has", "_law_truthful", "_law_same_rule", "_law_boxes", "_law_path", "_law_carried", "_law_ends", "_law_extreme", "_law_doubt", "_law_values", "_law_sold"]
def looseA : List PySem.Str := loose0 ++ loose1 ++ loose2 ++ loose3
abbrev RR : PySem.W.OpenRow := PySem.W.OpenLaw.row PySem.Challenge.rw_unbent_k61_whole_clocks_are_obvious
/-! ### the head: facts, defs, one Bool more -/
abbrev AlU : Type := He.AlD × Bool
def dcR (o : Obj) : List Addr := match o.data with
  | .dict es _ => es.toList.flatMap fun e => He.refV e.val
  | _ => []
def fcR (o : Obj) : List Addr := match o.data with
  | .func fd => He.refV fd.code ++ (He.refV fd.defaults ++ He.refV fd.kwdefaults)
  | .cls cd => [cd.ns]
  | _ => []
def hopU (r : Obj → List Addr) (g : Addr → Option Obj) (l : List Addr) : List Addr := l.flatMap fun a => match g a with
  | some o => r o
  | none => []
def asU (g : Addr → Option Obj) : List Addr :=
  (fun l1 => (fun l2 => (fun l3 => mainGlobals :: (l1 ++ (l2 ++ (l3 ++ hopU fcR g l3)))) (hopU dcR g l2)) (hopU fcR g l1)) (hopU dcR g [mainGlobals])
def obsU (g : Addr → Option Obj) : AlU := (He.obsD faL fnL (He.frG g (asU g)), exU (He.frG g (asU g)))
def hkU : PySem.W.Hook where
  α := AlU
  obs := fun s => obsU s.heap.get?
  val := fun _ => (He.valD fnL, true)
  says := fun _ h => ∃ K : PySem.W.Frag, K.In h ∧ He.SaysD faL fnL K ∧ exU K = true
  of := fun _ _ e => ⟨_, He.frG_in, congrArg (fun z : AlU => z.1) e, congrArg (fun z : AlU => z.2) e⟩
  keeps :=
        fun _ _ _ ⟨K, hK, c⟩ k => ⟨K, PySem.W.Frag.In.keeps hK k, c⟩
def obU (s : PySem.W.SharedT) : AlU := obsU (HandSHeadRun.getT s)
theorem obU_eq (s : PySem.W.SharedT) : obU s = hkU.obs s.abs := by
  have e : HandSHeadRun.getT s = s.abs.heap.get? := funext (HandSHeadRun.getT_eq s)
  show obsU (HandSHeadRun.getT s) = obsU s.abs.heap.get?
  rw [e]
theorem runU (w : World) : HandSHeadRun.RunEqI RR (PySem.W.view RR.prog [0, 112]) hkU obU 5000 looseA w := by
  unfold HandSHeadRun.RunEqI
  kernel_rfl
end U
end
noncomputable section
namespace U
open PySem PySem.Spec
open PyProof.Rows L2

/-! ## symbolic fractions -/
structure Lin where
  c : Int
  c0 : Int
  c1 : Int
  c2 : Int
  c3 : Int

structure Rho where
  D : Int
  n0 : Int
  n1 : Int
  n2 : Int
  n3 : Int
  p : Nat → Int
  q : Nat → Int
def Rho.ev (ρ : Rho) (l : Lin) : Int := l.c * ρ.D + (l.c0 * ρ.n0 + (l.c1 * ρ.n1 + (l.c2 * ρ.n2 + l.c3 * ρ.n3)))
def unitL (i : Nat) : Lin := match i with
  | 0 => ⟨0, 1, 0, 0, 0⟩
  | 1 => ⟨0, 0, 1, 0, 0⟩
  | 2 => ⟨0, 0, 0, 1, 0⟩
  | _ => ⟨0, 0, 0, 0, 1⟩
/-- the pair (p, q) stands for the value of l -/
def Rho.Is (ρ : Rho) (l : Lin) (p q : Int) : Prop := 0 < q ∧ Int.gcd p q = 1 ∧ p * ρ.D = q * ρ.ev l
structure Rho.Ok (ρ : Rho) : Prop where
  D : 0 < ρ.D
  D2 : ρ.D ≤ 64
  a0 : ρ.n0 < ρ.n1
  a1 : ρ.n1 < ρ.n2
  a2 : ρ.n2 < ρ.n3
  base : ∀ i, i < 4 → ρ.Is (unitL i) (ρ.p i) (ρ.q i)

/-! ## abstract values -/
inductive AV where
  | und | non | bl (b : Bool) | int (i : Int) | str (n : Nat) | tup (xs : List AV) | lst (xs : List AV) | cell (n : Nat)
  | base (i : Nat) | rat (l : Lin) | num (i : Nat) | den (i : Nat)

def sTab : List String := ["ask", "end", "nobody", "one", "two", "three", "a", "b", "c", "d", "total", "worst", "paid", "part", "budget", "even", "bound", "envy", "order", "stuck", "tree",
  "price", "bidders", "agents", "outcomes", "aim", "payments", "lots", "needs", "abcdefghijklmnopqrstuvwxyz", "values", "profiles", "kinds", "o", "n", "e", "t", "w", "h", "r", "y"]
def nStr : Nat := 41
def tbl (n : Nat) : Str := Str.ofString (sTab.getD n "")
theorem tbl_inj {i j : Nat} (hi : i < nStr) (hj : j < nStr) (h : tbl i = tbl j) : i = j := by
  have : ∀ i, i < nStr → ∀ j, j < nStr → tbl i = tbl j → i = j := by decide +kernel
  exact this i hi j hj h

/-- a cell's content: a list (frozen: never changed again), an instance -/
inductive CO where
  | lst (fz : Bool) (xs : List AV)
  | ins (k : Nat) (fs : List (Nat × AV))
structure CS where
  n : Nat
  l : List (Nat × CO)
def find1 (z : Nat × CO) (ih : Nat → Option CO) (k : Nat) : Option CO := match Nat.ble z.1 k with
  | true => (match Nat.beq z.1 k with
    | true => some z.2
    | false => none)
  | false => ih k
def CS.find (l : List (Nat × CO)) : Nat → Option CO := List.rec (motive := fun _ => Nat → Option CO) (fun _ => none) (fun z _ ih => find1 z ih) l
def put1 (z : Nat × CO) (r : List (Nat × CO)) (ih : Nat → CO → List (Nat × CO)) (k : Nat) (c : CO) : List (Nat × CO) := match Nat.ble z.1 k with
  | true => (match Nat.beq z.1 k with
    | true => (z.1, c) :: r
    | false => z :: r)
  | false => z :: ih k c
def CS.put (l : List (Nat × CO)) : Nat → CO → List (Nat × CO) := List.rec (motive := fun _ => Nat → CO → List (Nat × CO)) (fun _ _ => []) (fun z r ih => put1 z r ih) l
def CS.get (cs : CS) (k : Nat) : Option CO := CS.find cs.l k
def CS.set (cs : CS) (k : Nat) (c : CO) : CS := ⟨cs.n, CS.put cs.l k c⟩
def CS.new (cs : CS) (c : CO) : CS := ⟨cs.n + 1, (cs.n, c) :: cs.l⟩

theorem find_cons (m : Nat) (co : CO) (r : List (Nat × CO)) (k : Nat) : CS.find ((m, co) :: r) k = if m = k then some co else if m < k then none else CS.find r k := by
  show find1 (m, co) (CS.find r) k = _
  unfold find1
  simp only
  cases e : Nat.ble m k with
  | true =>
    have h := Nat.le_of_ble_eq_true e
    cases e2 : Nat.beq m k with
    | true => rw [if_pos (Nat.eq_of_beq_eq_true e2)]
    | false =>
      have n : m ≠ k := Nat.ne_of_beq_eq_false e2
      rw [if_neg n, if_pos (by omega)]
  | false =>
    have h : ¬ m ≤ k := fun z => by
      rw [Nat.ble_eq_true_of_le z] at e
      cases e
    rw [
          if_neg (by omega), if_neg (by omega)]
theorem put_cons (m : Nat) (co : CO) (r : List (Nat × CO)) (k : Nat) (c : CO) : CS.put ((m, co) :: r) k c = if m = k then (m, c) :: r else if m < k then (m, co) :: r else (m, co) :: CS.put r k c := by
  show put1 (m, co) r (CS.put r) k c = _
  unfold put1
  simp only
  cases e : Nat.ble m k with
  | true =>
    have h := Nat.le_of_ble_eq_true e
    cases e2 : Nat.beq m k with
    | true => rw [if_pos (Nat.eq_of_beq_eq_true e2)]
    | false =>
      have n : m ≠ k := Nat.ne_of_beq_eq_false e2
      rw [if_neg n, if_pos (by omega)]
  | false =>
    have h : ¬ m ≤ k := fun z => by
      rw [Nat.ble_eq_true_of_le z] at e
      cases e
    rw [
          if_neg (by omega), if_neg (by omega)]
theorem find_put_self : ∀ (l : List (Nat × CO)) (k : Nat) (c x : CO), CS.find l k = some x → CS.find (CS.put l k c) k = some c
  | [], k, c, x, h => by cases h
  | (m, co) :: r, k, c, x, h => by
    rw [find_cons] at h
    rw [put_cons]
    by_cases e : m = k
    · rw [if_pos e, find_cons, if_pos e]
    · rw [if_neg e] at h ⊢
      by_cases e2 : m < k
      · rw [if_pos e2] at h
        cases h
      · rw [if_neg e2] at h ⊢
        rw [find_cons, if_neg e, if_neg e2]
        exact find_put_self r k c x h
theorem find_put_none : ∀ (l : List (Nat × CO)) (k : Nat) (c : CO), CS.find l k = none → CS.find (CS.put l k c) k = none
  | [], k, c, h => rfl
  | (m, co) :: r, k, c, h => by
    rw [find_cons] at h
    rw [put_cons]
    by_cases e : m = k
    · rw [if_pos e] at h
      cases h
    · rw [if_neg e] at h ⊢
      by_cases e2 : m < k
      · rw [if_pos e2, find_cons, if_neg e, if_pos e2]
      · rw [if_neg e2] at h ⊢
        rw [find_cons, if_neg e, if_neg e2]
        exact find_put_none r k c h
theorem find_put_ne : ∀ (l : List (Nat × CO)) (k j : Nat) (c : CO), j ≠ k → CS.find (CS.put l k c) j = CS.find l j
  | [], k, j, c, h => rfl
  | (m, co) :: r, k, j, c, h => by
    rw [put_cons]
    by_cases e : m = k
    · have q : m ≠ j := by omega
      rw [if_pos e, find_cons, find_cons, if_neg q, if_neg q]
    · rw [if_neg e]
      by_cases e2 : m < k
      · rw [if_pos e2]
      · rw [if_neg e2, find_cons, find_cons, find_put_ne r k j c h]
theorem find_put (l : List (Nat × CO)) (k j : Nat) (c x : CO) (h : CS.find (CS.put l k c) j = some x) : (j = k ∧ x = c ∧ (CS.find l k).isSome) ∨ (j ≠ k ∧ CS.find l j = some x) := by
  by_cases e : j = k
  · subst e
    cases q : CS.find l j with
    | none =>
      rw [find_put_none l j c q] at h
      cases h
    | some y =>
      rw [find_put_self l j c y q] at h
      exact .inl ⟨rfl, (Option.some.inj h).symm, rfl⟩
  · rw [find_put_ne l k j c e] at h
    exact .inr ⟨e, h⟩

/-! ## worlds -/
structure Wd where
  γ : Nat → Addr
  H : Hp
  cs : CS
  hid : Addr → Prop
/-- what may change: a cell's object, a hidden object (a comprehension's list in the making) -/
def Wd.In (W : Wd) (a : Addr) : Prop := (∃ i, i < W.cs.n ∧ W.γ i = a) ∨ W.hid a
structure Ct where
  ρ : Rho
  K : PySem.W.Frag
  cl : Nat → Addr
def KTup (K : PySem.W.Frag) (a : Addr) (xs : List V) : Prop :=
  ∃ (o : Obj) (
        its : Array Value) (n : Nat), K.lookup a = some o ∧ o.cls = .type "tuple" ∧ o.data = .seq its n ∧ its.size ≤ sizeLine ∧ Vals xs its.toList
def TupAt (c : Ct) (H : Hp) (a : Addr) (xs : List V) : Prop := H a = some (.tup xs) ∨ KTup c.K a xs
theorem TupAt.seq {c : Ct} {H : Hp} {a : Addr} {xs : List V} (h : TupAt c H a xs) : SqT c.K H a xs := by
  rcases h with h | h
  · exact SqT.of h
  · exact .inr h
mutual
inductive Rep (c : Ct) (W : Wd) : AV → V → Prop
  | non : Rep c W .non .non
  | bl (b : Bool) : Rep c W (.bl b) (.bl b)
  | int (i : Int) : Rep c W (.int i) (.int i)
  | str (i : Nat) : i < nStr → Rep c W (.str i) (.str (tbl i))
  | tup {a : Addr} {xs : List V} {as : List AV} : TupAt c W.H a xs → Reps c W as xs → Rep c W (.tup as) (.ref a)
  | lst {a : Addr} {xs : List V} {as : List AV} : W.H a = some (.lst xs) → ¬ W.In a → Reps c W as xs → Rep c W (.lst as) (.ref a)
  | cell (i : Nat) : i < W.cs.n → Rep c W (.cell i) (.ref (W.γ i))
  | base {a : Addr} (i : Nat) : i < 4 → TupAt c W.H a [.int (c.ρ.p i), .int (c.ρ.q i)] → Rep c W (.base i) (.ref a)
  | rat {a : Addr} {l : Lin} {p q : Int} : TupAt c W.H a [.int p, .int q] → c.ρ.Is l p q → Rep c W (.rat l) (.ref a)
  | num (i : Nat) : Rep c W (.num i) (.int (c.ρ.p i))
  | den (i : Nat) : Rep c W (.den i) (.int (c.ρ.q i))
inductive Reps (c : Ct) (W : Wd) : List AV → List V → Prop
  | nil : Reps c W [] []
  | cons {a : AV} {v : V} {as : List AV} {vs : List V} : Rep c W a v → Reps c W as vs → Reps c W (a :: as) (v :: vs)
end
def Repf (c : Ct) (W : Wd) : List (Nat × AV) → List (Str × V) → Prop
  | [], [] => True
  | (n, a) :: r, (x, v) :: t => x = tbl n ∧ n < nStr ∧ Rep c W a v ∧ Repf c W r t
  | _, _ => False
def COk (c : Ct) (W : Wd) (co : CO) (a : Addr) : Prop := match co with
  | .lst _ xs => ∃ vs, W.H a = some (.lst vs) ∧ Reps c W xs vs
  | .ins k fs => ∃ dx fv, W.H a = some (.ins (c.cl k) dx fv) ∧ Repf c W fs fv
structure WOk (c : Ct) (W : Wd) : Prop where
  inj : ∀ i j, i < W.cs.n → j < W.cs.n → W.γ i = W.γ j → i = j
  kind : ∀ i, i < W.cs.n → ∃ o, W.H (W.γ i) = some o ∧ isObj o = true
  ok : ∀ i co, W.cs.get i = some co → i < W.cs.n ∧ COk c W co (W.γ i)
  hd : ∀ b, W.hid b → (∃ o, W.H b = some o ∧ isObj o = true) ∧ ∀ i, i < W.cs.n → W.γ i ≠ b
structure Ext (W W' : Wd) : Prop where
  le : W.cs.n ≤ W'.cs.n
  γ : ∀ i, i < W.cs.n → W'.γ i = W.γ i
  keep : ∀ b o, W.H b = some o → ¬ W.In b → W'.H b = some o ∧ ¬ W'.In b
  fz : ∀ i xs, i < W.cs.n → W.cs.get i = some (.lst true xs) → W'.cs.get i = some (.lst true xs) ∧ W'.H (W.γ i) = W.H (W.γ i)
  hid : ∀ b, W.hid b → W'.hid b
  hk : ∀ b, W.hid b → W'.H b = W.H b
theorem Ext.refl (W : Wd) : Ext W W := ⟨Nat.le_refl _, fun _ _ => rfl, fun _ _ h n => ⟨h, n⟩, fun _ _ _ h => ⟨h, rfl⟩, fun _ h => h, fun _ _ => rfl⟩
theorem Ext.trans {W W1 W2 : Wd} (a : Ext W W1) (b : Ext W1 W2) : Ext W W2 where
  le := Nat.le_trans a.le b.le
  γ := fun i hi => (b.γ i (Nat.lt_of_lt_of_le hi a.le)).trans (a.γ i hi)
  keep := fun x o h n => let ⟨h1, n1⟩ := a.keep x o h n; b.keep x o h1 n1
  fz := fun i xs hi h => by
    obtain ⟨h1, e1⟩ := a.fz i xs hi h
    obtain ⟨h2, e2⟩ := b.fz i xs (Nat.lt_of_lt_of_le hi a.le) h1
    rw [a.γ i hi] at e2
    exact ⟨h2, e2.trans e1⟩
  hid := fun x h => b.hid x (a.hid x h)
  hk := fun x h => (b.hk x (a.hid x h)).trans (a.hk x h)
/-- the same, but hidden objects may have changed -/
structure ExtH (W W' : Wd) : Prop where
  le : W.cs.n ≤ W'.cs.n
  γ : ∀ i, i < W.cs.n → W'.γ i = W.γ i
  keep : ∀ b o, W.H b = some o → ¬ W.In b → W'.H b = some o ∧ ¬ W'.In b
  fz : ∀ i xs, i < W.cs.n → W.cs.get i = some (.lst true xs) → W'.cs.get i = some (.lst true xs) ∧ W'.H (W.γ i) = W.H (W.γ i)
theorem Ext.h {W W' : Wd} (x : Ext W W') : ExtH W W' := ⟨x.le, x.γ, x.keep, x.fz⟩
theorem ExtH.trans {W W1 W2 : Wd} (a : ExtH W W1) (b : ExtH W1 W2) : ExtH W W2 where
  le := Nat.le_trans a.le b.le
  γ := fun i hi => (b.γ i (Nat.lt_of_lt_of_le hi a.le)).trans (a.γ i hi)
  keep := fun x o h n => let ⟨h1, n1⟩ := a.keep x o h n; b.keep x o h1 n1
  fz := fun i xs hi h => by
    obtain ⟨h1, e1⟩ := a.fz i xs hi h
    obtain ⟨h2, e2⟩ := b.fz i xs (Nat.lt_of_lt_of_le hi a.le) h1
    rw [a.γ i hi] at e2
    exact ⟨h2, e2.trans e1⟩
theorem WOk.notTup {c : Ct} {W : Wd} (w : WOk c W) {a : Addr} {xs : List V} (h : W.H a = some (.tup xs)) : ¬ W.In a := fun q => by
  rcases q with ⟨i, hi, e⟩ | q
  · obtain ⟨o, h1, h2⟩ := w.kind i hi
    rw [e, h] at h1
    cases h1
    cases h2
  · obtain ⟨⟨o, h1, h2⟩, _⟩ := w.hd a q
    rw [h] at h1
    cases h1
    cases h2
theorem TupAt.mono {c : Ct} {W W' : Wd} (w : WOk c W) (x : Ext W W') {a : Addr} {xs : List V} (h : TupAt c W.H a xs) : TupAt c W'.H a xs := by
  rcases h with h | h
  · exact .inl (x.keep a _ h (w.notTup h)).1
  · exact .inr h
/-- what a value's look leans on -/
structure Sees (W W' : Wd) : Prop where
  tup : ∀ a xs, W.H a = some (.tup xs) → W'.H a = some (.tup xs)
  lst : ∀ a xs, W.H a = some (.lst xs) → ¬ W.In a → W'.H a = some (.lst xs) ∧ ¬ W'.In a
  cell : ∀ i, i < W.cs.n → i < W'.cs.n ∧ W'.γ i = W.γ i
theorem Sees.tupAt {c : Ct} {W W' : Wd} (x : Sees W W') {a : Addr} {xs : List V} (h : TupAt c W.H a xs) : TupAt c W'.H a xs := h.imp (x.tup a xs) id
mutual
theorem Rep.map {c : Ct} {W W' : Wd} (x : Sees W W') : ∀ {a : AV} {v : V}, Rep c W a v → Rep c W' a v
  | _, _, .non => .non
  | _, _, .bl b => .bl b
  | _, _, .int i => .int i
  | _, _, .str i h => .str i h
  | _, _, .tup h r => .tup (x.tupAt h) (Reps.map x r)
  | _, _, .lst h n r => .lst (x.lst _ _ h n).1 (x.lst _ _ h n).2 (Reps.map x r)
  | _, _, .cell i h => by
    rw [← (x.cell i h).2]
    exact .cell i (x.cell i h).1
  | _, _, .base i hi h => .base i hi (x.tupAt h)
  | _, _, .rat h r => .rat (x.tupAt h) r
  | _, _, .num i => .num i
  | _, _, .den i => .den i
theorem Reps.map {c : Ct} {W W' : Wd} (x : Sees W W') : ∀ {as : List AV} {vs : List V}, Reps c W as vs → Reps c W' as vs
  | _, _, .nil => .nil
  | _, _, .cons r t => .cons (Rep.map x r) (Reps.map x t)
end
theorem ExtH.sees {c : Ct} {W W' : Wd} (w : WOk c W) (x : ExtH W W') : Sees W W' := ⟨fun a xs h => (x.keep a _ h (w.notTup h)).1, fun a xs h n => x.keep a _ h n, fun i h => ⟨Nat.lt_of_lt_of_le h x.le, x.γ i h⟩⟩
theorem Ext.sees {c : Ct} {W W' : Wd} (w : WOk c W) (x : Ext W W') : Sees W W' := ⟨fun a xs h => (x.keep a _ h (w.notTup h)).1, fun a xs h n => x.keep a _ h n, fun i h => ⟨Nat.lt_of_lt_of_le h x.le, x.γ i h⟩⟩
theorem Rep.mono {c : Ct} {W W' : Wd} (w : WOk c W) (x : Ext W W') {a : AV} {v : V} (r : Rep c W a v) : Rep c W' a v := r.map (x.sees w)
theorem Reps.mono {c : Ct} {W W' : Wd} (w : WOk c W) (x : Ext W W') {as : List AV} {vs : List V} (r : Reps c W as vs) : Reps c W' as vs := r.map (x.sees w)
theorem Repf.map {c : Ct} {W W' : Wd} (x : Sees W W') : ∀ {fs : List (Nat × AV)} {fv : List (Str × V)}, Repf c W fs fv → Repf c W' fs fv
  | [], [], _ => trivial
  | (_, _) :: _, (_, _) :: _, h => ⟨h.1, h.2.1, h.2.2.1.map x, Repf.map x h.2.2.2⟩
  | [], _ :: _, h => h.elim
  | _ :: _, [], h => h.elim
theorem COk.map {c : Ct} {W W' : Wd} (x : Sees W W') {co : CO} {a b : Addr} (h : COk c W co a) (e : W'.H b = W.H a) : COk c W' co b := by
  cases co with
  | lst fz xs =>
    obtain ⟨vs, h1, h2⟩ := h
    exact ⟨vs, e.trans h1, h2.map x⟩
  | ins k fs =>
    obtain ⟨dx, fv, h1, h2⟩ := h
    exact ⟨dx, fv, e.trans h1, h2.map x⟩
theorem Repf.mono {c : Ct} {W W' : Wd} (w : WOk c W) (x : Ext W W') {fs : List (Nat × AV)} {fv : List (Str × V)} (h : Repf c W fs fv) : Repf c W' fs fv := h.map (x.sees w)
theorem COk.mono {c : Ct} {W W' : Wd} (w : WOk c W) (x : Ext W W') {co : CO} {a : Addr} (h : COk c W co a) (e : W'.H a = W.H a) : COk c W' co a := h.map (x.sees w) e
theorem Reps.length {c : Ct} {W : Wd} : ∀ {as : List AV} {vs : List V}, Reps c W as vs → as.length = vs.length
  | _, _, .nil => rfl
  | _, _, .cons _ t => congrArg Nat.succ (Reps.length t)
theorem Reps.get {c : Ct} {W : Wd} : ∀ {as : List AV} {vs : List V} {i : Nat} {a : AV}, Reps c W as vs → as[i]? = some a → ∃ v, vs[i]? = some v ∧ Rep c W a v
  | _, _, _, _, .nil, h => by simp at h
  | _, _, 0, _, .cons r _, h => by
    simp at h
    subst h
    exact ⟨_, rfl, r⟩
  | _, _, i + 1, a, .cons _ t, h => by
    obtain ⟨v, h1, h2⟩ := Reps.get (i := i) (a := a) t (by simpa using h)
    exact ⟨v, by simpa using h1, h2⟩
theorem Reps.append {c : Ct} {W : Wd} : ∀ {as bs : List AV} {vs ws : List V}, Reps c W as vs → Reps c W bs ws → Reps c W (as ++ bs) (vs ++ ws)
  | _, _, _, _, .nil, s => s
  | _, _, _, _, .cons r t, s => .cons r (Reps.append t s)
theorem Reps.set {c : Ct} {W : Wd} {x : AV} {u : V} (r : Rep c W x u) : ∀ {as : List AV} {vs : List V} (i : Nat), Reps c W as vs → Reps c W (as.set i x) (vs.set i u)
  | _, _, _, .nil => .nil
  | _,
        _, 0, .cons _ t => .cons r t
  | _, _, i + 1, .cons q t => .cons q (Reps.set r i t)
theorem Reps.take {c : Ct} {W : Wd} : ∀ {as : List AV} {vs : List V} (n : Nat), Reps c W as vs → Reps c W (as.take n) (vs.take n)
  | _, _, 0, _ => .nil
  | _, _, _ + 1, .nil => .nil
  | _, _, n + 1, .cons r t => .cons r (Reps.take n t)
theorem Reps.drop {c : Ct} {W : Wd} : ∀ {as : List AV} {vs : List V} (n : Nat), Reps c W as vs → Reps c W (as.drop n) (vs.drop n)
  | _, _, 0, r => r
  | _, _, _ + 1, .nil => .nil
  | _, _, n + 1, .cons _ t => Reps.drop n t
theorem Reps.dropLast {c : Ct} {W : Wd} {as : List AV} {vs : List V} (h : Reps c W as vs) : Reps c W as.dropLast vs.dropLast := by
  rw [List.dropLast_eq_take, List.dropLast_eq_take, h.length]
  exact h.take _
theorem Reps.reverse {c : Ct} {W : Wd} : ∀ {as : List AV} {vs : List V}, Reps c W as vs → Reps c W as.reverse vs.reverse
  | _, _, .nil => .nil
  | _, _, .cons r t => by
    rw [
          List.reverse_cons, List.reverse_cons]
    exact (Reps.reverse t).append (.cons r .nil)

/-! ### a new object -/
def Wd.lay (W : Wd) (p : Addr) (o : HO) : Wd := ⟨W.γ, upd W.H p o, W.cs, W.hid⟩
theorem WOk.in_ne {c : Ct} {W : Wd} (w : WOk c W) {p : Addr} (h : W.H p = none) : ¬ W.In p := fun q => by
  rcases q with ⟨i, hi, e⟩ | q
  · obtain ⟨o, h1, _⟩ := w.kind i hi
    rw [e, h] at h1
    cases h1
  · obtain ⟨⟨o, h1, _⟩, _⟩ := w.hd p q
    rw [h] at h1
    cases h1
theorem WOk.hne {c : Ct} {W : Wd} (w : WOk c W) {p b : Addr} (h : W.H p = none) (hb : W.hid b) : b ≠ p := fun z => by
  obtain ⟨⟨o, h1, _⟩, _⟩ := w.hd b hb
  rw [z, h] at h1
  cases h1
theorem WOk.lay {c : Ct} {W : Wd} (w : WOk c W) {p : Addr} {o : HO} (h : W.H p = none) : WOk c (W.lay p o) ∧ Ext W (W.lay p o) := by
  have x : Ext W (W.lay p o) := ⟨Nat.le_refl _, fun _ _ => rfl, fun b u e n => ⟨by
    show upd W.H p o b = some u
    rw [upd_ne (ne_of_none e h)]
    exact e, n⟩, fun i xs hi e => ⟨e, by
    show upd W.H p o (W.γ i) = _
    rw [upd_ne fun z => w.in_ne h (.inl ⟨i, hi, z⟩)]⟩, fun _ h => h, fun b hb => upd_ne (w.hne h hb)⟩
  have hc : ∀ i, i < W.cs.n → (W.lay p o).H (W.γ i) = W.H (W.γ i) := fun i hi => by
    show upd W.H p o (W.γ i) = _
    rw [upd_ne fun z => w.in_ne h (.inl ⟨i, hi, z⟩)]
  refine ⟨⟨w.inj, fun i hi => ?_, fun i co e => ?_, fun b hb => ?_⟩, x⟩
  · obtain ⟨u, h1, h2⟩ := w.kind i hi
    exact ⟨u, (hc i hi).trans h1, h2⟩
  · obtain ⟨hi, k⟩ := w.ok i co e
    exact ⟨hi, k.mono w x (hc i hi)⟩
  · obtain ⟨⟨u, h1, h2⟩, h3⟩ := w.hd b hb
    exact ⟨⟨u, (x.hk b hb).trans h1, h2⟩, h3⟩
/-- a new cell at p -/
def Wd.newC (W : Wd) (p : Addr) (o : HO) (co : CO) : Wd := ⟨fun i => if i = W.cs.n then p else W.γ i, upd W.H p o, W.cs.new co, W.hid⟩
theorem find_new {W : Wd} {p : Addr} {o : HO} {co : CO} {i : Nat} (hi : i < W.cs.n) : (W.newC p o co).cs.get i = W.cs.get i := by
  show CS.find ((W.cs.n, co) :: W.cs.l) i = CS.find W.cs.l i
  rw [find_cons, if_neg (by omega), if_neg (by omega)]
theorem find_new2 {n : Nat} {l : List (Nat × CO)} {co : CO} {i : Nat} {k : CO} (hi : i ≠ n) (h : CS.find ((n, co) :: l) i = some k) : CS.find l i = some k := by
  rw [find_cons, if_neg (fun z => hi z.symm)] at h
  by_cases e : n < i
  · rw [if_pos e] at h
    cases h
  · rwa [if_neg e] at h
theorem find_new3 {n : Nat} {l : List (Nat × CO)} {co k : CO} (h : CS.find ((n, co) :: l) n = some k) : co = k := by
  rw [find_cons, if_pos rfl] at h
  exact Option.some.inj h
theorem WOk.newC {c : Ct} {W : Wd} (w : WOk c W) {p : Addr} {o : HO} {co : CO} (h : W.H p = none) (ho : isObj o = true) (hk : ∀ W', Ext W W' → W'.H p = some o → COk c W' co p) : WOk c (W.newC p o co) ∧ Ext W (W.newC p o co) := by
  have g : ∀ i, i < W.cs.n → (W.newC p o co).γ i = W.γ i := fun i hi => if_neg (by omega)
  have gn : (W.newC p o co).γ W.cs.n = p := if_pos rfl
  have nin : ∀ b u, W.H b = some u → ¬ W.In b → ¬ (W.newC p o co).In b := fun b u e n q => by
    rcases q with ⟨i, hi, z⟩ | q
    · have hi' : i < W.cs.n + 1 := hi
      by_cases q : i = W.cs.n
      · subst q
        rw [gn] at z
        subst z
        rw [h] at e
        cases e
      · rw [g i (by omega)] at z
        exact n (.inl ⟨i, by omega, z⟩)
    · exact n (.inr q)
  have hl : ∀ b, b ≠ p → (W.newC p o co).H b = W.H b := fun b n => upd_ne n
  have hp : (W.newC p o co).H p = some o := upd_same
  have hc : ∀ i, i < W.cs.n → W.γ i ≠ p := fun i hi z => w.in_ne h (.inl ⟨i, hi, z⟩)
  have x : Ext W (W.newC p o co) := ⟨Nat.le_succ _, g, fun b u e n => ⟨(hl b (ne_of_none e h)).trans e, nin b u e n⟩, fun i xs hi e => ⟨(find_new hi).trans e, hl _ (hc i hi)⟩, fun _ h => h, fun b hb => hl b (w.hne h hb)⟩
  refine ⟨⟨fun i j hi hj e => ?_, fun i hi => ?_, fun i k e => ?_, fun b hb => ?_⟩, x⟩
  · have hi' : i < W.cs.n + 1 := hi
    have hj' : j < W.cs.n + 1 := hj
    by_cases qi : i = W.cs.n
    · by_cases qj : j = W.cs.n
      · omega
      · subst qi
        rw [gn, g j (by omega)] at e
        exact absurd e.symm (hc j (by omega))
    · by_cases qj : j = W.cs.n
      · subst qj
        rw [gn, g i (by omega)] at e
        exact absurd e (hc i (by omega))
      · rw [g i (by omega), g j (by omega)] at e
        exact w.inj i j (by omega) (by omega) e
  · have hi' : i < W.cs.n + 1 := hi
    by_cases qi : i = W.cs.n
    · subst qi
      rw [gn]
      exact ⟨o, hp, ho⟩
    · rw [g i (by omega), hl _ (hc i (by omega))]
      exact w.kind i (by omega)
  · by_cases qi : i = W.cs.n
    · subst qi
      cases find_new3 (l := W.cs.l) e
      rw [gn]
      exact ⟨Nat.lt_succ_self _, hk _ x hp⟩
    · have e := find_new2 (l := W.cs.l) qi e
      obtain ⟨h1, h2⟩ := w.ok i k e
      rw [g i h1]
      exact ⟨Nat.lt_succ_of_lt h1, h2.mono w x (hl _ (hc i h1))⟩
  · obtain ⟨⟨u, h1, h2⟩, h3⟩ := w.hd b hb
    refine ⟨⟨u, (x.hk b hb).trans h1, h2⟩, fun i hi => ?_⟩
    have hi' : i < W.cs.n + 1 := hi
    by_cases q : i = W.cs.n
    · subst q
      rw [gn]
      exact (w.hne h hb).symm
    · rw [g i (by omega)]
      exact h3 i (by omega)
/-- a cell's content is changed -/
def Wd.setC (W : Wd) (k : Nat) (o : HO) (co : CO) : Wd := ⟨W.γ, upd W.H (W.γ k) o, W.cs.set k co, W.hid⟩
theorem WOk.setC {c : Ct} {W : Wd} (w : WOk c W) {k : Nat} {o : HO} {co old : CO} (hg : W.cs.get k = some old) (hf : ∀ xs, old ≠ .lst true xs) (ho : isObj o = true) (hk : ∀ W', Ext W W' → W'.H (W.γ k) = some o → COk c W' co (W.γ k)) : WOk c (W.setC k o co) ∧ Ext W (W.setC k o co) := by
  obtain ⟨hkn, _⟩ := w.ok k old hg
  have hl : ∀ b, b ≠ W.γ k → (W.setC k o co).H b = W.H b := fun b n => upd_ne n
  have hp : (W.setC k o co).H (W.γ k) = some o := upd_same
  have x : Ext W (W.setC k o co) := by
    refine ⟨Nat.le_refl _, fun _ _ => rfl, fun b u e n => ⟨(hl b fun z => n (.inl ⟨k, hkn, z.symm⟩)).trans e, n⟩, fun i xs hi e => ?_, fun _ h => h, fun b hb => hl b ((w.hd b hb).2 k hkn).symm⟩
    have ik : i ≠ k := fun z => by
      subst z
      rw [hg] at e
      exact hf xs (Option.some.inj e)
    exact ⟨(find_put_ne _ _ _ _ ik).trans e, hl _ fun z => ik (w.inj i k hi hkn z)⟩
  refine ⟨⟨w.inj, fun i hi => ?_, fun i kk e => ?_, fun b hb => ⟨(w.hd b hb).1.imp fun u h => ⟨(x.hk b hb).trans h.1, h.2⟩, (w.hd b hb).2⟩⟩, x⟩
  · by_cases z : W.γ i = W.γ k
    · exact ⟨o, by rw [show (W.setC k o co).γ i = W.γ k from z]; exact hp, ho⟩
    · rw [show (W.setC k o co).H ((W.setC k o co).γ i) = W.H (W.γ i) from hl _ z]
      exact w.kind i hi
  · rcases find_put _ _ _ _ _ e with ⟨h1, h2, _⟩ | ⟨h1, h2⟩
    · subst h1 h2
      exact ⟨hkn, hk _ x hp⟩
    · obtain ⟨hi, h3⟩ := w.ok i kk h2
      exact ⟨hi, h3.mono w x (hl _ fun z => h1 (w.inj i k hi hkn z))⟩
/-- the same heap, another look at a cell: it is frozen -/
theorem WOk.frz {c : Ct} {W : Wd} (w : WOk c W) {k : Nat} {fz : Bool} {xs : List AV} (hg : W.cs.get k = some (.lst fz xs)) : WOk c ⟨W.γ, W.H, W.cs.set k (.lst true xs), W.hid⟩ ∧ Ext W ⟨W.γ, W.H, W.cs.set k (.lst true xs), W.hid⟩ := by
  have x : Ext W ⟨W.γ, W.H, W.cs.set k (.lst true xs), W.hid⟩ := by
    refine ⟨Nat.le_refl _, fun _ _ => rfl, fun b u e n => ⟨e, n⟩, fun i ys hi e => ⟨?_, rfl⟩, fun _ h => h, fun _ _ => rfl⟩
    by_cases ik : i = k
    · subst ik
      rw [hg] at e
      have e2 := Option.some.inj e
      injection e2 with _ e3
      subst e3
      exact find_put_self _ _ _ _ hg
    · exact (find_put_ne _ _ _ _ ik).trans e
  refine ⟨⟨w.inj, w.kind, fun i kk e => ?_, w.hd⟩, x⟩
  rcases find_put _ _ _ _ _ e with ⟨h1, h2, _⟩ | ⟨h1, h2⟩
  · subst h1 h2
    obtain ⟨hi, vs, h3, h4⟩ := w.ok _ _ hg
    exact ⟨hi, vs, h3, h4.mono w x⟩
  · obtain ⟨hi, h3⟩ := w.ok i kk h2
    exact ⟨hi, h3.mono w x rfl⟩
/-- cells forgotten: l holds what it holds as W' does, and all of W's -/
def Wd.only (W : Wd) (l : List (Nat × CO)) : Wd := ⟨W.γ, W.H, ⟨W.cs.n, l⟩, W.hid⟩
theorem WOk.drop {c : Ct} {W W' : Wd} (w' : WOk c W') (x : Ext W W') {l : List (Nat × CO)} (hs : ∀ i co, CS.find l i = some co → W'.cs.get i = some co) (hf : ∀ i, i < W.cs.n → CS.find l i = W'.cs.get i) :
    WOk c (W'.only l) ∧ Ext W (W'.only l) := by
  refine ⟨⟨w'.inj, w'.kind, fun i co e => ?_, w'.hd⟩, x.le, x.γ, x.keep, fun i xs hi e => ?_, x.hid, x.hk⟩
  · obtain ⟨h1, h2⟩ := w'.ok i co (hs i co e)
    exact ⟨h1, COk.map (W := W') (W' := W'.only l) ⟨fun _ _ h => h, fun _ _ h n => ⟨h, n⟩, fun _ h => ⟨h, rfl⟩⟩ h2 rfl⟩
  · obtain ⟨h1, h2⟩ := x.fz i xs hi e
    exact ⟨(hf i hi).trans h1, h2⟩
/-- the cells that are older than n -/
def CS.old (n : Nat) (l : List (Nat × CO)) : List (Nat × CO) := List.rec (motive := fun _ => List (Nat × CO)) [] (fun z r ih => match Nat.ble n z.1 with
  | true => ih
  | false => z :: r) l
theorem old_cons (n m : Nat) (co : CO) (r : List (Nat × CO)) : CS.old n ((m, co) :: r) = match Nat.ble n m with
  | true => CS.old n r
  | false => (m, co) :: r := rfl
theorem find_old (n : Nat) : ∀ (l : List (Nat × CO)) (i : Nat), (∀ co, CS.find (CS.old n l) i = some co → i < n) ∧ (i < n → CS.find (CS.old n l) i = CS.find l i)
  | [], i => ⟨fun _ h => (nomatch h), fun _ => rfl⟩
  | (m, co) :: r, i => by
    obtain ⟨h1, h2⟩ := find_old n r i
    rw [old_cons]
    cases e : Nat.ble n m with
    | true =>
      have hm := Nat.le_of_ble_eq_true e
      refine ⟨h1, fun hi => ?_⟩
      show CS.find (CS.old n r) i = _
      rw [find_cons, if_neg (by omega), if_neg (by omega)]
      exact h2 hi
    | false =>
      have hm : ¬ n ≤ m := fun z => by
        rw [Nat.ble_eq_true_of_le z] at e
        cases e
      refine ⟨fun k h => ?_, fun _ => rfl⟩
      have h' : CS.find ((m, co) :: r) i = some k := h
      rw [find_cons] at h'
      by_cases q : i < n
      · exact q
      · rw [if_neg (by omega), if_pos (by omega)] at h'
        cases h'
theorem WOk.young {c : Ct} {W W' : Wd} (w' : WOk c W') (x : Ext W W') : WOk c (W'.only (CS.old W.cs.n W'.cs.l)) ∧ Ext W (W'.only (CS.old W.cs.n W'.cs.l)) :=
  w'.drop x (fun i co h => by
    obtain ⟨h1, h2⟩ := find_old W.cs.n W'.cs.l i
    have := h2 (h1 co h)
    show CS.find W'.cs.l i = some co
    rw [← this]
    exact h) (fun i hi => (find_old W.cs.n W'.cs.l i).2 hi)
end U
end
noncomputable section
namespace U
open PySem PySem.Spec
open PyProof.Rows L2

/-! ## equality of data -/
mutual
inductive Mean (ρ : Rho) : AV → PyData → Prop
  | non : Mean ρ .non .none
  | bl (b : Bool) : Mean ρ (.bl b) (.bool b)
  | int (i : Int) : Mean ρ (.int i) (.int i)
  | str (i : Nat) : i < nStr → Mean ρ (.str i) (.str (tbl i))
  | tup {as : List AV} {ds : List PyData} : Means ρ as ds → Mean ρ (.tup as) (.tuple ds)
  | lst {as : List AV} {ds : List PyData} : Means ρ as ds → Mean ρ (.lst as) (.list ds)
  | base (i : Nat) : i < 4 → Mean ρ (.base i) (.tuple [.int (ρ.p i), .int (ρ.q i)])
  | rat {l : Lin} {p q : Int} : ρ.Is l p q → Mean ρ (.rat l) (.tuple [.int p, .int q])
  | num (i : Nat) : Mean ρ (.num i) (.int (ρ.p i))
  | den (i : Nat) : Mean ρ (.den i) (.int (ρ.q i))
inductive Means (ρ : Rho) : List AV → List PyData → Prop
  | nil : Means ρ [] []
  | cons {a : AV} {d : PyData} {as : List AV} {ds : List PyData} : Mean ρ a d → Means ρ as ds → Means ρ (a :: as) (d :: ds)
end
def ckL (f : AV → Bool) (l : List AV) : Bool := List.rec (motive := fun _ => Bool) true (fun x _ ih => match f x with
  | true => ih
  | false => false) l
theorem ckL_cons (f : AV → Bool) (x : AV) (r : List AV) : ckL f (x :: r) = match f x with
  | true => ckL f r
  | false => false := rfl
def ck1 (ck : AV → Bool) (a : AV) : Bool := match a with
    | .non => true
    | .bl _ => true
    | .int _ => true
    | .str _ => true
    | .num _ => true
    | .den _ => true
    | .base _ => true
    | .rat _ => true
    | .tup xs => ckL ck xs
    | .lst xs => ckL ck xs
    | _ => false
def ck (n : Nat) : AV → Bool := Nat.rec (motive := fun _ => AV → Bool) (fun _ => false) (fun _ ih => ck1 ih) n
theorem strOk_tbl : ∀ i, i < nStr → PyData.strOk (tbl i) = true := by decide +kernel
theorem pair_dp {K : PySem.W.Frag} {H : Hp} {a : Addr} {p q : Int} (h : SqT K H a [.int p, .int q]) : Dp K H (.ref a) (.tuple [.int p, .int q]) := .tup h (.cons (.int p) (.cons (.int q) .nil))
theorem pair_lay (p q : Int) : (PyData.tuple [.int p, .int q]).canLay0 = true := by simp [PyData.canLay0, PyData.canLayAll0]
theorem pair_depth (p q : Int) : (PyData.tuple [.int p, .int q]).depth = 1 := by simp [PyData.depth, PyData.depthAll]
theorem reps_dp {c : Ct} {W : Wd} {n : Nat} (ih : ∀ (a : AV) (v : V), Rep c W a v → ck n a = true → ∃ d, Dp c.K W.H v d ∧ Mean c.ρ a d ∧ d.canLay0 = true ∧ d.depth ≤ n) :
    ∀ (as : List AV) (vs : List V), Reps c W as vs → ckL (ck n) as = true → ∃ ds, DpAll c.K W.H vs ds ∧ Means c.ρ as ds ∧ PyData.canLayAll0 ds = true ∧ PyData.depthAll ds ≤ n
  | _, _, .nil, _ => ⟨[], .nil, .nil, by simp [PyData.canLayAll0], by simp [PyData.depthAll]⟩
  | a :: as, v :: vs, .cons r t, h => by
    rw [ckL_cons] at h
    cases e : ck n a with
    | false =>
      rw [e] at h
      cases h
    | true =>
      rw [e] at h
      obtain ⟨d, d1, d2, d3, d4⟩ := ih a v r e
      obtain ⟨ds, e1, e2, e3, e4⟩ := reps_dp ih as vs t h
      refine ⟨d :: ds, .cons d1 e1, .cons d2 e2, ?_, ?_⟩
      · simp [PyData.canLayAll0, d3, e3]
      · simp only [PyData.depthAll]
        omega
theorem rep_dp {c : Ct} {W : Wd} : ∀ (n : Nat) (a : AV) (v : V), Rep c W a v → ck n a = true → ∃ d, Dp c.K W.H v d ∧ Mean c.ρ a d ∧ d.canLay0 = true ∧ d.depth ≤ n
  | 0, a, v, _, h => by cases h
  | n + 1, a, v, r, h => by
    cases r with
    | non => exact ⟨_, .non, .non, by simp [PyData.canLay0], by simp [PyData.depth]⟩
    | bl b => exact ⟨_, .bl b, .bl b, by simp [PyData.canLay0], by simp [PyData.depth]⟩
    | int b => exact ⟨_, .int b, .int b, by simp [PyData.canLay0], by simp [PyData.depth]⟩
    | str i hi => exact ⟨_, .str _, .str i hi, by simp [PyData.canLay0, strOk_tbl i hi], by simp [PyData.depth]⟩
    | tup ht rs =>
      obtain ⟨ds, e1, e2, e3, e4⟩ := reps_dp (fun a v => rep_dp n a v) _ _ rs h
      exact ⟨.tuple ds, .tup ht.seq e1, .tup e2, by simpa [PyData.canLay0] using e3, by simp only [PyData.depth]; omega⟩
    | lst ht hn rs =>
      obtain ⟨ds, e1, e2, e3, e4⟩ := reps_dp (fun a v => rep_dp n a v) _ _ rs h
      exact ⟨.list ds, .lst (SqL.of ht) e1, .lst e2, by simpa [PyData.canLay0] using e3, by simp only [PyData.depth]; omega⟩
    | cell i hi => cases h
    | base i hi ht => exact ⟨_, pair_dp ht.seq, .base i hi, pair_lay _ _, by rw [pair_depth]; omega⟩
    | rat ht hr => exact ⟨_, pair_dp ht.seq, .rat hr, pair_lay _ _, by rw [pair_depth]; omega⟩
    | num i => exact ⟨_, .int _, .num i, by simp [PyData.canLay0], by simp [PyData.depth]⟩
    | den i => exact ⟨_, .int _, .den i, by simp [PyData.canLay0], by simp [PyData.depth]⟩
theorem shaped_of {d : PyData} {n : Nat} (h1 : d.canLay0 = true) (h2 : d.depth ≤ n) (hn : n ≤ 64) : SeqAt.shaped d = true := by
  show (d.canLay0 && decide (d.depth ≤ 64)) = true
  rw [h1, Bool.true_and]
  exact decide_eq_true (Nat.le_trans h2 hn)

def eqI (i j : Int) : Bool := match i, j with
  | .ofNat a, .ofNat b => Nat.beq a b
  | .negSucc a, .negSucc b => Nat.beq a b
  | _, _ => false
theorem nat_beq {a b : Nat} : Nat.beq a b = decide (a = b) := by
  cases e : Nat.beq a b with
  | true => exact (decide_eq_true (Nat.eq_of_beq_eq_true e)).symm
  | false => exact (decide_eq_false (Nat.ne_of_beq_eq_false e)).symm
theorem eqI_eq (i j : Int) : eqI i j = (i == j) := by
  cases i with
  | ofNat a => cases j with
    | ofNat b =>
      show Nat.beq a b = _
      rw [nat_beq, Bool.eq_iff_iff]
      simp only [decide_eq_true_eq, beq_iff_eq, Int.ofNat.injEq]
    | negSucc b => rfl
  | negSucc a => cases j with
    | ofNat b => rfl
    | negSucc b =>
      show Nat.beq a b = _
      rw [nat_beq, Bool.eq_iff_iff]
      simp
def eqL1 (f : AV → AV → Option Bool) (x : AV) (ih : List AV → Option Bool) (l : List AV) : Option Bool := match l with
  | [] => some false
  | y :: ys => match f x y with
    | some false => some false
    | some true => ih ys
    | none => match ih ys with
      | some false => some false
      | _ => none
def eqL (f : AV → AV → Option Bool) (l : List AV) : List AV → Option Bool := List.rec (motive := fun _ => List AV → Option Bool) (fun l => match l with
  | [] => some true
  | _ :: _ => some false) (fun x _ ih => eqL1 f x ih) l
def eqA1 (ih : AV → AV → Option Bool) (a b : AV) : Option Bool := match a with
    | .non => (match b with
      | .non => some true
      | _ => none)
    | .bl x => (match b with
      | .bl y => some (x == y)
      | _ => none)
    | .int i => (match b with
      | .int j => some (eqI i j)
      | .non => some false
      | _ => none)
    | .str i => (match b with
      | .str j => some (Nat.beq i j)
      | _ => none)
    | .num i => (match b with
      | .num j => (match Nat.beq i j with
        | true => some true
        | false => none)
      | _ => none)
    | .den i => (match b with
      | .den j => (match Nat.beq i j with
        | true => some true
        | false => none)
      | _ => none)
    | .base i => (match b with
      | .base j => some (Nat.beq i j)
      | _ => none)
    | .tup xs => (match b with
      | .tup ys => eqL ih xs ys
      | _ => none)
    | .lst xs => (match b with
      | .lst ys => eqL ih xs ys
      | _ => none)
    | _ => none
def eqA (n : Nat) : AV → AV → Option Bool := Nat.rec (motive := fun _ => AV → AV → Option Bool) (fun _ _ => none) (fun _ ih => eqA1 ih) n
def Rho.nn (ρ : Rho) (i : Nat) : Int := match i with
  | 0 => ρ.n0
  | 1 => ρ.n1
  | 2 => ρ.n2
  | _ => ρ.n3
theorem ev_unit (ρ : Rho) (i : Nat) : ρ.ev (unitL i) = ρ.nn i := by
  match i with
  | 0 => simp [Rho.ev, unitL, Rho.nn]
  | 1 => simp [Rho.ev, unitL, Rho.nn]
  | 2 => simp [Rho.ev, unitL, Rho.nn]
  | n + 3 => simp [Rho.ev, unitL, Rho.nn]
theorem nn_inj {ρ : Rho} (ok : ρ.Ok) {i j : Nat} (hi : i < 4) (hj : j < 4) (h : ρ.nn i = ρ.nn j) : i = j := by
  have h0 := ok.a0
  have h1 := ok.a1
  have h2 := ok.a2
  match i, j, hi, hj with
  | 0, 0, _, _ => rfl
  | 1, 1, _, _ => rfl
  | 2, 2, _, _ => rfl
  | 3, 3, _, _ => rfl
  | 0, 1, _, _ => simp only [Rho.nn] at h; omega
  | 0, 2, _, _ => simp only [Rho.nn] at h; omega
  | 0, 3, _, _ => simp only [Rho.nn] at h; omega
  | 1, 0, _, _ => simp only [Rho.nn] at h; omega
  | 1, 2, _, _ => simp only [Rho.nn] at h; omega
  | 1, 3, _, _ => simp only [Rho.nn] at h; omega
  | 2, 0, _, _ => simp only [Rho.nn] at h; omega
  | 2, 1, _, _ => simp only [Rho.nn] at h; omega
  | 2, 3, _, _ => simp only [Rho.nn] at h; omega
  | 3, 0, _, _ => simp only [Rho.nn] at h; omega
  | 3, 1, _, _ => simp only [Rho.nn] at h; omega
  | 3, 2, _, _ => simp only [Rho.nn] at h; omega
theorem base_ne {ρ : Rho} (ok : ρ.Ok) {i j : Nat} (hi : i < 4) (hj : j < 4) (n : i ≠ j) : ¬ (ρ.p i = ρ.p j ∧ ρ.q i = ρ.q j) := fun ⟨h1, h2⟩ => by
  obtain ⟨a1, _, a2⟩ := ok.base i hi
  obtain ⟨b1, _, b2⟩ := ok.base j hj
  rw [ev_unit] at a2 b2
  rw [h1, h2, b2] at a2
  exact n (nn_inj ok hi hj (Int.eq_of_mul_eq_mul_left (by omega) a2).symm)
theorem eqL_ok {ρ : Rho} {f : AV → AV → Option Bool} (ih : ∀ a b d e r, Mean ρ a d → Mean ρ b e → f a b = some r → PyData.eqv d e = r) :
    ∀ (as bs : List AV) (ds es : List PyData) (r : Bool), Means ρ as ds → Means ρ bs es → eqL f as bs = some r → PyData.eqvAll ds es = r
  | [], [], _, _, r, .nil, .nil, h => by
    cases h
    simp [PyData.eqvAll]
  | [], _ :: _, _, _, r, .nil, .cons _ _, h => by
    cases h
    simp [PyData.eqvAll]
  | _ :: _, [], _, _, r, .cons _ _, .nil, h => by
    cases h
    simp [PyData.eqvAll]
  | a :: as, b :: bs, _, _, r, .cons m1 t1, .cons m2 t2, h => by
    replace h : eqL1 f a (eqL f as) (b :: bs) = some r := h
    unfold eqL1 at h
    simp only at h
    simp only [PyData.eqvAll]
    cases e : f a b with
    | none =>
      rw [e] at h
      have h' : (match eqL f as bs with
        | some false => some false
        | _ => none) = some r := h
      cases e2 : eqL f as bs with
      | none =>
        rw [e2] at h'
        cases h'
      | some z =>
        rw [e2] at h'
        cases z with
        | true => cases h'
        | false =>
          cases h'
          rw [eqL_ok ih as bs _ _ false t1 t2 e2, Bool.and_false]
    | some z =>
      rw [e] at h
      cases z with
      | false =>
        cases h
        rw [ih a b _ _ false m1 m2 e, Bool.false_and]
      | true => rw [ih a b _ _ true m1 m2 e, Bool.true_and, eqL_ok ih as bs _ _ r t1 t2 h]
theorem eqA_ok {ρ : Rho} (ok : ρ.Ok) : ∀ (n : Nat) (a b : AV) (d e : PyData) (r : Bool), Mean ρ a d → Mean ρ b e → eqA n a b = some r → PyData.eqv d e = r
  | 0, _, _, _, _, _, _, _, h => by cases h
  | n + 1, a, b, d, e, r, m1, m2, h => by
    replace h : eqA1 (eqA n) a b = some r := h
    unfold eqA1 at h
    cases m1 with
    | non => cases m2 with
      | non => cases h; rfl
      | _ => cases h
    | bl x => cases m2 with
      | bl y => cases h; rfl
      | _ => cases h
    | int i => cases m2 with
      | int j =>
        have h' : some (eqI i j) = some r := h
        cases h'
        rw [eqI_eq]
        simp only [PyData.eqv]
      | non =>
        cases h
        simp [PyData.eqv]
      | _ => cases h
    | str i hi => cases m2 with
      | str j hj =>
        have h' : some (Nat.beq i j) = some r := h
        cases h'
        simp only [PyData.eqv]
        rw [nat_beq, Bool.eq_iff_iff]
        simp only [beq_iff_eq, decide_eq_true_eq]
        exact ⟨fun z => tbl_inj hi hj z, fun z => by rw [z]⟩
      | _ => cases h
    | num i => cases m2 with
      | num j =>
        have h' : (match Nat.beq i j with
          | true => some true
          | false => none) = some r := h
        cases z : Nat.beq i j with
        | false =>
          rw [z] at h'
          cases h'
        | true =>
          rw [z] at h'
          cases h'
          rw [Nat.eq_of_beq_eq_true z]
          simp only [PyData.eqv, beq_self_eq_true]
      | _ => cases h
    | den i => cases m2 with
      | den j =>
        have h' : (match Nat.beq i j with
          | true => some true
          | false => none) = some r := h
        cases z : Nat.beq i j with
        | false =>
          rw [z] at h'
          cases h'
        | true =>
          rw [z] at h'
          cases h'
          rw [Nat.eq_of_beq_eq_true z]
          simp only [PyData.eqv, beq_self_eq_true]
      | _ => cases h
    | base i hi => cases m2 with
      | base j hj =>
        have h' : some (Nat.beq i j) = some r := h
        cases h'
        simp only [
              PyData.eqv, PyData.eqvAll]
        by_cases ij : i = j
        · subst ij
          rw [Nat.beq_refl]
          simp
        · have q := base_ne ok hi hj ij
          rw [nat_beq, decide_eq_false ij]
          rw [Bool.and_true, Bool.and_eq_false_iff]
          by_cases z : ρ.p i = ρ.p j
          · exact .inr (beq_eq_false_iff_ne.mpr fun y => q ⟨z, y⟩)
          · exact .inl (beq_eq_false_iff_ne.mpr z)
      | _ => cases h
    | rat _ => cases h
    | tup t1 => cases m2 with
      | tup t2 =>
        simp only [PyData.eqv]
        exact eqL_ok (fun a b d e r => eqA_ok ok n a b d e r) _ _ _ _ _ t1 t2 h
      | _ => cases h
    | lst t1 => cases m2 with
      | lst t2 =>
        simp only [PyData.eqv]
        exact eqL_ok (fun a b d e r => eqA_ok ok n a b d e r) _ _ _ _ _ t1 t2 h
      | _ => cases h

/-! ## runs -/
inductive Rs (α : Type) where
  | err
  | ok (a : α) (cs : CS)
def Rs.bind {α β : Type} (r : Rs α) (k : α → CS → Rs β) : Rs β := match r with
  | .err => .err
  | .ok a cs => k a cs
theorem bind_ok {α β : Type} {r : Rs α} {k : α → CS → Rs β} {b : β} {cs' : CS} (h : r.bind k = .ok b cs') : ∃ a cs, r = .ok a cs ∧ k a cs = .ok b cs' := by
  cases r with
  | err => cases h
  | ok a cs => exact ⟨a, cs, rfl, h⟩
abbrev Sl := List AV
abbrev Ex := Sl → CS → Rs AV
abbrev Exs := Sl → CS → Rs (List AV)
abbrev Tst := Sl → CS → Rs Bool
abbrev Op1 := AV → CS → Rs AV
abbrev Op2 := AV → AV → CS → Rs AV
abbrev Fn := List AV → CS → Rs AV
structure SlOk (c : Ct) (W : Wd) (sl : Sl) (σ : L2.St) : Prop where
  len : sl.length = σ.length
  at_ : ∀ (i : Nat) (a : AV), sl[i]? = some a → a = .und ∨ ∃ v, σ[i]? = some (some v) ∧ Rep c W a v
theorem SlOk.mono {c : Ct} {W W' : Wd} {sl : Sl} {σ : L2.St} (s : SlOk c W sl σ) (w : WOk c W) (x : Ext W W') : SlOk c W' sl σ :=
  ⟨s.len, fun i a h => (s.at_ i a h).imp id fun ⟨v, h1, h2⟩ => ⟨v, h1, h2.mono w x⟩⟩

/-- what stands behind a run: the value a, in a later world with the cells cs' -/
def Fin (c : Ct) (W : Wd) (a : AV) (cs' : CS) (Q : VK) : Prop := ∀ v W', WOk c W' → Ext W W' → W'.cs = cs' → Rep c W' a v → Q v W'.H
theorem Fin.later {c : Ct} {W W1 : Wd} {a : AV} {cs' : CS} {Q : VK} (f : Fin c W a cs' Q) (x : Ext W W1) : Fin c W1 a cs' Q := fun v W' w y e r => f v W' w (x.trans y) e r
def evE (c : Ct) (f : Ex) : TE := fun σ H Q => ∃ W sl a cs', W.H = H ∧ WOk c W ∧ SlOk c W sl σ ∧ f sl W.cs = .ok a cs' ∧ Fin c W a cs' Q
def evA (c : Ct) (f : Exs) : TA := fun σ H Q => ∃ W sl as cs', W.H = H ∧ WOk c W ∧ SlOk c W sl σ ∧ f sl W.cs = .ok as cs' ∧ ∀ vs W', WOk c W' → Ext W W' → W'.cs = cs' → Reps c W' as vs → Q vs W'.H
def evT (c : Ct) (f : Tst) : TT := fun σ H Q => ∃ W sl b cs', W.H = H ∧ WOk c W ∧ SlOk c W sl σ ∧ f sl W.cs = .ok b cs' ∧ ∀ W', WOk c W' → Ext W W' → W'.cs = cs' → Q b W'.H
def ev1 (c : Ct) (g : Op1) : V → Hp → VK → Prop := fun x H Q => ∃ W a r cs', W.H = H ∧ WOk c W ∧ Rep c W a x ∧ g a W.cs = .ok r cs' ∧ Fin c W r cs' Q
def ev2 (c : Ct) (g : Op2) : R2 := fun x y H Q => ∃ W a b r cs', W.H = H ∧ WOk c W ∧ Rep c W a x ∧ Rep c W b y ∧ g a b W.cs = .ok r cs' ∧ Fin c W r cs' Q
def evF (c : Ct) (g : Fn) : List V → Hp → VK → Prop := fun vs H Q => ∃ W as r cs', W.H = H ∧ WOk c W ∧ Reps c W as vs ∧ g as W.cs = .ok r cs' ∧ Fin c W r cs' Q
theorem _root_.L2.PE.imp {X : Cx} {e : Expr} {t t' : TE} (p : PE X e t) (h : ∀ σ H Q, t' σ H Q → t σ H Q) : PE X e t' := ⟨fun pins s σ H Q I q => p.run pins s σ H Q I (h σ H Q q)⟩
theorem _root_.L2.PT.imp {X : Cx} {e : Expr} {t t' : TT} (p : PT X e t) (h : ∀ σ H Q, t' σ H Q → t σ H Q) : PT X e t' := ⟨fun pins s σ H Q I q => p.run pins s σ H Q I (h σ H Q q)⟩
theorem _root_.L2.PW.imp {X : Cx} {e : Expr} {t t' : TT} (p : PW X e t) (h : ∀ σ H Q, t' σ H Q → t σ H Q) : PW X e t' := ⟨fun wh pins s σ H Q I q => p.run wh pins s σ H Q I (h σ H Q q)⟩
theorem _root_.L2.PA.imp {X : Cx} {es : List Expr} {t t' : TA} (p : PA X es t) (h : ∀ σ H Q, t' σ H Q → t σ H Q) : PA X es t' := ⟨fun pos pins s σ H Q I q => p.run pos pins s σ H Q I (h σ H Q q)⟩
theorem _root_.L2.PS.imp {X : Cx} {st : Stmt} {t t' : TS} (p : PS X st t) (h : ∀ D σ H, t' D σ H → t D σ H) : PS X st t' := ⟨fun pins s σ H D I q => p.run pins s σ H D I (h D σ H q)⟩
theorem _root_.L2.PSs.imp {X : Cx} {st : List Stmt} {t t' : TS} (p : PSs X st t) (h : ∀ D σ H, t' D σ H → t D σ H) : PSs X st t' := ⟨fun pins s σ H D I q => p.run pins s σ H D I (h D σ H q)⟩

/-! ### forced values -/
def frN {α : Type} (n : Nat) (k : Nat → α) : α := match n with
  | 0 => k 0
  | m + 1 => k (m + 1)
theorem frN_eq {α : Type} (n : Nat) (k : Nat → α) : frN n k = k n := by cases n <;> rfl
def frI {α : Type} (i : Int) (k : Int → α) : α := match i with
  | .ofNat n => frN n fun n => k (.ofNat n)
  | .negSucc n => frN n fun n => k (.negSucc n)
theorem frI_eq {α : Type} (i : Int) (k : Int → α) : frI i k = k i := by
  cases i with
  | ofNat n => exact frN_eq n fun n => k (.ofNat n)
  | negSucc n => exact frN_eq n fun n => k (.negSucc n)
def frB {α : Type} (b : Bool) (k : Bool → α) : α := match b with
  | true => k true
  | false => k false
theorem frB_eq {α : Type} (b : Bool) (k : Bool → α) : frB b k = k b := by cases b <;> rfl

/-! ### names, constants -/
def getS (l : Sl) : Nat → AV := List.rec (motive := fun _ => Nat → AV) (fun _ => .und) (fun a _ ih n => Nat.rec (motive := fun _ => AV) a (fun m _ => ih m) n) l
def setS (l : Sl) : Nat → AV → Sl := List.rec (motive := fun _ => Nat → AV → Sl) (fun _ _ => []) (fun a r ih n v => Nat.rec (motive := fun _ => Sl) (v :: r) (fun m _ => a :: ih m v) n) l
theorem setS_eq : ∀ (l : Sl) (i : Nat) (a : AV), setS l i a = l.set i a
  | [], _, _ => rfl
  | _ :: _, 0, _ => rfl
  | b :: r, n + 1, a => congrArg (b :: ·) (setS_eq r n a)
def appS (l m : List AV) : List AV := List.rec (motive := fun _ => List AV) m (fun a _ ih => a :: ih) l
theorem appS_eq : ∀ l m : List AV, appS l m = l ++ m
  | [], _ => rfl
  | b :: r, m => congrArg (b :: ·) (appS_eq r m)
theorem getS_at : ∀ (sl : Sl) (i : Nat), getS sl i ≠ .und → sl[i]? = some (getS sl i)
  | [], _, h => absurd rfl h
  | a :: _, 0, _ => rfl
  | _ :: r, n + 1, h => by
    rw [List.getElem?_cons_succ]
    exact getS_at r n h
def okV (a : AV) (cs : CS) : Rs AV := match a with
  | .und => .err
  | .non => .ok .non cs
  | .bl b => .ok (.bl b) cs
  | .int i => .ok (.int i) cs
  | .str n => .ok (.str n) cs
  | .tup xs => .ok (.tup xs) cs
  | .lst xs => .ok (.lst xs) cs
  | .cell n => .ok (.cell n) cs
  | .base i => .ok (.base i) cs
  | .rat l => .ok (.rat l) cs
  | .num i => .ok (.num i) cs
  | .den i => .ok (.den i) cs
theorem okV_ok {a b : AV} {cs cs' : CS} (h : okV a cs = .ok b cs') : a = b ∧ cs = cs' ∧ a ≠ .und := by
  cases a <;> first | (cases h; done) | (cases h; exact ⟨rfl, rfl, fun z => nomatch z⟩)
def cVar (i : Nat) : Ex := fun sl cs => okV (getS sl i) cs
def cK (a : AV) : Ex := fun _ cs => .ok a cs
section
variable {c : Ct} {X : Cx} {e a b : Expr} {pos : Pos} {f g : Ex}
theorem r_var (i : Nat) {x : Str} (p : PE X (.Name x pos) (tVar i)) : PE X (.Name x pos) (evE c (cVar i)) := p.imp fun σ H Q ⟨W, sl, a, cs', hH, w, s, hf, k⟩ => by
  obtain ⟨h1, h2, h3⟩ := okV_ok hf
  subst h1
  rcases s.at_ i _ (getS_at sl i h3) with z | ⟨v, hv, r⟩
  · exact absurd z h3
  · subst hH
    exact ⟨v, hv, k v W w (Ext.refl W) h2 r⟩
theorem r_const {v : V} {a : AV} (p : PE X e (tC v)) (h : ∀ W, Rep c W a v) : PE X e (evE c (cK a)) := p.imp fun σ H Q ⟨W, sl, r, cs', hH, w, s, hf, k⟩ => by
  cases hf
  subst hH
  exact k v W w (Ext.refl W) rfl (h W)
theorem r_int {i j} : PE X (.Constant (.int i) j pos) (evE c (cK (.int i))) := r_const pe_int fun _ => .int i
theorem r_bl {b j} : PE X (.Constant (.bool b) j pos) (evE c (cK (.bl b))) := r_const pe_bl fun _ => .bl b
theorem r_non {j} : PE X (.Constant .none j pos) (evE c (cK .non)) := r_const pe_non fun _ => .non
theorem r_str (n : Nat) {j} {x : Str} (h : x = tbl n := by rfl) (hn : n < nStr := by decide) : PE X (.Constant (.str x) j pos) (evE c (cK (.str n))) := r_const pe_str fun _ => by
  rw [h]
  exact .str n hn

/-! ### operations -/
def cBin (h : Op2) (f g : Ex) : Ex := fun sl cs => (f sl cs).bind fun a cs1 => (g sl cs1).bind fun b cs2 => h a b cs2
def cUn (h : Op1) (f : Ex) : Ex := fun sl cs => (f sl cs).bind h
theorem ev_bin {h : Op2} (σ : L2.St) (H : Hp) (Q : VK) (q : evE c (cBin h f g) σ H Q) : tOp (ev2 c h) (evE c f) (evE c g) σ H Q := by
  obtain ⟨W, sl, r, cs', hH, w, s, hf, k⟩ := q
  obtain ⟨a, cs1, h1, hf⟩ := bind_ok hf
  obtain ⟨b, cs2, h2, h3⟩ := bind_ok hf
  refine ⟨W, sl, a, cs1, hH, w, s, h1, fun x W1 w1 x1 e1 r1 => ⟨W1, sl, b, cs2, rfl, w1, s.mono w x1, by rw [e1]; exact h2, fun y W2 w2 x2 e2 r2 => ?_⟩⟩
  exact ⟨W2, a, b, r, cs', rfl, w2, r1.mono w1 x2, r2, by rw [e2]; exact h3, k.later (x1.trans x2)⟩
theorem ev_un {h : Op1} (σ : L2.St) (H : Hp) (Q : VK) (q : evE c (cUn h f) σ H Q) : tUn (ev1 c h) (evE c f) σ H Q := by
  obtain ⟨W, sl, r, cs', hH, w, s, hf, k⟩ := q
  obtain ⟨a, cs1, h1, h2⟩ := bind_ok hf
  exact ⟨W, sl, a, cs1, hH, w, s, h1, fun x W1 w1 x1 e1 r1 => ⟨W1, a, r, cs', rfl, w1, r1, by rw [e1]; exact h2, k.later x1⟩⟩
theorem r_op {op : Operator} {h : Op2} (ho : OpR X (binaryOp op) (ev2 c h)) (ha : PE X a (evE c f)) (hb : PE X b (evE c g)) : PE X (.BinOp a op b pos) (evE c (cBin h f g)) := (pe_op ho ha hb).imp ev_bin
theorem r_un {op : UnaryOp} {h : Op1} (ho : UnR X (unaryOp op) (ev1 c h)) (ha : PE X a (evE c f)) : PE X (.UnaryOp op a pos) (evE c (cUn h f)) := (pe_un ho ha).imp ev_un
theorem r_cmp {op : CmpOp} {h : Op2} (ho : OpR X (compareOp op) (ev2 c h)) (ha : PE X a (evE c f)) (hb : PE X b (evE c g)) (hm : behindInMarks op b = false := by first | exact nomark _ | rfl) : PE X (.Compare a [op] [b] pos) (evE c (cBin h f g)) := (pe_cmpR ho ha hb hm).imp ev_bin
theorem r_ix {h : Op2} (hr : IxR X (ev2 c h)) (ha : PE X a (evE c f)) (hb : PE X b (evE c g)) (hs : PlainIx b := by intro _ _; rfl) : PE X (.Subscript a b pos) (evE c (cBin h f g)) := (pe_ix hr ha hb hs).imp ev_bin

/-! ### tests -/
def tOf (f : Ex) : Tst := fun sl cs => match f sl cs with
  | .ok (.bl b) cs' => .ok b cs'
  | _ => .err
theorem tOf_ok {sl : Sl} {cs cs' : CS} {b : Bool} (h : tOf f sl cs = .ok b cs') : f sl cs = .ok (.bl b) cs' := by
  unfold tOf at h
  split at h
  · rename_i b0 cs0 e
    cases h
    exact e
  · cases h
theorem rep_bl {c : Ct} {W : Wd} {b : Bool} {v : V} (r : Rep c W (.bl b) v) : v = .bl b := by
  cases r
  rfl
theorem ev_tB (σ : L2.St) (H : Hp) (Q : Bool → Hp → Prop) (q : evT c (tOf f) σ H Q) : tB (evE c f) σ H Q := by
  obtain ⟨W, sl, b, cs', hH, w, s, hf, k⟩ := q
  exact ⟨W, sl, _, cs', hH, w, s, tOf_ok hf, fun v W' w' x e r => ⟨b, rep_bl r, k W' w' x e⟩⟩
theorem rt_val (h : PE X e (evE c f)) (he : ∀ whole, isTrue e X.env whole = (do let v ← whole; standAt e.pos; holding [v] (truthy v)) := by intro _; rfl) : PT X e (evT c (tOf f)) := (pt_val h he).imp ev_tB
theorem rt_cmp {op : CmpOp} {h : Op2} (ho : OpR X (compareOp op) (ev2 c h)) (ha : PE X a (evE c f)) (hb : PE X b (evE c g)) (hm : behindInMarks op b = false := by first | exact nomark _ | rfl) : PT X (.Compare a [op] [b] pos) (evT c (tOf (cBin h f g))) :=
  (pt_cmpR ho ha hb hm).imp fun σ H Q q => ev_bin σ H _ (ev_tB σ H Q q)
def tNotB (t : Tst) : Tst := fun sl cs => match t sl cs with
  | .ok b cs' => (match b with
    | true => .ok false cs'
    | false => .ok true cs')
  | .err => .err
def tAndB (t u : Tst) : Tst := fun sl cs => match t sl cs with
  | .ok b cs' => (match b with
    | true => u sl cs'
    | false => .ok false cs')
  | .err => .err
def tOrB (t u : Tst) : Tst := fun sl cs => match t sl cs with
  | .ok b cs' => (match b with
    | true => .ok true cs'
    | false => u sl cs')
  | .err => .err
theorem rt_not {t : Tst} (h : PT X a (evT c t)) : PT X (.UnaryOp .Not a pos) (evT c (tNotB t)) := (pt_not h).imp fun σ H Q ⟨W, sl, b, cs', hH, w, s, hf, k⟩ => by
  unfold tNotB at hf
  split at hf
  · rename_i b0 cs0 e
    refine ⟨W, sl, b0, cs0, hH, w, s, e, fun W' w' x ec => ?_⟩
    cases b0 <;> (cases hf; exact k W' w' x ec)
  · cases hf
theorem ev_and {t u : Tst} (σ : L2.St) (H : Hp) (Q : Bool → Hp → Prop) (q : evT c (tAndB t u) σ H Q) : tAnd (evT c t) (evT c u) σ H Q := by
  obtain ⟨W, sl, b, cs', hH, w, s, hf, k⟩ := q
  unfold tAndB at hf
  split at hf
  · rename_i b0 cs0 e
    refine ⟨W, sl, b0, cs0, hH, w, s, e, fun W' w' x ec => ?_⟩
    cases b0 with
    | true => exact iteT ⟨W', sl, b, cs', rfl, w', s.mono w x, by rw [ec]; exact hf, fun W2 w2 x2 e2 => k W2 w2 (x.trans x2) e2⟩
    | false =>
      cases hf
      exact iteF (k W' w' x ec)
  · cases hf
theorem ev_or {t u : Tst} (σ : L2.St) (H : Hp) (Q : Bool → Hp → Prop) (q : evT c (tOrB t u) σ H Q) : tOr (evT c t) (evT c u) σ H Q := by
  obtain ⟨W, sl, b, cs', hH, w, s, hf, k⟩ := q
  unfold tOrB at hf
  split at hf
  · rename_i b0 cs0 e
    refine ⟨W, sl, b0, cs0, hH, w, s, e, fun W' w' x ec => ?_⟩
    cases b0 with
    | true =>
      cases hf
      exact iteT (k W' w' x ec)
    | false => exact iteF ⟨W', sl, b, cs', rfl, w', s.mono w x, by rw [ec]; exact hf, fun W2 w2 x2 e2 => k W2 w2 (x.trans x2) e2⟩
  · cases hf
theorem rw_and1 {t : Tst} (h : PT X a (evT c t)) : PW X (.BoolOp .And [a] pos) (evT c t) := pw_and1 h
theorem rw_or1 {t : Tst} (h : PT X a (evT c t)) : PW X (.BoolOp .Or [a] pos) (evT c t) := pw_or1 h
theorem rw_and {t u : Tst} {rest : List Expr} (h : PT X a (evT c t)) (h2 : PW X (.BoolOp .And (b :: rest) pos) (evT c u)) : PW X (.BoolOp .And (a :: b :: rest) pos) (evT c (tAndB t u)) := (pw_and h h2).imp ev_and
theorem rw_or {t u : Tst} {rest : List Expr} (h : PT X a (evT c t)) (h2 : PW X (.BoolOp .Or (b :: rest) pos) (evT c u)) : PW X (.BoolOp .Or (a :: b :: rest) pos) (evT c (tOrB t u)) := (pw_or h h2).imp ev_or
/-- the same as values -/
def cOfT (t : Tst) : Ex := fun sl cs => match t sl cs with
  | .ok b cs' => (match b with
    | true => .ok (.bl true) cs'
    | false => .ok (.bl false) cs')
  | .err => .err
theorem cOfT_ok {t : Tst} {sl : Sl} {cs cs' : CS} {a : AV} (h : cOfT t sl cs = .ok a cs') : ∃ b, a = .bl b ∧ t sl cs = .ok b cs' := by
  unfold cOfT at h
  split at h
  · rename_i b0 cs0 e
    cases b0 <;> (cases h; exact ⟨_, rfl, e⟩)
  · cases h
theorem r_one {op : BoolOp} (h : PE X a (evE c f)) : PE X (.BoolOp op [a] pos) (evE c f) := pe_one h
theorem r_and {rest : List Expr} (h : PE X a (evE c f)) (h2 : PE X (.BoolOp .And (b :: rest) pos) (evE c g)) : PE X (.BoolOp .And (a :: b :: rest) pos) (evE c (cOfT (tAndB (tOf f) (tOf g)))) := (pe_and h h2).imp fun σ H Q ⟨W, sl, r, cs', hH, w, s, hf, k⟩ => by
  obtain ⟨z, rfl, hz⟩ := cOfT_ok hf
  unfold tAndB at hz
  split at hz
  · rename_i b0 cs0 e
    refine ⟨W, sl, .bl b0, cs0, hH, w, s, tOf_ok e, fun v W' w' x ec r => ⟨b0, rep_bl r, ?_⟩⟩
    cases b0 with
    | true => exact iteT ⟨W', sl, .bl z, cs', rfl, w', s.mono w x, by rw [ec]; exact tOf_ok hz, k.later x⟩
    | false =>
      cases hz
      exact iteF (k _ W' w' x ec (.bl false))
  · cases hz
theorem r_or {rest : List Expr} (h : PE X a (evE c f)) (h2 : PE X (.BoolOp .Or (b :: rest) pos) (evE c g)) : PE X (.BoolOp .Or (a :: b :: rest) pos) (evE c (cOfT (tOrB (tOf f) (tOf g)))) := (pe_or h h2).imp fun σ H Q ⟨W, sl, r, cs', hH, w, s, hf, k⟩ => by
  obtain ⟨z, rfl, hz⟩ := cOfT_ok hf
  unfold tOrB at hz
  split at hz
  · rename_i b0 cs0 e
    refine ⟨W, sl, .bl b0, cs0, hH, w, s, tOf_ok e, fun v W' w' x ec r => ⟨b0, rep_bl r, ?_⟩⟩
    cases b0 with
    | true =>
      cases hz
      exact iteT (k _ W' w' x ec (.bl true))
    | false => exact iteF ⟨W', sl, .bl z, cs', rfl, w', s.mono w x, by rw [ec]; exact tOf_ok hz, k.later x⟩
  · cases hz
theorem r_not (h : PE X a (evE c f)) : PE X (.UnaryOp .Not a pos) (evE c (cOfT (tNotB (tOf f)))) := (pe_not h).imp fun σ H Q ⟨W, sl, r, cs', hH, w, s, hf, k⟩ => by
  obtain ⟨z, rfl, hz⟩ := cOfT_ok hf
  unfold tNotB at hz
  split at hz
  · rename_i b0 cs0 e
    refine ⟨W, sl, .bl b0, cs0, hH, w, s, tOf_ok e, fun v W' w' x ec r => ⟨b0, rep_bl r, ?_⟩⟩
    cases b0 <;> (cases hz; exact k _ W' w' x ec (.bl _))
  · cases hz
def cIf (t : Tst) (f g : Ex) : Ex := fun sl cs => match t sl cs with
  | .ok b cs' => (match b with
    | true => f sl cs'
    | false => g sl cs')
  | .err => .err
theorem r_if {t : Tst} (ht : PT X e (evT c t)) (ha : PE X a (evE c f)) (hb : PE X b (evE c g)) : PE X (.IfExp e a b pos) (evE c (cIf t f g)) := (pe_ifExp ht ha hb).imp fun σ H Q ⟨W, sl, r, cs', hH, w, s, hf, k⟩ => by
  unfold cIf at hf
  split at hf
  · rename_i b0 cs0 e
    refine ⟨W, sl, b0, cs0, hH, w, s, e, fun W' w' x ec => ?_⟩
    cases b0 with
    | true => exact iteT ⟨W', sl, r, cs', rfl, w', s.mono w x, by rw [ec]; exact hf, k.later x⟩
    | false => exact iteF ⟨W', sl, r, cs', rfl, w', s.mono w x, by rw [ec]; exact hf, k.later x⟩
  · cases hf
def onB (r : Rs AV) (k : Bool → CS → Rs AV) : Rs AV := match r with
  | .ok (.bl b) cs => k b cs
  | _ => .err
theorem onB_ok {r : Rs AV} {k : Bool → CS → Rs AV} {a : AV} {cs' : CS} (h : onB r k = .ok a cs') : ∃ b cs, r = .ok (.bl b) cs ∧ k b cs = .ok a cs' := by
  unfold onB at h
  split at h
  · rename_i b0 cs0
    exact ⟨b0, cs0, rfl, h⟩
  · cases h
/-- a op1 b op2 c -/
def cChain (h h' : Op2) (f g k : Ex) : Ex := fun sl cs => (f sl cs).bind fun a cs1 => (g sl cs1).bind fun b cs2 => onB (h a b cs2) fun z cs3 => match z with
  | true => (k sl cs3).bind fun d cs4 => h' b d cs4
  | false => .ok (.bl false) cs3
theorem ev_chain {h h' : Op2} {k : Ex} (σ : L2.St) (H : Hp) (Q : VK) (q : evE c (cChain h h' f g k) σ H Q) : tChain (ev2 c h) (ev2 c h') (evE c f) (evE c g) (evE c k) σ H Q := by
  obtain ⟨W, sl, r, cs', hH, w, s, hf, fin⟩ := q
  obtain ⟨a, cs1, h1, hf⟩ := bind_ok hf
  obtain ⟨b, cs2, h2, hf⟩ := bind_ok hf
  obtain ⟨z, cs3, h3, hf⟩ := onB_ok hf
  refine ⟨W, sl, a, cs1, hH, w, s, h1, fun x W1 w1 x1 e1 r1 => ⟨W1, sl, b, cs2, rfl, w1, s.mono w x1, by rw [e1]; exact h2, fun y W2 w2 x2 e2 r2 => ?_⟩⟩
  refine ⟨W2, a, b, .bl z, cs3, rfl, w2, r1.mono w1 x2, r2, by rw [e2]; exact h3, fun v W3 w3 x3 ec r3 => ⟨z, rep_bl r3, ?_⟩⟩
  cases z with
  | true =>
    obtain ⟨d, cs4, h4, h5⟩ := bind_ok hf
    refine iteT ⟨W3, sl, d, cs4, rfl, w3, (s.mono w (x1.trans x2)).mono w2 x3, by rw [ec]; exact h4, fun z W4 w4 x4 e4 r4 => ?_⟩
    exact ⟨W4, b, d, r, cs', rfl, w4, r2.mono w2 (x3.trans x4), r4, by rw [e4]; exact h5, fin.later (x1.trans (x2.trans (x3.trans x4)))⟩
  | false =>
    cases hf
    exact iteF (fin _ W3 w3 (x1.trans (x2.trans x3)) ec (.bl false))
theorem r_chain {op op' : CmpOp} {h h' : Op2} {k : Ex} {d : Expr} (ho : OpR X (compareOp op) (ev2 c h)) (ho' : OpR X (compareOp op') (ev2 c h')) (ha : PE X a (evE c f)) (hb : PE X b (evE c g)) (hd : PE X d (evE c k)) (hm : lastMarks [op, op'] [b, d] = false := by with_unfolding_all rfl) :
    PE X (.Compare a [op, op'] [b, d] pos) (evE c (cChain h h' f g k)) := (pe_chain ho ho' ha hb hd hm).imp ev_chain
theorem rt_chain {op op' : CmpOp} {h h' : Op2} {k : Ex} {d : Expr} (ho : OpR X (compareOp op) (ev2 c h)) (ho' : OpR X (compareOp op') (ev2 c h')) (ha : PE X a (evE c f)) (hb : PE X b (evE c g)) (hd : PE X d (evE c k)) (hm : lastMarks [op, op'] [b, d] = false := by with_unfolding_all rfl) :
    PT X (.Compare a [op, op'] [b, d] pos) (evT c (tOf (cChain h h' f g k))) := (pt_chain ho ho' ha hb hd hm).imp fun σ H Q q => ev_chain σ H _ (ev_tB σ H Q q)

/-! ### arguments, displays -/
def aNil : Exs := fun _ cs => .ok [] cs
def aCons (f : Ex) (g : Exs) : Exs := fun sl cs => (f sl cs).bind fun a cs1 => (g sl cs1).bind fun as cs2 => .ok (a :: as) cs2
theorem ra_nil : PA X [] (evA c aNil) := pa_nil.imp fun σ H Q ⟨W, sl, as, cs', hH, w, s, hf, k⟩ => by
  cases hf
  subst hH
  exact k [] W w (Ext.refl W) rfl .nil
theorem ra_cons {es : List Expr} {t : Exs} (ha : PE X e (evE c f)) (hr : PA X es (evA c t)) (hs : starEach (e :: es) X.env = (false, eval e X.env) :: starEach es X.env := by rfl) : PA X (e :: es) (evA c (aCons f t)) :=
  (pa_cons ha hr hs).imp fun σ H Q ⟨W, sl, as, cs', hH, w, s, hf, k⟩ => by
    obtain ⟨a, cs1, h1, hf⟩ := bind_ok hf
    obtain ⟨bs, cs2, h2, h3⟩ := bind_ok hf
    injection h3 with h4 h5
    subst h4 h5
    exact ⟨W, sl, a, cs1, hH, w, s, h1, fun x W1 w1 x1 e1 r1 => ⟨W1, sl, bs, cs2, rfl, w1, s.mono w x1, by rw [e1]; exact h2, fun xs W2 w2 x2 e2 r2 => k (x :: xs) W2 w2 (x1.trans x2) e2 (.cons (r1.mono w1 x2) r2)⟩⟩
def lenN {α : Type} (l : List α) : Nat := List.rec (motive := fun _ => Nat) 0 (fun _ _ ih => Nat.succ ih) l
theorem lenN_eq {α : Type} : ∀ l : List α, lenN l = l.length
  | [] => rfl
  | _ :: r => congrArg Nat.succ (lenN_eq r)
/-- at most n items -/
def shr {α : Type} (n : Nat) : List α → Bool := Nat.rec (motive := fun _ => List α → Bool) (fun l => match l with
  | [] => true
  | _ :: _ => false) (fun _ ih l => match l with
  | [] => true
  | _ :: r => ih r) n
theorem shr_le {α : Type} : ∀ (n : Nat) (l : List α), shr n l = true → l.length ≤ n
  | _, [], _ => Nat.zero_le _
  | 0, _ :: _, h => by cases h
  | n + 1, _ :: r, h => Nat.succ_le_succ (shr_le n r h)
def lim : Nat := 500
theorem lim_line {n : Nat} (h : n ≤ lim) : n ≤ sizeLine := Nat.le_trans h (by decide)
theorem lim_lt {n : Nat} (h : n ≤ lim) : n < sizeLine := Nat.lt_of_le_of_lt h (by decide)
def okTup (as : List AV) (cs : CS) : Rs AV := match shr lim as with
  | true => .ok (.tup as) cs
  | false => .err
def okLst (as : List AV) (cs : CS) : Rs AV := match shr lim as with
  | true => .ok (.lst as) cs
  | false => .err
def okCell (as : List AV) (cs : CS) : Rs AV := match shr lim as with
  | true => frN cs.n fun n => .ok (.cell n) ⟨n + 1, (n, .lst false as) :: cs.l⟩
  | false => .err
theorem okTup_ok {as : List AV} {cs cs' : CS} {r : AV} (h : okTup as cs = .ok r cs') : as.length ≤ lim ∧ r = .tup as ∧ cs' = cs := by
  unfold okTup at h
  split at h
  · rename_i e
    cases h
    exact ⟨shr_le _ _ e, rfl, rfl⟩
  · cases h
theorem okLst_ok {as : List AV} {cs cs' : CS} {r : AV} (h : okLst as cs = .ok r cs') : as.length ≤ lim ∧ r = .lst as ∧ cs' = cs := by
  unfold okLst at h
  split at h
  · rename_i e
    cases h
    exact ⟨shr_le _ _ e, rfl, rfl⟩
  · cases h
theorem okCell_ok {as : List AV} {cs cs' : CS} {r : AV} (h : okCell as cs = .ok r cs') : as.length ≤ lim ∧ r = .cell cs.n ∧ cs' = cs.new (.lst false as) := by
  unfold okCell at h
  split at h
  · rename_i e
    rw [frN_eq] at h
    cases h
    exact ⟨shr_le _ _ e, rfl, rfl⟩
  · cases h
/-- a new tuple, list, cell has come -/
theorem fin_tup {W : Wd} {as : List AV} {vs : List V} {cs' : CS} {r : AV} {Q : VK} (w : WOk c W) (rs : Reps c W as vs) (h : okTup as W.cs = .ok r cs') (k : Fin c W r cs' Q) : vs.length ≤ sizeLine ∧ ∀ p, W.H p = none → Q (.ref p) (upd W.H p (.tup vs)) := by
  obtain ⟨h1, rfl, rfl⟩ := okTup_ok h
  refine ⟨by rw [← rs.length]; exact lim_line h1, fun p hp => ?_⟩
  obtain ⟨w', x⟩ := w.lay (o := .tup vs) hp
  exact k _ (W.lay p (.tup vs)) w' x rfl (.tup (.inl upd_same) (rs.mono w x))
theorem fin_lst {W : Wd} {as : List AV} {vs : List V} {cs' : CS} {r : AV} {Q : VK} (w : WOk c W) (rs : Reps c W as vs) (h : okLst as W.cs = .ok r cs') (k : Fin c W r cs' Q) : vs.length ≤ sizeLine ∧ ∀ p, W.H p = none → Q (.ref p) (upd W.H p (.lst vs)) := by
  obtain ⟨h1, rfl, rfl⟩ := okLst_ok h
  refine ⟨by rw [← rs.length]; exact lim_line h1, fun p hp => ?_⟩
  obtain ⟨w', x⟩ := w.lay (o := .lst vs) hp
  exact k _ (W.lay p (.lst vs)) w' x rfl (.lst upd_same (w.in_ne hp) (rs.mono w x))
theorem fin_cell {W : Wd} {as : List AV} {vs : List V} {cs' : CS} {r : AV} {Q : VK} (w : WOk c W) (rs : Reps c W as vs) (h : okCell as W.cs = .ok r cs') (k : Fin c W r cs' Q) : vs.length ≤ sizeLine ∧ ∀ p, W.H p = none → Q (.ref p) (upd W.H p (.lst vs)) := by
  obtain ⟨h1, rfl, rfl⟩ := okCell_ok h
  refine ⟨by rw [← rs.length]; exact lim_line h1, fun p hp => ?_⟩
  obtain ⟨w', x⟩ := w.newC (o := .lst vs) (co := .lst false as) hp rfl fun W' x e => ⟨vs, e, rs.mono w x⟩
  have g : (W.newC p (.lst vs) (.lst false as)).γ W.cs.n = p := if_pos rfl
  have r : Rep c (W.newC p (.lst vs) (.lst false as)) (.cell W.cs.n) (.ref p) := by
    have q : Rep c (W.newC p (.lst vs) (.lst false as)) (.cell W.cs.n) (.ref ((W.newC p (.lst vs) (.lst false as)).γ W.cs.n)) := .cell _ (Nat.lt_succ_self _)
    rw [g] at q
    exact q
  exact k _ _ w' x rfl r
def cTup (t : Exs) : Ex := fun sl cs => (t sl cs).bind okTup
def cLst (t : Exs) : Ex := fun sl cs => (t sl cs).bind okLst
def cCel (t : Exs) : Ex := fun sl cs => (t sl cs).bind okCell
theorem r_tup {es : List Expr} {t : Exs} {x1} (h : PA X es (evA c t)) : PE X (.Tuple es x1 pos) (evE c (cTup t)) := (pe_tup h).imp fun σ H Q ⟨W, sl, r, cs', hH, w, s, hf, k⟩ => by
  obtain ⟨as, cs1, h1, h2⟩ := bind_ok hf
  exact ⟨W, sl, as, cs1, hH, w, s, h1, fun vs W1 w1 x1 e1 r1 => fin_tup w1 r1 (by rw [e1]; exact h2) (k.later x1)⟩
theorem r_lst {es : List Expr} {t : Exs} (h : PA X es (evA c t)) : PE X (.List es pos) (evE c (cLst t)) := (pe_lst h).imp fun σ H Q ⟨W, sl, r, cs', hH, w, s, hf, k⟩ => by
  obtain ⟨as, cs1, h1, h2⟩ := bind_ok hf
  exact ⟨W, sl, as, cs1, hH, w, s, h1, fun vs W1 w1 x1 e1 r1 => fin_lst w1 r1 (by rw [e1]; exact h2) (k.later x1)⟩
theorem r_cel {es : List Expr} {t : Exs} (h : PA X es (evA c t)) : PE X (.List es pos) (evE c (cCel t)) := (pe_lst h).imp fun σ H Q ⟨W, sl, r, cs', hH, w, s, hf, k⟩ => by
  obtain ⟨as, cs1, h1, h2⟩ := bind_ok hf
  exact ⟨W, sl, as, cs1, hH, w, s, h1, fun vs W1 w1 x1 e1 r1 => fin_cell w1 r1 (by rw [e1]; exact h2) (k.later x1)⟩
end
end U
end
noncomputable section
namespace U
open PySem PySem.Spec
open PyProof.Rows L2

/-! ## what is read -/
def itL (a : AV) (cs : CS) : Option (List AV) := match a with
  | .lst xs => some xs
  | .cell n => (match cs.get n with
    | some (.lst _ xs) => some xs
    | _ => none)
  | _ => none
def itT (a : AV) : Option (List AV) := match a with
  | .tup xs => some xs
  | .base i => some [.num i, .den i]
  | _ => none
section
variable {c : Ct} {W : Wd} {a : AV} {v : V}
theorem itL_ok {xs : List AV} (w : WOk c W) (r : Rep c W a v) (h : itL a W.cs = some xs) : ∃ p vs, v = .ref p ∧ W.H p = some (.lst vs) ∧ Reps c W xs vs := by
  cases r with
  | lst h1 h2 h3 =>
    cases h
    exact ⟨_, _, rfl, h1, h3⟩
  | cell i hi =>
    have h' : (match W.cs.get i with
      | some (.lst _ xs) => some xs
      | _ => none) = some xs := h
    cases e : W.cs.get i with
    | none =>
      rw [e] at h'
      cases h'
    | some co =>
      rw [e] at h'
      cases co with
      | lst fz ys =>
        cases h'
        obtain ⟨_, vs, h1, h2⟩ := w.ok i _ e
        exact ⟨_, vs, rfl, h1, h2⟩
      | ins k fs => cases h'
  | _ => cases h
theorem itT_ok {xs : List AV} (r : Rep c W a v) (h : itT a = some xs) : ∃ p vs, v = .ref p ∧ SqT c.K W.H p vs ∧ Reps c W xs vs := by
  cases r with
  | tup h1 h2 =>
    cases h
    exact ⟨_, _, rfl, h1.seq, h2⟩
  | base i hi h1 =>
    cases h
    exact ⟨_, _, rfl, h1.seq, .cons (.num i) (.cons (.den i) .nil)⟩
  | _ => cases h
theorem rep_int {i : Int} (r : Rep c W (.int i) v) : v = .int i := by
  cases r
  rfl
theorem Fin.here {a : AV} {Q : VK} (w : WOk c W) (k : Fin c W a W.cs Q) (r : Rep c W a v) : Q v W.H := k v W w (Ext.refl W) rfl r
end
def okI (i : Int) (cs : CS) : Rs AV := frI i fun k => .ok (.int k) cs
theorem okI_ok {i : Int} {cs cs' : CS} {r : AV} (h : okI i cs = .ok r cs') : r = .int i ∧ cs' = cs := by
  unfold okI at h
  rw [frI_eq] at h
  cases h
  exact ⟨rfl, rfl⟩
def okB (b : Bool) (cs : CS) : Rs AV := match b with
  | true => .ok (.bl true) cs
  | false => .ok (.bl false) cs
theorem okB_ok {b : Bool} {cs cs' : CS} {r : AV} (h : okB b cs = .ok r cs') : r = .bl b ∧ cs' = cs := by
  cases b <;> (cases h; exact ⟨rfl, rfl⟩)

/-! ## operators -/
def on2I (k : Int → Int → CS → Rs AV) : Op2 := fun a b cs => match a with
  | .int i => (match b with
    | .int j => k i j cs
    | _ => .err)
  | _ => .err
theorem on2I_ok {k : Int → Int → CS → Rs AV} {a b r : AV} {cs cs' : CS} (h : on2I k a b cs = .ok r cs') : ∃ i j, a = .int i ∧ b = .int j ∧ k i j cs = .ok r cs' := by
  cases a with
  | int i => cases b with
    | int j => exact ⟨i, j, rfl, rfl, h⟩
    | _ => cases h
  | _ => cases h
def gAdd : Op2 := fun a b cs => match a with
  | .int i => (match b with
    | .int j => okI (i + j) cs
    | _ => .err)
  | .tup xs => (match b with
    | .tup ys => okTup (xs ++ ys) cs
    | _ => .err)
  | a => (match itL a cs with
    | some xs => (match itL b cs with
      | some ys => okCell (xs ++ ys) cs
      | none => .err)
    | none => .err)
def gSub : Op2 := on2I fun i j cs => okI (i - j) cs
def leI (i j : Int) : Bool := match i with
  | .ofNat a => (match j with
    | .ofNat b => Nat.ble a b
    | .negSucc _ => false)
  | .negSucc a => (match j with
    | .ofNat _ => true
    | .negSucc b => Nat.ble b a)
theorem leI_eq (i j : Int) : leI i j = decide (i ≤ j) := by
  have nb : ∀ a b : Nat, Nat.ble a b = decide (a ≤ b) := fun a b => by
    cases e : Nat.ble a b with
    | true => exact (decide_eq_true (Nat.le_of_ble_eq_true e)).symm
    | false => exact (decide_eq_false (fun h => by rw [Nat.ble_eq_true_of_le h] at e; cases e)).symm
  cases i with
  | ofNat a => cases j with
    | ofNat b =>
      show Nat.ble a b = _
      rw [nb, Bool.eq_iff_iff]
      simp only [decide_eq_true_eq, Int.ofNat_eq_natCast, Int.negSucc_eq]
      omega
    | negSucc b =>
      show false = _
      exact (decide_eq_false (by rw [Int.negSucc_eq]; simp only [Int.ofNat_eq_natCast]; omega)).symm
  | negSucc a => cases j with
    | ofNat b =>
      show true = _
      exact (decide_eq_true (by rw [Int.negSucc_eq]; simp only [Int.ofNat_eq_natCast]; omega)).symm
    | negSucc b =>
      show Nat.ble b a = _
      rw [nb, Bool.eq_iff_iff]
      simp only [decide_eq_true_eq, Int.negSucc_eq]
      omega
def ltI (i j : Int) : Bool := match leI j i with
  | true => false
  | false => true
theorem ltI_eq (i j : Int) : ltI i j = decide (i < j) := by
  unfold ltI
  rw [leI_eq]
  by_cases h : j ≤ i
  · rw [decide_eq_true h, decide_eq_false (by omega)]
  · rw [decide_eq_false h, decide_eq_true (by omega)]
def big : Int := 1000000
/-- one factor is small -/
def gMul : Op2 := on2I fun i j cs => match leI 0 i with
  | true => (match leI i big with
    | true => okI (i * j) cs
    | false => .err)
  | false => .err
/-- by a number that is not negative and small -/
def gShl : Op2 := on2I fun i j cs => match i with
  | .ofNat m => (match j with
    | .ofNat n => (match Nat.ble m 1000 with
      | true => (match Nat.ble n 1000 with
        | true => okI (.ofNat (m * 2 ^ n)) cs
        | false => .err)
      | false => .err)
    | _ => .err)
  | _ => .err
def gShr : Op2 := on2I fun i j cs => match i with
  | .ofNat m => (match j with
    | .ofNat n => okI (.ofNat (m / 2 ^ n)) cs
    | _ => .err)
  | _ => .err
def gAnd : Op2 := on2I fun i j cs => match i with
  | .ofNat m => (match j with
    | .ofNat n => okI (.ofNat (Nat.land m n)) cs
    | _ => .err)
  | _ => .err
def gLt : Op2 := on2I fun i j cs => okB (ltI i j) cs
def gLe : Op2 := on2I fun i j cs => okB (leI i j) cs
def gGt : Op2 := on2I fun i j cs => okB (ltI j i) cs
def gGe : Op2 := on2I fun i j cs => okB (leI j i) cs
def fuelE : Nat := 6
/-- a list's cell is read as it stands -/
def look (a : AV) (cs : CS) : AV := match a with
  | .cell n => (match cs.get n with
    | some (.lst _ xs) => .lst xs
    | _ => .und)
  | a => a
def eqT (a b : AV) (cs : CS) : Option Bool := match a with
  | .int i => (match b with
    | .int j => some (eqI i j)
    | .non => some false
    | _ => none)
  | a => (match ck fuelE (look a cs) with
    | true => (match ck fuelE (look b cs) with
      | true => eqA fuelE (look a cs) (look b cs)
      | false => none)
    | false => none)
def gEq : Op2 := fun a b cs => match eqT a b cs with
  | some z => okB z cs
  | none => .err
def gNe : Op2 := fun a b cs => match eqT a b cs with
  | some true => .ok (.bl false) cs
  | some false => .ok (.bl true) cs
  | none => .err
/-- a is among them -/
def anyE1 (x y : AV) (ih : Option Bool) : Option Bool := match eqA fuelE y x with
    | some true => (match ih with
      | some _ => some true
      | none => none)
    | some false => ih
    | none => none
def anyE (x : AV) (l : List AV) : Option Bool := List.rec (motive := fun _ => Option Bool) (some false) (fun y _ ih => anyE1 x y ih) l
theorem anyE_cons (x y : AV) (r : List AV) : anyE x (y :: r) = anyE1 x y (anyE x r) := rfl
def inT (a b : AV) (cs : CS) : Option Bool := match ck fuelE a with
  | true => (match itL b cs with
    | some xs => (match ckL (ck fuelE) xs with
      | true => anyE a xs
      | false => none)
    | none => (match itT b with
      | some xs => (match ckL (ck fuelE) xs with
        | true => anyE a xs
        | false => none)
      | none => none))
  | false => none
def gIn : Op2 := fun a b cs => match inT a b cs with
  | some z => okB z cs
  | none => .err
def gNotIn : Op2 := fun a b cs => match inT a b cs with
  | some true => .ok (.bl false) cs
  | some false => .ok (.bl true) cs
  | none => .err
def isNon (a : AV) : Option Bool := match a with
  | .und => none
  | .non => some true
  | _ => some false
def gIs : Op2 := fun a b cs => match b with
  | .non => (match isNon a with
    | some z => okB z cs
    | none => .err)
  | _ => .err
def gIsNot : Op2 := fun a b cs => match b with
  | .non => (match isNon a with
    | some true => .ok (.bl false) cs
    | some false => .ok (.bl true) cs
    | none => .err)
  | _ => .err
def gIx : Op2 := fun a b cs => match b with
  | .int (.ofNat n) => (match itL a cs with
    | some xs => okV (getS xs n) cs
    | none => (match itT a with
      | some xs => okV (getS xs n) cs
      | none => .err))
  | _ => .err

section
variable {c : Ct} {X : Cx}
theorem _root_.L2.OpR.ev {f : Value → Value → Sem Value} {g : Op2} {r : R2} (h : OpR X f r) (i : ∀ x y H Q, ev2 c g x y H Q → r x y H Q) : OpR X f (ev2 c g) := fun pins s σ H x y v u Q I rx ry q => h pins s σ H x y v u Q I rx ry (i x y H Q q)
theorem o_int {f : Value → Value → Sem Value} {k : Int → Int → CS → Rs AV} {C : Int → Int → Prop} {z : Int → Int → V} (h : OpR X f (rI C z)) (hk : ∀ i j cs r cs', k i j cs = .ok r cs' → C i j ∧ cs' = cs ∧ ∀ c W, Rep c W r (z i j)) : OpR X f (ev2 c (on2I k)) :=
  h.ev fun x y H Q ⟨W, a, b, r, cs', hH, w, ra, rb, hg, fin⟩ => by
    obtain ⟨i, j, rfl, rfl, hg⟩ := on2I_ok hg
    obtain ⟨h1, rfl, h3⟩ := hk i j _ _ _ hg
    subst hH
    exact ⟨i, j, rep_int ra, rep_int rb, h1, fin.here w (h3 c W)⟩
theorem rI0_C {f : Value → Value → Sem Value} {z : Int → Int → V} (h : OpR X f (rI0 z)) : OpR X f (rI (fun _ _ => True) z) := fun pins s σ H x y v u Q I rx ry ⟨i, j, e1, e2, _, q⟩ => h pins s σ H x y v u Q I rx ry ⟨i, j, e1, e2, q⟩
theorem o_add (hK : X.K = c.K := by rfl) : OpR X (binaryOp .Add) (ev2 c gAdd) := by
  refine ((op_add (X := X)).or ((op_catA (X := X)).or op_cat)).ev fun x y H Q ⟨W, a, b, r, cs', hH, w, ra, rb, hg, fin⟩ => ?_
  subst hH
  have lists : ∀ {a : AV}, Rep c W a x → (match itL a W.cs with
    | some xs => (match itL b W.cs with
      | some ys => okCell (xs ++ ys) W.cs
      | none => .err)
    | none => .err) = .ok r cs' → rCat x y W.H Q := fun {a} ra hg => by
    cases e1 : itL a W.cs with
    | none =>
      rw [e1] at hg
      cases hg
    | some xs =>
      rw [e1] at hg
      cases e2 : itL b W.cs with
      | none =>
        rw [e2] at hg
        cases hg
      | some ys =>
        rw [e2] at hg
        obtain ⟨p, vs, rfl, h1, h2⟩ := itL_ok w ra e1
        obtain ⟨q, us, rfl, h3, h4⟩ := itL_ok w rb e2
        obtain ⟨z1, z2⟩ := fin_cell w (h2.append h4) hg fin
        exact ⟨p, q, vs, us, rfl, rfl, h1, h3, by rw [← List.length_append]; exact z1, z2⟩
  cases a with
  | int i => cases b with
    | int j =>
      obtain ⟨rfl, rfl⟩ := okI_ok hg
      exact .inl ⟨i, j, rep_int ra, rep_int rb, fin.here w (.int _)⟩
    | _ => cases hg
  | tup xs => cases b with
    | tup ys =>
      obtain ⟨p, vs, rfl, h1, h2⟩ := itT_ok ra rfl
      obtain ⟨q, us, rfl, h3, h4⟩ := itT_ok rb rfl
      rw [← hK] at h1 h3
      obtain ⟨z1, z2⟩ := fin_tup w (h2.append h4) hg fin
      obtain ⟨_, rfl, rfl⟩ := okTup_ok hg
      refine .inr (.inl ⟨p, q, vs, us, rfl, rfl, h1, h3, by rw [← List.length_append]; exact z1, fun e => ?_, fun _ e => ?_, fun _ _ => z2⟩)
      · have e2 : xs = [] := List.length_eq_zero_iff.mp (by rw [h2.length, e]; rfl)
        subst e2
        exact fin.here w rb
      · have e2 : ys = [] := List.length_eq_zero_iff.mp (by rw [h4.length, e]; rfl)
        subst e2
        rw [List.append_nil] at fin
        exact fin.here w ra
    | _ => cases hg
  | _ => exact .inr (.inr (lists ra hg))
theorem o_sub : OpR X (binaryOp .Sub) (ev2 c gSub) := o_int (rI0_C op_sub) fun i j cs r cs' h => by
  obtain ⟨rfl, rfl⟩ := okI_ok h
  exact ⟨trivial, rfl, fun _ _ => .int _⟩
theorem o_mul : OpR X (binaryOp .Mult) (ev2 c gMul) := o_int op_mul fun i j cs r cs' h => by
  cases e : leI 0 i with
  | false =>
    simp only [e] at h
    cases h
  | true =>
    simp only [e] at h
    cases e2 : leI i big with
    | false =>
      rw [e2] at h
      cases h
    | true =>
      rw [e2] at h
      obtain ⟨rfl, rfl⟩ := okI_ok h
      rw [leI_eq, decide_eq_true_eq] at e e2
      unfold big at e2
      exact ⟨.inl ⟨by omega, by omega⟩, rfl, fun _ _ => .int _⟩
theorem o_shl : OpR X (binaryOp .LShift) (ev2 c gShl) := o_int op_shl fun i j cs r cs' h => by
  cases i with
  | negSucc m => cases h
  | ofNat m => cases j with
    | negSucc n => cases h
    | ofNat n =>
      cases e : Nat.ble m 1000 with
      | false =>
        simp only [e] at h
        cases h
      | true =>
        simp only [e] at h
        cases e2 : Nat.ble n 1000 with
        | false =>
          simp only [e2] at h
          cases h
        | true =>
          simp only [e2] at h
          obtain ⟨rfl, rfl⟩ := okI_ok h
          have h1 := Nat.le_of_ble_eq_true e
          have h2 := Nat.le_of_ble_eq_true e2
          refine ⟨⟨Int.natCast_nonneg n, ?_, ?_⟩, rfl, fun _ _ => ?_⟩
          · show (n : Int) ≤ 1000000
            omega
          · show m < 2 ^ 64
            omega
          · have q : (Int.ofNat m * 2 ^ (Int.ofNat n).toNat : Int) = Int.ofNat (m * 2 ^ n) := by simp
            rw [q]
            exact .int _
theorem o_shr : OpR X (binaryOp .RShift) (ev2 c gShr) := o_int op_shr fun i j cs r cs' h => by
  cases i with
  | negSucc m => cases h
  | ofNat m => cases j with
    | negSucc n => cases h
    | ofNat n =>
      obtain ⟨rfl, rfl⟩ := okI_ok h
      refine ⟨Int.natCast_nonneg n, rfl, fun _ _ => ?_⟩
      have q : (Int.ofNat m / 2 ^ (Int.ofNat n).toNat : Int) = Int.ofNat (m / 2 ^ n) := by simp
      rw [q]
      exact .int _
theorem o_and : OpR X (binaryOp .BitAnd) (ev2 c gAnd) := o_int (rI0_C op_and) fun i j cs r cs' h => by
  cases i with
  | negSucc m => cases h
  | ofNat m => cases j with
    | negSucc n => cases h
    | ofNat n =>
      obtain ⟨rfl, rfl⟩ := okI_ok h
      exact ⟨trivial, rfl, fun _ _ => .int _⟩
theorem o_lt : OpR X (compareOp .Lt) (ev2 c gLt) := o_int (rI0_C op_lt) fun i j cs r cs' h => by
  obtain ⟨rfl, rfl⟩ := okB_ok h
  rw [ltI_eq]
  exact ⟨trivial, rfl, fun _ _ => .bl _⟩
theorem o_le : OpR X (compareOp .LtE) (ev2 c gLe) := o_int (rI0_C op_le) fun i j cs r cs' h => by
  obtain ⟨rfl, rfl⟩ := okB_ok h
  rw [leI_eq]
  exact ⟨trivial, rfl, fun _ _ => .bl _⟩
theorem o_gt : OpR X (compareOp .Gt) (ev2 c gGt) := o_int (rI0_C op_gt) fun i j cs r cs' h => by
  obtain ⟨rfl, rfl⟩ := okB_ok h
  rw [ltI_eq]
  exact ⟨trivial, rfl, fun _ _ => .bl _⟩
theorem o_ge : OpR X (compareOp .GtE) (ev2 c gGe) := o_int (rI0_C op_ge) fun i j cs r cs' h => by
  obtain ⟨rfl, rfl⟩ := okB_ok h
  rw [leI_eq]
  exact ⟨trivial, rfl, fun _ _ => .bl _⟩
/-- what look sees -/
theorem look_dp {W : Wd} {a : AV} {v : V} (w : WOk c W) (r : Rep c W a v) (h : ck fuelE (look a W.cs) = true) : ∃ d, Dp c.K W.H v d ∧ Mean c.ρ (look a W.cs) d ∧ d.canLay0 = true ∧ d.depth ≤ fuelE := by
  cases r with
  | cell i hi =>
    have hl : look (.cell i) W.cs = (match W.cs.get i with
      | some (.lst _ xs) => .lst xs
      | _ => .und) := rfl
    rw [hl] at h ⊢
    cases e : W.cs.get i with
    | none =>
      rw [e] at h
      cases h
    | some co =>
      cases co with
      | ins k fs =>
        rw [e] at h
        cases h
      | lst fz xs =>
        rw [e] at h
        obtain ⟨_, vs, h1, h2⟩ := w.ok i _ e
        obtain ⟨ds, e1, e2, e3, e4⟩ := reps_dp (fun a v => rep_dp 5 a v) _ _ h2 h
        exact ⟨.list ds, .lst (SqL.of h1) e1, .lst e2, by simpa [PyData.canLay0] using e3, by simp only [PyData.depth]; unfold fuelE; omega⟩
  | _ => exact rep_dp fuelE _ _ (by constructor <;> assumption) h
theorem eqT_ok (ok : c.ρ.Ok) {W : Wd} {a b : AV} {x y : V} {z : Bool} (w : WOk c W) (ra : Rep c W a x) (rb : Rep c W b y) (h : eqT a b W.cs = some z) :
    ∃ d e, Dp c.K W.H x d ∧ Dp c.K W.H y e ∧ SeqAt.shaped d = true ∧ SeqAt.shaped e = true ∧ PyData.eqv d e = z := by
  have gen : (match ck fuelE (look a W.cs) with
    | true => (match ck fuelE (look b W.cs) with
      | true => eqA fuelE (look a W.cs) (look b W.cs)
      | false => none)
    | false => none) = some z → ∃ d e, Dp c.K W.H x d ∧ Dp c.K W.H y e ∧ SeqAt.shaped d = true ∧ SeqAt.shaped e = true ∧ PyData.eqv d e = z := fun h => by
    cases e1 : ck fuelE (look a W.cs) with
    | false =>
      rw [e1] at h
      cases h
    | true =>
      rw [e1] at h
      cases e2 : ck fuelE (look b W.cs) with
      | false =>
        rw [e2] at h
        cases h
      | true =>
        rw [e2] at h
        obtain ⟨d, d1, d2, d3, d4⟩ := look_dp w ra e1
        obtain ⟨e, f1, f2, f3, f4⟩ := look_dp w rb e2
        exact ⟨d, e, d1, f1, shaped_of d3 d4 (by decide), shaped_of f3 f4 (by decide), eqA_ok ok _ _ _ _ _ _ d2 f2 h⟩
  cases a with
  | int i => cases b with
    | int j =>
      have h' : some (eqI i j) = some z := h
      cases h'
      rw [rep_int ra, rep_int rb]
      exact ⟨.int i, .int j, .int i, .int j, by simp [SeqAt.shaped, PyData.canLay0, PyData.depth], by simp [SeqAt.shaped, PyData.canLay0, PyData.depth], by rw [eqI_eq]; simp only [PyData.eqv]⟩
    | non =>
      cases h
      rw [rep_int ra]
      cases rb
      exact ⟨.int i, .none, .int i, .non, by simp [SeqAt.shaped, PyData.canLay0, PyData.depth], by simp [SeqAt.shaped, PyData.canLay0, PyData.depth], by simp [PyData.eqv]⟩
    | _ => cases h
  | _ => exact gen h
theorem o_eq (ok : c.ρ.Ok) (hu : X.A.units + 64 < cLine) (hK : X.K = c.K := by rfl) : OpR X (compareOp .Eq) (ev2 c gEq) := (op_eqD hu).ev fun x y H Q ⟨W, a, b, r, cs', hH, w, ra, rb, hg, fin⟩ => by
  subst hH
  unfold gEq at hg
  cases e : eqT a b W.cs with
  | none =>
    rw [e] at hg
    cases hg
  | some z =>
    rw [e] at hg
    obtain ⟨rfl, rfl⟩ := okB_ok hg
    obtain ⟨d, e', h1, h2, h3, h4, h5⟩ := eqT_ok ok w ra rb e
    subst h5
    unfold rEqD
    rw [hK]
    exact ⟨d, e', h1, h2, h3, h4, fin.here w (.bl _)⟩
theorem o_ne (ok : c.ρ.Ok) (hu : X.A.units + 64 < cLine) (hK : X.K = c.K := by rfl) : OpR X (compareOp .NotEq) (ev2 c gNe) := (op_neD hu).ev fun x y H Q ⟨W, a, b, r, cs', hH, w, ra, rb, hg, fin⟩ => by
  subst hH
  unfold gNe at hg
  cases e : eqT a b W.cs with
  | none =>
    rw [e] at hg
    cases hg
  | some z =>
    rw [e] at hg
    obtain ⟨d, e, h1, h2, h3, h4, hz⟩ := eqT_ok ok w ra rb e
    unfold rNeD
    rw [hK]
    refine ⟨d, e, h1, h2, h3, h4, ?_⟩
    rw [hz]
    cases z <;> (cases hg; exact fin.here w (.bl _))
theorem anyE_ok (ok : c.ρ.Ok) {x : AV} {d : PyData} (m : Mean c.ρ x d) : ∀ (as : List AV) (ds : List PyData) (z : Bool), Means c.ρ as ds → anyE x as = some z → (ds.any fun y => PyData.eqv y d) = z
  | [], _, z, .nil, h => by
    cases h
    rfl
  | a :: as, d1 :: ds, z, .cons m1 t, h => by
    rw [anyE_cons] at h
    unfold anyE1 at h
    rw [List.any_cons]
    cases e : eqA fuelE a x with
    | none =>
      rw [e] at h
      cases h
    | some y =>
      rw [e] at h
      rw [eqA_ok ok _ _ _ _ _ _ m1 m e]
      cases y with
      | true =>
        have h' : (match anyE x as with
          | some _ => some true
          | none => none) = some z := h
        cases e2 : anyE x as with
        | none =>
          rw [e2] at h'
          cases h'
        | some y =>
          rw [e2] at h'
          cases h'
          rw [Bool.true_or]
      | false => rw [anyE_ok ok m as ds z t h, Bool.false_or]
/-- what is in a tuple -/
def rInDT (K : PySem.W.Frag) : R2 := fun x y H Q => ∃ d ds, Dp K H x d ∧ Dp K H y (.tuple ds) ∧ SeqAt.shaped d = true ∧ SeqAt.shaped (.tuple ds) = true ∧ Q (.bl (ds.any fun z => PyData.eqv z d)) H
def rNotInDT (K : PySem.W.Frag) : R2 := fun x y H Q => ∃ d ds, Dp K H x d ∧ Dp K H y (.tuple ds) ∧ SeqAt.shaped d = true ∧ SeqAt.shaped (.tuple ds) = true ∧ Q (.bl (!ds.any fun z => PyData.eqv z d)) H
theorem room_in {A : Around} {d : PyData} {n : Nat} (h : SeqAt.shaped d = true) (hu : A.units + 65 < cLine) : A.units + 1 + min n d.depth < cLine := by
  have h1 := SeqAt.depth_of_shaped h
  have h2 : min n d.depth ≤ d.depth := Nat.min_le_right _ _
  omega
theorem op_inDT (hu : X.A.units + 65 < cLine) : OpR X (compareOp .In) (rInDT X.K) := fun pins s σ H x y v u Q I rx ry ⟨d, ds, hd, he, sd, se, q⟩ => by
  obtain ⟨
        as, r1⟩ := Dp.reads I d x v hd rx
  obtain ⟨bs, r2⟩ := Dp.reads I (.tuple ds) y u he ry
  refine SeqAt.in_tuple_reads r2 r1 ?_ (SeqAt.canLay_of_shaped sd) (room_in sd hu) ⟨.bl _, H, I, rfl, q⟩
  have := SeqAt.canLay_of_shaped se
  simpa [PyData.canLay0] using this
theorem op_notInDT (hu : X.A.units + 65 < cLine) : OpR X (compareOp .NotIn) (rNotInDT X.K) := fun pins s σ H x y v u Q I rx ry ⟨d, ds, hd, he, sd, se, q⟩ => by
  obtain ⟨
        as, r1⟩ := Dp.reads I d x v hd rx
  obtain ⟨bs, r2⟩ := Dp.reads I (.tuple ds) y u he ry
  refine SeqAt.notIn_tuple_reads r2 r1 ?_ (SeqAt.canLay_of_shaped sd) (room_in sd hu) ⟨.bl _, H, I, rfl, q⟩
  have := SeqAt.canLay_of_shaped se
  simpa [PyData.canLay0] using this
theorem itT_dp {W : Wd} {a : AV} {xs : List AV} {v : V} (r : Rep c W a v) (h : itT a = some xs) (hc : ckL (ck fuelE) xs = true) : ∃ ds, Dp c.K W.H v (.tuple ds) ∧ Means c.ρ xs ds ∧ SeqAt.shaped (.tuple ds) = true := by
  obtain ⟨p, vs, rfl, h1, h2⟩ := itT_ok r h
  obtain ⟨ds, e1, e2, e3, e4⟩ := reps_dp (fun a v => rep_dp fuelE a v) _ _ h2 hc
  refine ⟨ds, .tup h1 e1, e2, shaped_of (n := 10) (by simpa [PyData.canLay0] using e3) ?_ (by decide)⟩
  simp only [PyData.depth]
  unfold fuelE at e4
  omega
theorem itL_dp {W : Wd} {a : AV} {xs : List AV} {v : V} (w : WOk c W) (r : Rep c W a v) (h : itL a W.cs = some xs) (hc : ckL (ck fuelE) xs = true) : ∃ ds, Dp c.K W.H v (.list ds) ∧ Means c.ρ xs ds ∧ SeqAt.shaped (.list ds) = true := by
  obtain ⟨p, vs, rfl, h1, h2⟩ := itL_ok w r h
  obtain ⟨ds, e1, e2, e3, e4⟩ := reps_dp (fun a v => rep_dp fuelE a v) _ _ h2 hc
  refine ⟨ds, .lst (SqL.of h1) e1, e2, shaped_of (n := 10) (by simpa [PyData.canLay0] using e3) ?_ (by decide)⟩
  simp only [PyData.depth]
  unfold fuelE at e4
  omega
theorem inT_ok (ok : c.ρ.Ok) {W : Wd} {a b : AV} {x y : V} {z : Bool} (w : WOk c W) (ra : Rep c W a x) (rb : Rep c W b y) (h : inT a b W.cs = some z) :
    ∃ d ds, Dp c.K W.H x d ∧ SeqAt.shaped d = true ∧ (ds.any fun y => PyData.eqv y d) = z ∧ ((Dp c.K W.H y (.list ds) ∧ SeqAt.shaped (.list ds) = true) ∨ (Dp c.K W.H y (.tuple ds) ∧ SeqAt.shaped (.tuple ds) = true)) := by
  unfold inT at h
  cases e1 : ck fuelE a with
  | false =>
    rw [e1] at h
    cases h
  | true =>
    simp only [e1] at h
    obtain ⟨d, d1, d2, d3, d4⟩ := rep_dp fuelE a x ra e1
    have sd := shaped_of d3 d4 (by decide)
    cases e2 : itL b W.cs with
    | some xs =>
      simp only [e2] at h
      cases e3 : ckL (ck fuelE) xs with
      | false =>
        rw [e3] at h
        cases h
      | true =>
        rw [e3] at h
        obtain ⟨ds, h1, h2, h3⟩ := itL_dp w rb e2 e3
        exact ⟨d, ds, d1, sd, anyE_ok ok d2 _ _ _ h2 h, .inl ⟨h1, h3⟩⟩
    | none =>
      simp only [e2] at h
      cases e4 : itT b with
      | none =>
        rw [e4] at h
        cases h
      | some xs =>
        simp only [e4] at h
        cases e3 : ckL (ck fuelE) xs with
        | false =>
          rw [e3] at h
          cases h
        | true =>
          rw [e3] at h
          obtain ⟨ds, h1, h2, h3⟩ := itT_dp rb e4 e3
          exact ⟨d, ds, d1, sd, anyE_ok ok d2 _ _ _ h2 h, .inr ⟨h1, h3⟩⟩
theorem o_in (ok : c.ρ.Ok) (hu : X.A.units + 65 < cLine) (hK : X.K = c.K := by rfl) : OpR X (compareOp .In) (ev2 c gIn) := ((op_inD hu).or (op_inDT hu)).ev fun x y H Q ⟨W, a, b, r, cs', hH, w, ra, rb, hg, fin⟩ => by
  subst hH
  unfold gIn at hg
  cases e : inT a b W.cs with
  | none =>
    rw [e] at hg
    cases hg
  | some z =>
    rw [e] at hg
    obtain ⟨rfl, rfl⟩ := okB_ok hg
    obtain ⟨d, ds, h1, h2, rfl, h3⟩ := inT_ok ok w ra rb e
    unfold rInD rInDT
    rw [hK]
    rcases h3 with ⟨h3, h4⟩ | ⟨h3, h4⟩
    · exact .inl ⟨d, ds, h1, h3, h2, h4, fin.here w (.bl _)⟩
    · exact .inr ⟨d, ds, h1, h3, h2, h4, fin.here w (.bl _)⟩
theorem o_notIn (ok : c.ρ.Ok) (hu : X.A.units + 65 < cLine) (hK : X.K = c.K := by rfl) : OpR X (compareOp .NotIn) (ev2 c gNotIn) := ((op_notInD hu).or (op_notInDT hu)).ev fun x y H Q ⟨W, a, b, r, cs', hH, w, ra, rb, hg, fin⟩ => by
  subst hH
  unfold gNotIn at hg
  cases e : inT a b W.cs with
  | none =>
    rw [e] at hg
    cases hg
  | some z =>
    rw [e] at hg
    obtain ⟨d, ds, h1, h2, hz, h3⟩ := inT_ok ok w ra rb e
    unfold rNotInD rNotInDT
    rw [hK]
    have q : Q (.bl (!ds.any fun y => PyData.eqv y d)) W.H := by
      rw [hz]
      cases z <;> (cases hg; exact fin.here w (.bl _))
    rcases h3 with ⟨h3, h4⟩ | ⟨h3, h4⟩
    · exact .inl ⟨d, ds, h1, h3, h2, h4, q⟩
    · exact .inr ⟨d, ds, h1, h3, h2, h4, q⟩
theorem isNon_ok {W : Wd} {a : AV} {x : V} {z : Bool} (r : Rep c W a x) (h : isNon a = some z) : decide (x = .non) = z := by
  cases r <;> (cases h; rfl)
theorem rep_non {W : Wd} {y : V} (r : Rep c W .non y) : y = .non := by
  cases r
  rfl
theorem o_is : OpR X (compareOp .Is) (ev2 c gIs) := op_isN.ev fun x y H Q ⟨W, a, b, r, cs', hH, w, ra, rb, hg, fin⟩ => by
  subst hH
  cases b with
  | non =>
    have hg' : (match isNon a with
      | some z => okB z W.cs
      | none => .err) = .ok r cs' := hg
    cases e : isNon a with
    | none =>
      rw [e] at hg'
      cases hg'
    | some z =>
      rw [e] at hg'
      obtain ⟨rfl, rfl⟩ := okB_ok hg'
      refine ⟨rep_non rb, ?_⟩
      rw [isNon_ok ra e]
      exact fin.here w (.bl _)
  | _ => cases hg
theorem o_isNot : OpR X (compareOp .IsNot) (ev2 c gIsNot) := op_notN.ev fun x y H Q ⟨W, a, b, r, cs', hH, w, ra, rb, hg, fin⟩ => by
  subst hH
  cases b with
  | non =>
    have hg' : (match isNon a with
      | some true => Rs.ok (AV.bl false) W.cs
      | some false => .ok (.bl true) W.cs
      | none => .err) = .ok r cs' := hg
    cases e : isNon a with
    | none =>
      rw [e] at hg'
      cases hg'
    | some z =>
      rw [e] at hg'
      refine ⟨rep_non rb, ?_⟩
      rw [isNon_ok ra e]
      cases z <;> (cases hg'; exact fin.here w (.bl _))
  | _ => cases hg
theorem o_ix (hK : X.K = c.K := by rfl) : IxR X (ev2 c gIx) := by
  intro value slice pins s σ H x y v u Q I rx ry ⟨W, a, b, r, cs', hH, w, ra, rb, hg, fin⟩ hsub
  subst hH
  refine (ix_list.or ix_tup) value slice pins s σ W.H x y v u Q I rx ry ?_ hsub
  cases b with
  | int i => cases i with
    | negSucc n => cases hg
    | ofNat n =>
      have hg' : (match itL a W.cs with
        | some xs => okV (getS xs n) W.cs
        | none => (match itT a with
          | some xs => okV (getS xs n) W.cs
          | none => .err)) = .ok r cs' := hg
      cases e1 : itL a W.cs with
      | some xs =>
        rw [e1] at hg'
        obtain ⟨e2, e3, e4⟩ := okV_ok hg'
        subst e2 e3
        obtain ⟨p, vs, rfl, h1, h2⟩ := itL_ok w ra e1
        obtain ⟨z, h3, h4⟩ := h2.get (getS_at xs n e4)
        exact .inl ⟨p, vs, Int.ofNat n, z, rfl, rep_int rb, SqL.of h1, atI_nat h3, fin.here w h4⟩
      | none =>
        simp only [e1] at hg'
        cases e5 : itT a with
        | none =>
          rw [e5] at hg'
          cases hg'
        | some xs =>
          rw [e5] at hg'
          obtain ⟨e2, e3, e4⟩ := okV_ok hg'
          subst e2 e3
          obtain ⟨p, vs, rfl, h1, h2⟩ := itT_ok ra e5
          obtain ⟨z, h3, h4⟩ := h2.get (getS_at xs n e4)
          rw [← hK] at h1
          exact .inr ⟨p, vs, Int.ofNat n, z, rfl, rep_int rb, h1, atI_nat h3, fin.here w h4⟩
  | _ => cases hg
end
end U
end
noncomputable section
namespace U
open PySem PySem.Spec
open PyProof.Rows L2

/-! ## calls -/
def cCall (g : Fn) (t : Exs) : Ex := fun sl cs => (t sl cs).bind g
section
variable {c : Ct} {X : Cx} {e a b : Expr} {pos p : Pos} {f g : Ex}
theorem ev_cb {g : Fn} {t : Exs} (σ : L2.St) (H : Hp) (Q : VK) (q : evE c (cCall g t) σ H Q) : tCB (evF c g) (evA c t) σ H Q := by
  obtain ⟨W, sl, r, cs', hH, w, s, hf, k⟩ := q
  obtain ⟨as, cs1, h1, h2⟩ := bind_ok hf
  exact ⟨W, sl, as, cs1, hH, w, s, h1, fun vs W1 w1 x1 e1 r1 => ⟨W1, as, r, cs', rfl, w1, r1, by rw [e1]; exact h2, k.later x1⟩⟩
theorem r_callB {g : Fn} {t : Exs} {x : Str} {es : List Expr} {id : String} (hc : CallR X (.builtin id) (evF c g)) (hm : X.mg x = none) (hv : bootBuiltins x = some (.builtin id)) (ha : PA X (e :: es) (evA c t)) (hg : Gl X x := by rfl) (hn : x ≠ "__name__" := by decide) (hdb : (x == ("__debug__" : Str)) = false := by decide)
    (he : starEach (e :: es) X.env = (false, eval e X.env) :: starEach es X.env := by rfl) (hpl : (backTo pos (starEach es X.env)).any (·.1) = false := by rfl) : PE X (.Call (.Name x p) (e :: es) [] pos) (evE c (cCall g t)) :=
  (pe_callB hc hg hm hv ha hn hdb he hpl).imp ev_cb
theorem r_callTy {g : Fn} {t : Exs} {x : Str} {es : List Expr} {T : String} (hc : CallR X (.type T) (evF c g)) (hm : X.mg x = none) (hv : bootBuiltins x = some (.type T)) (ha : PA X (e :: es) (evA c t)) (hg : Gl X x := by rfl) (hn : x ≠ "__name__" := by decide) (hdb : (x == ("__debug__" : Str)) = false := by decide)
    (he : starEach (e :: es) X.env = (false, eval e X.env) :: starEach es X.env := by rfl) (hpl : (backTo pos (starEach es X.env)).any (·.1) = false := by rfl) : PE X (.Call (.Name x p) (e :: es) [] pos) (evE c (cCall g t)) :=
  (pe_callTy hc hg hm hv ha hn hdb he hpl).imp ev_cb
/-- what a def of the text promises: the run of its Fn -/
def spOf (c : Ct) (n : Nat) (F : Fn) : Sp := fun vs H Q _ => vs.length = n ∧ evF c F vs H Q
/-- a def that stands in the module under its name -/
def Callee (c : Ct) (P : Program) (w : World) (K : PySem.W.Frag) (mg : Str → Option Value) (base : Heap) (k : Nat) (x : Str) (n : Nat) (F : Fn) : Prop :=
  ∃ (f : Addr) (fd : FuncData) (ps : List Str), ps.length = n ∧ FnOk P w K mg base CX0 k f fd ps (spOf c n F) ∧ mg x = some (.ref f) ∧ PySem.W.keepIn K (.ref f) = true ∧ Binds K fd ps []
theorem Reps.nil_inv {W : Wd} {vs : List V} (r : Reps c W [] vs) : vs = [] := by
  cases r
  rfl
theorem ev_call {n : Nat} {F : Fn} {t : Exs} (σ : L2.St) (H : Hp) (Q : VK) (q : evE c (cCall (fun as cs => match Nat.beq (lenN as) n with
  | true => F as cs
  | false => .err) t) σ H Q) : tCall (spOf c n F) [] E0 (evA c t) σ H Q := by
  obtain ⟨W, sl, r, cs', hH, w, s, hf, k⟩ := q
  obtain ⟨as, cs1, h1, h2⟩ := bind_ok hf
  refine ⟨W, sl, as, cs1, hH, w, s, h1, fun vs W1 w1 x1 e1 r1 => ?_⟩
  cases e : Nat.beq (lenN as) n with
  | false =>
    rw [e] at h2
    cases h2
  | true =>
    rw [e] at h2
    rw [List.append_nil]
    exact ⟨by rw [← r1.length, ← lenN_eq]; exact Nat.eq_of_beq_eq_true e, W1, as, r, cs', rfl, w1, r1, by rw [e1]; exact h2, k.later x1⟩
/-- a call with n written arguments -/
def cFn (n : Nat) (F : Fn) (t : Exs) : Ex := cCall (fun as cs => match Nat.beq (lenN as) n with
  | true => F as cs
  | false => .err) t
theorem r_call {k n : Nat} {x : Str} {F : Fn} {t : Exs} {es : List Expr} (C : Callee c X.prog X.w X.K X.mg X.base k x n F) (hr : Room k X.A) (ha : PA X (e :: es) (evA c t)) (hg : Gl X x := by rfl) (hdb : (x == ("__debug__" : Str)) = false := by decide)
    (he : starEach (e :: es) X.env = (false, eval e X.env) :: starEach es X.env := by rfl) (hpl : (backTo pos (starEach es X.env)).any (·.1) = false := by rfl) : PE X (.Call (.Name x p) (e :: es) [] pos) (evE c (cFn n F t)) := by
  obtain ⟨f, fd, ps, hn, G, hm, hk, hb⟩ := C
  exact (pe_call G hr hg hm hk hb .nil pass0 ha hdb he hpl).imp ev_call

/-! ### built-in functions -/
theorem _root_.L2.CallR.ev {f : Value} {g : Fn} {r : List V → Hp → VK → Prop} (h : CallR X f r) (i : ∀ vs H Q, evF c g vs H Q → r vs H Q) : CallR X f (evF c g) := fun pins s σ H xs us Q I rx q => h pins s σ H xs us Q I rx (i xs H Q q)
def on1 (k : AV → CS → Rs AV) : Fn := fun as cs => match as with
  | [a] => k a cs
  | _ => .err
theorem on1_ok {k : AV → CS → Rs AV} {as : List AV} {r : AV} {cs cs' : CS} (h : on1 k as cs = .ok r cs') : ∃ a, as = [a] ∧ k a cs = .ok r cs' := by
  match as, h with
  | [], h => cases h
  | [a], h => exact ⟨a, rfl, h⟩
  | _ :: _ :: _, h => cases h
theorem reps1 {W : Wd} {a : AV} {vs : List V} (r : Reps c W [a] vs) : ∃ v, vs = [v] ∧ Rep c W a v := by
  cases r with
  | cons r t =>
    cases t
    exact ⟨_, rfl, r⟩
theorem reps2 {W : Wd} {a b : AV} {vs : List V} (r : Reps c W [a, b] vs) : ∃ v u, vs = [v, u] ∧ Rep c W a v ∧ Rep c W b u := by
  cases r with
  | cons r t =>
    obtain ⟨u, rfl, q⟩ := reps1 t
    exact ⟨_, u, rfl, r, q⟩
theorem cr_one {f : Value} {k : AV → CS → Rs AV} {r : List V → Hp → VK → Prop} (h : CallR X f r) (i : ∀ W a v res cs' Q, WOk c W → Rep c W a v → k a W.cs = .ok res cs' → Fin c W res cs' Q → r [v] W.H Q) : CallR X f (evF c (on1 k)) :=
  h.ev fun vs H Q ⟨W, as, res, cs', hH, w, rs, hg, fin⟩ => by
    obtain ⟨a, rfl, hk⟩ := on1_ok hg
    obtain ⟨v, rfl, ra⟩ := reps1 rs
    subst hH
    exact i W a v res cs' Q w ra hk fin
def items (a : AV) (cs : CS) : Option (List AV) := match itL a cs with
  | some xs => some xs
  | none => itT a
theorem items_ok {W : Wd} {a : AV} {v : V} {xs : List AV} (w : WOk c W) (r : Rep c W a v) (h : items a W.cs = some xs) : ∃ p vs, v = .ref p ∧ (SqL c.K W.H p vs ∨ SqT c.K W.H p vs) ∧ Reps c W xs vs := by
  unfold items at h
  cases e : itL a W.cs with
  | some ys =>
    rw [e] at h
    cases h
    obtain ⟨p, vs, rfl, h1, h2⟩ := itL_ok w r e
    exact ⟨p, vs, rfl, .inl (SqL.of h1), h2⟩
  | none =>
    rw [e] at h
    obtain ⟨p, vs, rfl, h1, h2⟩ := itT_ok r h
    exact ⟨p, vs, rfl, .inr h1, h2⟩
def fLen : Fn := on1 fun a cs => match items a cs with
  | some xs => okI (.ofNat (lenN xs)) cs
  | none => .err
theorem k_len (hK : X.K = c.K := by rfl) : CallR X (.builtin "len") (evF c fLen) := cr_one call_len_seq fun W a v res cs' Q w ra hk fin => by
  cases e : items a W.cs with
  | none =>
    simp only [e] at hk
    cases hk
  | some xs =>
    simp only [e] at hk
    obtain ⟨rfl, rfl⟩ := okI_ok hk
    obtain ⟨p, vs, rfl, h1, h2⟩ := items_ok w ra e
    rw [lenN_eq, h2.length] at fin
    rw [hK]
    exact ⟨p, vs, rfl, h1, fin.here w (.int _)⟩
def sAnd (b z : Bool) : Bool := match b with
  | true => z
  | false => false
def sOr (b z : Bool) : Bool := match b with
  | true => true
  | false => z
def allB (l : List AV) : Option Bool := List.rec (motive := fun _ => Option Bool) (some true) (fun a _ ih => match a with
    | .bl b => (match ih with
      | some z => some (sAnd b z)
      | none => none)
    | _ => none) l
def anyB (l : List AV) : Option Bool := List.rec (motive := fun _ => Option Bool) (some false) (fun a _ ih => match a with
    | .bl b => (match ih with
      | some z => some (sOr b z)
      | none => none)
    | _ => none) l
theorem allB_ok {W : Wd} : ∀ {as : List AV} {vs : List V} {z : Bool}, Reps c W as vs → allB as = some z → ∃ bs : List Bool, vs = bs.map V.bl ∧ bs.all id = z
  | [], _, z, .nil, h => by
    cases h
    exact ⟨[], rfl, rfl⟩
  | a :: as, _, z, .cons r t, h => by
    cases a with
    | bl b =>
      have h' : (match allB as with
        | some z => some (sAnd b z)
        | none => none) = some z := h
      cases e : allB as with
      | none =>
        rw [e] at h'
        cases h'
      | some y =>
        rw [e] at h'
        obtain ⟨bs, rfl, rfl⟩ := allB_ok t e
        refine ⟨b :: bs, by rw [rep_bl r]; rfl, ?_⟩
        cases b <;> (cases h'; rfl)
    | _ => cases h
theorem anyB_ok {W : Wd} : ∀ {as : List AV} {vs : List V} {z : Bool}, Reps c W as vs → anyB as = some z → ∃ bs : List Bool, vs = bs.map V.bl ∧ bs.any id = z
  | [], _, z, .nil, h => by
    cases h
    exact ⟨[], rfl, rfl⟩
  | a :: as, _, z, .cons r t, h => by
    cases a with
    | bl b =>
      have h' : (match anyB as with
        | some z => some (sOr b z)
        | none => none) = some z := h
      cases e : anyB as with
      | none =>
        rw [e] at h'
        cases h'
      | some y =>
        rw [e] at h'
        obtain ⟨bs, rfl, rfl⟩ := anyB_ok t e
        refine ⟨b :: bs, by rw [rep_bl r]; rfl, ?_⟩
        cases b <;> (cases h'; rfl)
    | _ => cases h
def fAll : Fn := on1 fun a cs => match itL a cs with
  | some xs => (match allB xs with
    | some z => okB z cs
    | none => .err)
  | none => .err
def fAny : Fn := on1 fun a cs => match itL a cs with
  | some xs => (match anyB xs with
    | some z => okB z cs
    | none => .err)
  | none => .err
theorem k_all (hc : X.calm = true := by rfl) : CallR X (.builtin "all") (evF c fAll) := cr_one (cr_all hc) fun W a v res cs' Q w ra hk fin => by
  cases e : itL a W.cs with
  | none =>
    simp only [e] at hk
    cases hk
  | some xs =>
    simp only [e] at hk
    cases e2 : allB xs with
    | none =>
      rw [e2] at hk
      cases hk
    | some z =>
      rw [e2] at hk
      obtain ⟨rfl, rfl⟩ := okB_ok hk
      obtain ⟨p, vs, rfl, h1, h2⟩ := itL_ok w ra e
      obtain ⟨bs, rfl, rfl⟩ := allB_ok h2 e2
      exact ⟨p, bs, rfl, SqL.of h1, fin.here w (.bl _)⟩
theorem k_any (hc : X.calm = true := by rfl) : CallR X (.builtin "any") (evF c fAny) := cr_one (cr_any hc) fun W a v res cs' Q w ra hk fin => by
  cases e : itL a W.cs with
  | none =>
    simp only [e] at hk
    cases hk
  | some xs =>
    simp only [e] at hk
    cases e2 : anyB xs with
    | none =>
      rw [e2] at hk
      cases hk
    | some z =>
      rw [e2] at hk
      obtain ⟨rfl, rfl⟩ := okB_ok hk
      obtain ⟨p, vs, rfl, h1, h2⟩ := itL_ok w ra e
      obtain ⟨bs, rfl, rfl⟩ := anyB_ok h2 e2
      exact ⟨p, bs, rfl, SqL.of h1, fin.here w (.bl _)⟩
def fInt : Fn := on1 fun a cs => match a with
  | .int i => .ok (.int i) cs
  | .bl b => (match b with
    | true => .ok (.int 1) cs
    | false => .ok (.int 0) cs)
  | _ => .err
theorem k_int : CallR X (.type "int") (evF c fInt) := cr_one call_int1 fun W a v res cs' Q w ra hk fin => by
  cases a with
  | int i =>
    cases hk
    rw [rep_int ra]
    exact .inl ⟨i, rfl, fin.here w (.int _)⟩
  | bl b =>
    rw [rep_bl ra]
    refine .inr ⟨b, rfl, ?_⟩
    cases b <;> (cases hk; exact fin.here w (.int _))
  | _ => cases hk
def on2 (k : AV → AV → CS → Rs AV) : Fn := fun as cs => match as with
  | [a, b] => k a b cs
  | _ => .err
theorem on2_ok {k : AV → AV → CS → Rs AV} {as : List AV} {r : AV} {cs cs' : CS} (h : on2 k as cs = .ok r cs') : ∃ a b, as = [a, b] ∧ k a b cs = .ok r cs' := by
  match as, h with
  | [], h => cases h
  | [a], h => cases h
  | [a, b], h => exact ⟨a, b, rfl, h⟩
  | _ :: _ :: _ :: _,
        h => cases h
theorem cr_two {f : Value} {k : Int → Int → CS → Rs AV} {r : List V → Hp → VK → Prop} (h : CallR X f r) (i : ∀ W i j res cs' Q, WOk c W → k i j W.cs = .ok res cs' → Fin c W res cs' Q → r [.int i, .int j] W.H Q) : CallR X f (evF c (on2 (on2I k))) :=
  h.ev fun vs H Q ⟨W, as, res, cs', hH, w, rs, hg, fin⟩ => by
    obtain ⟨a, b, rfl, hk⟩ := on2_ok hg
    obtain ⟨i', j', rfl, rfl, hk⟩ := on2I_ok hk
    obtain ⟨v, u, rfl, ra, rb⟩ := reps2 rs
    subst hH
    rw [rep_int ra, rep_int rb]
    exact i W i' j' res cs' Q w hk fin
def fMax2 : Fn := on2 (on2I fun i j cs => match ltI i j with
  | true => okI j cs
  | false => okI i cs)
def fMin2 : Fn := on2 (on2I fun i j cs => match ltI j i with
  | true => okI j cs
  | false => okI i cs)
theorem k_max2 (hc : X.calm = true := by rfl) : CallR X (.builtin "max") (evF c fMax2) := cr_two (call_max2 hc) fun W i j res cs' Q w hk fin => by
  refine ⟨i, j, rfl, ?_⟩
  rw [ltI_eq] at hk
  by_cases h : i < j
  · rw [decide_eq_true h] at hk
    obtain ⟨rfl, rfl⟩ := okI_ok hk
    rw [if_pos (show j > i from h)]
    exact fin.here w (.int _)
  · rw [decide_eq_false h] at hk
    obtain ⟨rfl, rfl⟩ := okI_ok hk
    rw [if_neg (show ¬ j > i from h)]
    exact fin.here w (.int _)
theorem k_min2 (hc : X.calm = true := by rfl) : CallR X (.builtin "min") (evF c fMin2) := cr_two (call_min2 hc) fun W i j res cs' Q w hk fin => by
  refine ⟨i, j, rfl, ?_⟩
  rw [ltI_eq] at hk
  by_cases h : j < i
  · rw [decide_eq_true h] at hk
    obtain ⟨rfl, rfl⟩ := okI_ok hk
    rw [if_pos h]
    exact fin.here w (.int _)
  · rw [decide_eq_false h] at hk
    obtain ⟨rfl, rfl⟩ := okI_ok hk
    rw [if_neg h]
    exact fin.here w (.int _)
def maxI : Int → List AV → Option Int
  | m, [] => some m
  | m, a :: r => match a with
    | .int i => (match ltI m i with
      | true => maxI i r
      | false => maxI m r)
    | _ => none
theorem maxI_ok {W : Wd} : ∀ {as : List AV} {vs : List V} {m z : Int}, Reps c W as vs → maxI m as = some z → ∃ ns : List Int, vs = ns.map V.int ∧ m ≤ z ∧ (∀ y ∈ ns, y ≤ z) ∧ (z = m ∨ z ∈ ns)
  | [], _, m, z, .nil, h => by
    cases h
    exact ⟨[], rfl, Int.le_refl _, (fun y hy => nomatch hy), .inl rfl⟩
  | a :: as, _, m, z, .cons r t, h => by
    cases a with
    | int i =>
      have h' : (match ltI m i with
        | true => maxI i as
        | false => maxI m as) = some z := h
      rw [ltI_eq] at h'
      by_cases hm : m < i
      · rw [decide_eq_true hm] at h'
        obtain ⟨ns, rfl, h1, h2, h3⟩ := maxI_ok t h'
        refine ⟨i :: ns, by rw [rep_int r]; rfl, by omega, fun y hy => ?_, ?_⟩
        · rcases List.mem_cons.mp hy with e | hy
          · omega
          · exact h2 y hy
        · rcases h3 with e | h3
          · exact .inr (by rw [e]; exact List.mem_cons_self)
          · exact .inr (List.mem_cons_of_mem _ h3)
      · rw [decide_eq_false hm] at h'
        obtain ⟨ns, rfl, h1, h2, h3⟩ := maxI_ok t h'
        refine ⟨i :: ns, by rw [rep_int r]; rfl, h1, fun y hy => ?_, ?_⟩
        · rcases List.mem_cons.mp hy with e | hy
          · omega
          · exact h2 y hy
        · rcases h3 with e | h3
          · exact .inl e
          · exact .inr (List.mem_cons_of_mem _ h3)
    | _ => cases h
def maxL : List AV → Option Int
  | [] => none
  | a :: r => match a with
    | .int i => maxI i r
    | _ => none
theorem maxL_ok {W : Wd} {as : List AV} {vs : List V} {z : Int} (r : Reps c W as vs) (h : maxL as = some z) : ∃ ns : List Int, vs = ns.map V.int ∧ 0 < ns.length ∧ (∀ y ∈ ns, y ≤ z) ∧ z ∈ ns := by
  cases r with
  | nil => cases h
  | @cons a v as vs r t =>
    cases a with
    | int i =>
      obtain ⟨ns, rfl, h1, h2, h3⟩ := maxI_ok t (show maxI i as = some z from h)
      refine ⟨i :: ns, by rw [rep_int r]; rfl, Nat.succ_pos _, fun y hy => ?_, ?_⟩
      · rcases List.mem_cons.mp hy with e | hy
        · omega
        · exact h2 y hy
      · rcases h3 with e | h3
        · rw [e]
          exact List.mem_cons_self
        · exact List.mem_cons_of_mem _ h3
    | _ => cases h
def fMaxL : Fn := on1 fun a cs => match itL a cs with
  | some xs => (match maxL xs with
    | some z => okI z cs
    | none => .err)
  | none => .err
theorem k_maxL (hc : X.calm = true := by rfl) : CallR X (.builtin "max") (evF c fMaxL) := cr_one (cr_max hc) fun W a v res cs' Q w ra hk fin => by
  cases e : itL a W.cs with
  | none =>
    simp only [e] at hk
    cases hk
  | some xs =>
    simp only [e] at hk
    cases e2 : maxL xs with
    | none =>
      rw [e2] at hk
      cases hk
    | some z =>
      rw [e2] at hk
      obtain ⟨rfl, rfl⟩ := okI_ok hk
      obtain ⟨p, vs, rfl, h1, h2⟩ := itL_ok w ra e
      obtain ⟨ns, rfl, h3, h4, h5⟩ := maxL_ok h2 e2
      refine ⟨p, ns, rfl, SqL.of h1, h3, fun m hm hle => ?_⟩
      have e3 : m = z := Int.le_antisymm (h4 m hm) (hle z h5)
      rw [e3]
      exact fin.here w (.int _)
/-- list(x), a value; list(x), to be changed; tuple(x) of a list -/
def fListV : Fn := on1 fun a cs => match items a cs with
  | some xs => okLst xs cs
  | none => .err
def fListC : Fn := on1 fun a cs => match items a cs with
  | some xs => okCell xs cs
  | none => .err
def fTuple : Fn := on1 fun a cs => match itL a cs with
  | some xs => okTup xs cs
  | none => .err
theorem k_listV (hK : X.K = c.K := by rfl) : CallR X (.type "list") (evF c fListV) := cr_one call_list_of fun W a v res cs' Q w ra hk fin => by
  cases e : items a W.cs with
  | none =>
    simp only [e] at hk
    cases hk
  | some xs =>
    simp only [e] at hk
    obtain ⟨p, vs, rfl, h1, h2⟩ := items_ok w ra e
    rw [hK]
    exact ⟨p, vs, rfl, h1, (fin_lst w h2 hk fin).2⟩
theorem k_listC (hK : X.K = c.K := by rfl) : CallR X (.type "list") (evF c fListC) := cr_one call_list_of fun W a v res cs' Q w ra hk fin => by
  cases e : items a W.cs with
  | none =>
    simp only [e] at hk
    cases hk
  | some xs =>
    simp only [e] at hk
    obtain ⟨p, vs, rfl, h1, h2⟩ := items_ok w ra e
    rw [hK]
    exact ⟨p, vs, rfl, h1, (fin_cell w h2 hk fin).2⟩
theorem k_tuple : CallR X (.type "tuple") (evF c fTuple) := cr_one call_tuple_of fun W a v res cs' Q w ra hk fin => by
  cases e : itL a W.cs with
  | none =>
    simp only [e] at hk
    cases hk
  | some xs =>
    simp only [e] at hk
    obtain ⟨p, vs, rfl, h1, h2⟩ := itL_ok w ra e
    exact ⟨p, vs, rfl, .inl ⟨SqL.of h1, (fin_tup w h2 hk fin).2⟩⟩
/-- the ints from m on, n of them -/
def rgN (m n : Nat) : List AV := Nat.rec (motive := fun _ => Nat → List AV) (fun _ => []) (fun _ ih m => frN m fun m => .int (.ofNat m) :: ih (Nat.succ m)) n m
theorem rgN_zero (m : Nat) : rgN m 0 = [] := rfl
theorem rgN_succ (m n : Nat) : rgN m (n + 1) = frN m fun m => .int (.ofNat m) :: rgN (m + 1) n := rfl
theorem rgN_get : ∀ (n m i : Nat), (rgN m n)[i]? = if i < n then some (.int (.ofNat (m + i))) else none
  | 0, m, i => by simp [rgN_zero]
  | n + 1, m, i => by
    rw [rgN_succ, frN_eq]
    cases i with
    | zero => simp
    | succ i =>
      rw [List.getElem?_cons_succ, rgN_get n (m + 1) i]
      by_cases h : i < n
      · rw [if_pos h, if_pos (by omega), show m + 1 + i = m + (i + 1) by omega]
      · rw [
            if_neg h, if_neg (by omega)]
theorem rgN_len (n m : Nat) : (rgN m n).length = n := by
  induction n generalizing m with
  | zero => rfl
  | succ n ih =>
    rw [rgN_succ]
    rw [frN_eq, List.length_cons, ih]
theorem rgN_reps {W : Wd} : ∀ (n m : Nat) (f : Nat → V), (∀ i, i < n → f i = .int ((m : Int) + (i : Nat))) → Reps c W (rgN m n) ((List.range n).map f)
  | 0, m, f, h => .nil
  | n + 1, m, f, h => by
    rw [rgN_succ]
    rw [frN_eq, List.range_succ_eq_map, List.map_cons, List.map_map]
    refine .cons ?_ (rgN_reps n (m + 1) (f ∘ Nat.succ) fun i hi => ?_)
    · rw [h 0 (by omega)]
      have e : ((m : Int) + ((0 : Nat) : Int)) = Int.ofNat m := by simp
      rw [e]
      exact .int _
    · show f (i + 1) = _
      rw [h (i + 1) (by omega)]
      congr 1
      omega
/-- list(range(a, b)), list(range(b)) -/
def gRg : Op2 := fun a b cs => match a with
  | .int i => (match b with
    | .int j => (match i with
      | .ofNat m => (match j with
        | .ofNat n => (match Nat.ble m 1000 with
          | true => (match Nat.ble n 400 with
            | true => okLst (rgN m (n - m)) cs
            | false => .err)
          | false => .err)
        | _ => .err)
      | _ => .err)
    | _ => .err)
  | _ => .err
theorem gRg_ok {a b r : AV} {cs cs' : CS} (h : gRg a b cs = .ok r cs') : ∃ m n : Nat, a = .int (.ofNat m) ∧ b = .int (.ofNat n) ∧ m ≤ 1000 ∧ n ≤ 400 ∧ okLst (rgN m (n - m)) cs = .ok r cs' := by
  cases a with
  | int i => cases b with
    | int j => cases i with
      | ofNat m => cases j with
        | ofNat n =>
          have h' : (match Nat.ble m 1000 with
            | true => (match Nat.ble n 400 with
              | true => okLst (rgN m (n - m)) cs
              | false => .err)
            | false => .err) = .ok r cs' := h
          cases e : Nat.ble m 1000 with
          | false =>
            rw [e] at h'
            cases h'
          | true =>
            rw [e] at h'
            cases e2 : Nat.ble n 400 with
            | false =>
              rw [e2] at h'
              cases h'
            | true =>
              rw [e2] at h'
              exact ⟨m, n, rfl, rfl, Nat.le_of_ble_eq_true e, Nat.le_of_ble_eq_true e2, h'⟩
        | negSucc _ => cases h
      | negSucc _ => cases h
    | _ => cases h
  | _ => cases h
theorem rg_fin {W : Wd} {m n : Nat} {r : AV} {cs' : CS} {Q : VK} (w : WOk c W) (h : okLst (rgN m (n - m)) W.cs = .ok r cs') (k : Fin c W r cs' Q) (h1 : m ≤ 1000) (h2 : n ≤ 400) : RgOk (Int.ofNat m) (Int.ofNat n) ∧ ∀ q, W.H q = none → Q (.ref q) (upd W.H q (.lst (rgV (Int.ofNat m) (Int.ofNat n)))) := by
  refine ⟨RgOk.of_le (by simp) (by simp only [Int.ofNat_eq_natCast]; omega) (by simp only [Int.ofNat_eq_natCast]; omega) (by simp), ?_⟩
  have rs : Reps c W (rgN m (n - m)) (rgV (Int.ofNat m) (Int.ofNat n)) := by
    unfold rgV
    rw [show (Int.ofNat n - Int.ofNat m).toNat = n - m by simp only [Int.ofNat_eq_natCast]; omega]
    exact rgN_reps _ _ _ fun i hi => rfl
  exact (fin_lst w rs h k).2
def cRg1 (g : Ex) : Ex := fun sl cs => (g sl cs).bind fun b cs2 => gRg (.int 0) b cs2
theorem r_listRg2 {p2 pos2 : Pos} (hm : X.mg "list" = none) (hm2 : X.mg "range" = none) (ha : PE X a (evE c f)) (hb : PE X b (evE c g)) (hg : Gl X "list" := by rfl) (hg2 : Gl X "range" := by rfl) (hc : X.calm = true := by rfl)
    (na : starEach [a, b] X.env = (false, eval a X.env) :: starEach [b] X.env := by rfl) (nb : starEach [b] X.env = (false, eval b X.env) :: starEach [] X.env := by rfl) (hp : (backTo pos2 (starEach [b] X.env)).any (·.1) = false := by rfl)
    (ne : starEach [.Call (.Name "range" p2) [a, b] [] pos2] X.env = (false, eval (.Call (.Name "range" p2) [a, b] [] pos2) X.env) :: starEach [] X.env := by rfl) :
    PE X (.Call (.Name "list" p) [.Call (.Name "range" p2) [a, b] [] pos2] [] pos) (evE c (cBin gRg f g)) := (pe_listRg hc hg hm (prg_2 hg2 hm2 ha hb na nb hp) ne).imp fun σ H Q ⟨W, sl, r, cs', hH, w, s, hf, k⟩ => by
  obtain ⟨a1, cs1, h1, hf⟩ := bind_ok hf
  obtain ⟨b1, cs2, h2, h3⟩ := bind_ok hf
  refine ⟨W, sl, a1, cs1, hH, w, s, h1, fun x W1 w1 x1 e1 r1 => ⟨W1, sl, b1, cs2, rfl, w1, s.mono w x1, by rw [e1]; exact h2, fun y W2 w2 x2 e2 r2 => ?_⟩⟩
  obtain ⟨m, n, rfl, rfl, l1, l2, h4⟩ := gRg_ok h3
  rw [rep_int r1, rep_int r2]
  rw [← e2] at h4
  exact ⟨_, _, rfl, rfl, rg_fin w2 h4 (k.later (x1.trans x2)) l1 l2⟩
theorem r_listRg1 {p2 pos2 : Pos} (hm : X.mg "list" = none) (hm2 : X.mg "range" = none) (hb : PE X b (evE c g)) (hg : Gl X "list" := by rfl) (hg2 : Gl X "range" := by rfl) (hc : X.calm = true := by rfl)
    (nb : starEach [b] X.env = (false, eval b X.env) :: starEach [] X.env := by rfl)
    (ne : starEach [.Call (.Name "range" p2) [b] [] pos2] X.env = (false, eval (.Call (.Name "range" p2) [b] [] pos2) X.env) :: starEach [] X.env := by rfl) :
    PE X (.Call (.Name "list" p) [.Call (.Name "range" p2) [b] [] pos2] [] pos) (evE c (cRg1 g)) := (pe_listRg hc hg hm (prg_1 hg2 hm2 hb nb) ne).imp fun σ H Q ⟨W, sl, r, cs', hH, w, s, hf, k⟩ => by
  obtain ⟨b1, cs2, h2, h3⟩ := bind_ok hf
  refine ⟨W, sl, b1, cs2, hH, w, s, h2, fun y W2 w2 x2 e2 r2 => ?_⟩
  obtain ⟨m, n, e, rfl, l1, l2, h4⟩ := gRg_ok h3
  have em : m = 0 := by
    have e' : (0 : Int) = Int.ofNat m := AV.int.inj e
    simp only [Int.ofNat_eq_natCast] at e'
    omega
  subst em
  rw [rep_int r2]
  rw [← e2] at h4
  exact ⟨_, rfl, rg_fin w2 h4 (k.later x2) l1 l2⟩
/-! ### isinstance -/
def tyName (a : AV) (cs : CS) : Option String := match a with
  | .non => some "NoneType"
  | .bl _ => some "bool"
  | .int _ => some "int"
  | .num _ => some "int"
  | .den _ => some "int"
  | .str _ => some "str"
  | .tup _ => some "tuple"
  | .base _ => some "tuple"
  | .rat _ => some "tuple"
  | .lst _ => some "list"
  | .cell n => (match cs.get n with
    | some (.lst _ _) => some "list"
    | _ => none)
  | _ => none
theorem tupAt_ty {H : Hp} {a : Addr} {xs : List V} (h : TupAt c H a xs) : TyX c.K H (.ref a) (.type "tuple") := by
  rcases h with h | ⟨o, _, _, h1, h2, _⟩
  · exact .base (.tup h)
  · exact .kTuple h1 h2
theorem tyName_ok {W : Wd} {a : AV} {v : V} {T : String} (w : WOk c W) (r : Rep c W a v) (h : tyName a W.cs = some T) : TyX c.K W.H v (.type T) := by
  cases r with
  | non => cases h; exact .base .non
  | bl b => cases h; exact .base (.bl b)
  | int i => cases h; exact .base (.int i)
  | str i _ => cases h; exact .base (.str _)
  | tup h1 _ => cases h; exact tupAt_ty h1
  | lst h1 _ _ => cases h; exact .base (.lst h1)
  | base i _ h1 => cases h; exact tupAt_ty h1
  | rat h1 _ => cases h; exact tupAt_ty h1
  | num i => cases h; exact .base (.int _)
  | den i => cases h; exact .base (.int _)
  | cell i hi =>
    have h' : (match W.cs.get i with
      | some (.lst _ _) => some "list"
      | _ => none) = some T := h
    cases e : W.cs.get i with
    | none =>
      rw [e] at h'
      cases h'
    | some co => cases co with
      | ins k fs =>
        rw [e] at h'
        cases h'
      | lst fz xs =>
        rw [e] at h'
        cases h'
        obtain ⟨_, vs, h1, _⟩ := w.ok i _ e
        exact .base (.lst h1)
/-- the answer for a value that a looks like: by a number for the type (0 bool, 1 int, 2 str, 3 tuple, 4 list) -/
def tyNo (k : Nat) : String := match k with
  | 0 => "bool"
  | 1 => "int"
  | 2 => "str"
  | 3 => "tuple"
  | _ => "list"
def isNo (a : AV) (cs : CS) (k : Nat) : Option Bool := match a with
  | .non => some false
  | .bl _ => (match k with
    | 0 => some true
    | 1 => some true
    | _ => some false)
  | .int _ => some (Nat.beq k 1)
  | .num _ => some (Nat.beq k 1)
  | .den _ => some (Nat.beq k 1)
  | .str _ => some (Nat.beq k 2)
  | .tup _ => some (Nat.beq k 3)
  | .base _ => some (Nat.beq k 3)
  | .rat _ => some (Nat.beq k 3)
  | .lst _ => some (Nat.beq k 4)
  | .cell n => (match cs.get n with
    | some (.lst _ _) => some (Nat.beq k 4)
    | _ => none)
  | _ => none
theorem kit_all : ∀ k, k < 5 → kitB "NoneType" (tyNo k) = some false ∧ kitB "bool" (tyNo k) = some (Nat.ble k 1) ∧ kitB "int" (tyNo k) = some (Nat.beq k 1) ∧ kitB "str" (tyNo k) = some (Nat.beq k 2) ∧ kitB "tuple" (tyNo k) = some (Nat.beq k 3) ∧ kitB "list" (tyNo k) = some (Nat.beq k 4) := by decide +kernel
theorem isNo_ok {W : Wd} {a : AV} {v : V} {k : Nat} {z : Bool} (hk : k < 5) (w : WOk c W) (r : Rep c W a v) (h : isNo a W.cs k = some z) : ∃ T, TyX c.K W.H v (.type T) ∧ kitB T (tyNo k) = some z := by
  obtain ⟨k0, k1, k2, k3, k4, k5⟩ := kit_all k hk
  have go : ∀ T, tyName a W.cs = some T → kitB T (tyNo k) = some z → ∃ T, TyX c.K W.H v (.type T) ∧ kitB T (tyNo k) = some z := fun T h1 h2 => ⟨T, tyName_ok w r h1, h2⟩
  cases a with
  | non => exact go _ rfl (k0.trans h)
  | bl b =>
    refine go _ rfl (k1.trans ?_)
    match k, h with
    | 0, h => exact h
    | 1, h => exact h
    | 2, h => exact h
    | 3, h => exact h
    | 4, h => exact h
    | n + 5, h => omega
  | int i => exact go _ rfl (k2.trans h)
  | num i => exact go _ rfl (k2.trans h)
  | den i => exact go _ rfl (k2.trans h)
  | str i => exact go _ rfl (k3.trans h)
  | tup xs => exact go _ rfl (k4.trans h)
  | base i => exact go _ rfl (k4.trans h)
  | rat l => exact go _ rfl (k4.trans h)
  | lst xs => exact go _ rfl (k5.trans h)
  | cell n =>
    have h' : (match W.cs.get n with
      | some (.lst _ _) => some (Nat.beq k 4)
      | _ => none) = some z := h
    cases e : W.cs.get n with
    | none =>
      rw [e] at h'
      cases h'
    | some co => cases co with
      | ins _ _ =>
        rw [e] at h'
        cases h'
      | lst fz xs =>
        rw [e] at h'
        refine go "list" ?_ (k5.trans h')
        show (match W.cs.get n with
          | some (.lst _ _) => some "list"
          | _ => none) = some "list"
        rw [e]
  | und => cases h
def cIsi (k : Nat) (f : Ex) : Ex := fun sl cs => (f sl cs).bind fun a cs1 => match isNo a cs1 k with
  | some z => okB z cs1
  | none => .err
theorem r_isi (k : Nat) {T : Str} {p2 : Pos} (hm : X.mg "isinstance" = none) (ha : PE X a (evE c f)) (hmT : X.mg T = none) (hT : bootBuiltins T = some (.type (tyNo k)) := by decide +kernel) (hk : k < 5 := by decide) (hg : Gl X "isinstance" := by rfl) (hgT : Gl X T := by rfl) (hnm : T ≠ "__name__" := by decide) (hdb : (T == ("__debug__" : Str)) = false := by decide) (hK : X.K = c.K := by rfl)
    (hs : starEach [a, .Name T p2] X.env = (false, eval a X.env) :: starEach [.Name T p2] X.env := by rfl) (hs2 : starEach [.Name T p2] X.env = (false, eval (.Name T p2) X.env) :: starEach [] X.env := by rfl) (hpl : (backTo pos (starEach [.Name T p2] X.env)).any (·.1) = false := by rfl) :
    PE X (.Call (.Name "isinstance" p) [a, .Name T p2] [] pos) (evE c (cIsi k f)) :=
  (pe_callB call_isi hg hm (by decide +kernel) (pa_cons ha (pa_cons (pe_bltn (v := .ty (tyNo k)) hgT hmT hT rfl hnm hdb) pa_nil hs2) hs) (by decide) (by decide) hs hpl).imp fun σ H Q ⟨W, sl, r, cs', hH, w, s, hf, fin⟩ => by
    obtain ⟨a1, cs1, h1, h2⟩ := bind_ok hf
    refine ⟨W, sl, a1, cs1, hH, w, s, h1, fun v W1 w1 x1 e1 r1 => ?_⟩
    cases e : isNo a1 cs1 k with
    | none =>
      simp only [e] at h2
      cases h2
    | some z =>
      simp only [e] at h2
      obtain ⟨rfl, rfl⟩ := okB_ok h2
      rw [← e1] at e
      obtain ⟨T', t1, t2⟩ := isNo_ok hk w1 r1 e
      show rIsi X.K [v, .ty (tyNo k)] W1.H Q
      rw [hK]
      exact ⟨v, .ty (tyNo k), .type T', .type (tyNo k), z, rfl, .ty _, t1, kit_ty t2, fin _ W1 w1 x1 e1 (.bl _)⟩
end
end U
end
noncomputable section
namespace U
open PySem PySem.Spec
open PyProof.Rows L2

section
variable {c : Ct} {X : Cx} {e a b : Expr} {pos p : Pos} {f g : Ex}
/-! ## slices -/
def gDrop : Op2 := fun a b cs => match b with
  | .int (.ofNat n) => (match itL a cs with
    | some xs => okLst (xs.drop n) cs
    | none => (match itT a with
      | some xs => okTup (xs.drop n) cs
      | none => .err))
  | _ => .err
def gTake : Op2 := fun a b cs => match b with
  | .int (.ofNat n) => (match itL a cs with
    | some xs => okLst (xs.take n) cs
    | none => (match itT a with
      | some xs => okTup (xs.take n) cs
      | none => .err))
  | _ => .err
theorem cut_drop {α : Type} (xs : List α) (n : Nat) : ((xs.drop (HT.sIx xs.length 0 (some (n : Int)))).take (HT.sIx xs.length xs.length none - HT.sIx xs.length 0 (some (n : Int)))) = xs.drop n := by
  rw [HT.sIx_nat, HT.sIx_none]
  by_cases h : n ≤ xs.length
  · rw [Nat.min_eq_left h, List.take_of_length_le (by rw [List.length_drop]; omega)]
  · rw [
        Nat.min_eq_right (by omega), List.drop_of_length_le (Nat.le_refl _), List.drop_of_length_le (by omega)]
    simp
theorem cut_take {α : Type} (xs : List α) (n : Nat) : ((xs.drop (HT.sIx xs.length 0 none)).take (HT.sIx xs.length xs.length (some (n : Int)) - HT.sIx xs.length 0 none)) = xs.take n := by
  rw [HT.sIx_nat, HT.sIx_none, List.drop_zero, Nat.sub_zero]
  by_cases h : n ≤ xs.length
  · rw [Nat.min_eq_left h]
  · rw [
        Nat.min_eq_right (by omega), List.take_of_length_le (Nat.le_refl _), List.take_of_length_le (by omega)]
/-- a slice by values: what stands in the list or tuple -/
def evSl (c : Ct) (h : List AV → List AV) : V → Option Int → Option Int → Hp → VK → Prop := fun x lo hi H Q => ∃ W a xs r cs', W.H = H ∧ WOk c W ∧ Rep c W a x ∧ Fin c W r cs' Q ∧
  ((itL a W.cs = some xs ∧ okLst (h xs) W.cs = .ok r cs') ∨ (itT a = some xs ∧ okTup (h xs) W.cs = .ok r cs'))
theorem slL {W : Wd} {a r : AV} {xs : List AV} {x : V} {lo hi : Option Int} {cs' : CS} {Q : VK} {h : List AV → List AV} (w : WOk c W) (ra : Rep c W a x) (k : Fin c W r cs' Q) (hc : ∀ vs, Reps c W xs vs → Reps c W (h xs) (cutV vs lo hi))
    (e1 : itL a W.cs = some xs) (e2 : okLst (h xs) W.cs = .ok r cs') : rSlL c.K x lo hi W.H Q := by
  obtain ⟨p, vs, rfl, h1, h2⟩ := itL_ok w ra e1
  exact ⟨p, vs, rfl, SqL.of h1, (fin_lst w (hc vs h2) e2 k).2⟩
theorem itT_at {W : Wd} {a : AV} {v : V} {xs : List AV} (r : Rep c W a v) (h : itT a = some xs) : ∃ p vs, v = .ref p ∧ TupAt c W.H p vs ∧ Reps c W xs vs := by
  cases r with
  | tup h1 h2 =>
    cases h
    exact ⟨_, _, rfl, h1, h2⟩
  | base i hi h1 =>
    cases h
    exact ⟨_, _, rfl, h1, .cons (.num i) (.cons (.den i) .nil)⟩
  | _ => cases h
theorem slT {W : Wd} {a r : AV} {xs : List AV} {x : V} {lo hi : Option Int} {cs' : CS} {Q : VK} {h : List AV → List AV} (w : WOk c W) (ra : Rep c W a x) (k : Fin c W r cs' Q) (hc : ∀ vs, Reps c W xs vs → Reps c W (h xs) (cutV vs lo hi))
    (e1 : itT a = some xs) (e2 : okTup (h xs) W.cs = .ok r cs') : rSlA c.K x lo hi W.H Q := by
  obtain ⟨p, vs, rfl, h1, h2⟩ := itT_at ra e1
  have h3 := hc vs h2
  refine ⟨p, vs, rfl, h1.seq, fun ⟨z1, z2⟩ => ?_, fun _ => (fin_tup w h3 e2 k).2⟩
  obtain ⟨_, rfl, rfl⟩ := okTup_ok e2
  have e3 : cutV vs lo hi = vs := by
    unfold cutV
    rw [z1, z2, List.drop_zero, Nat.sub_zero, List.take_length]
  rw [e3] at h3
  exact k.here w (.tup h1 h3)
theorem r_slLo {p2 : Pos} (he : PE X e (evE c f)) (hl : PE X a (evE c g)) (hK : X.K = c.K := by rfl) : PE X (.Subscript e (.Slice (some a) none none p2) pos) (evE c (cBin gDrop f g)) :=
  (pe_slice (sl_list.or sl_tupA) he (po_some hl) po_none).imp fun σ H Q ⟨W, sl, r, cs', hH, w, s, hf, k⟩ => by
    obtain ⟨a1, cs1, h1, hf⟩ := bind_ok hf
    obtain ⟨b1, cs2, h2, h3⟩ := bind_ok hf
    refine ⟨W, sl, a1, cs1, hH, w, s, h1, fun x W1 w1 x1 e1 r1 => ⟨W1, sl, b1, cs2, rfl, w1, s.mono w x1, by rw [e1]; exact h2, fun y W2 w2 x2 e2 r2 => ?_⟩⟩
    cases b1 with
    | int i => cases i with
      | negSucc n => cases h3
      | ofNat n =>
        refine ⟨Int.ofNat n, rep_int r2, ?_⟩
        have r1' := r1.mono w1 x2
        have k' := k.later (x1.trans x2)
        rw [← e2] at h3
        have h3' : (match itL a1 W2.cs with
          | some xs => okLst (xs.drop n) W2.cs
          | none => (match itT a1 with
            | some xs => okTup (xs.drop n) W2.cs
            | none => .err)) = .ok r cs' := h3
        rw [hK]
        have hc : ∀ (xs : List AV) vs, Reps c W2 xs vs → Reps c W2 (xs.drop n) (cutV vs (some (Int.ofNat n)) none) := fun xs vs q => by
          rw [show cutV vs (some (Int.ofNat n)) none = vs.drop n from cut_drop vs n]
          exact q.drop n
        cases e4 : itL a1 W2.cs with
        | some xs =>
          rw [e4] at h3'
          exact .inl (slL (h := List.drop n) w2 r1' k' (hc xs) e4 h3')
        | none =>
          simp only [e4] at h3'
          cases e5 : itT a1 with
          | none =>
            rw [e5] at h3'
            cases h3'
          | some xs =>
            rw [e5] at h3'
            exact .inr (slT (h := List.drop n) w2 r1' k' (hc xs) e5 h3')
    | _ => cases h3
theorem r_slHi {p2 : Pos} (he : PE X e (evE c f)) (hl : PE X a (evE c g)) (hK : X.K = c.K := by rfl) : PE X (.Subscript e (.Slice none (some a) none p2) pos) (evE c (cBin gTake f g)) :=
  (pe_slice (sl_list.or sl_tupA) he po_none (po_some hl)).imp fun σ H Q ⟨W, sl, r, cs', hH, w, s, hf, k⟩ => by
    obtain ⟨a1, cs1, h1, hf⟩ := bind_ok hf
    obtain ⟨b1, cs2, h2, h3⟩ := bind_ok hf
    refine ⟨W, sl, a1, cs1, hH, w, s, h1, fun x W1 w1 x1 e1 r1 => ⟨W1, sl, b1, cs2, rfl, w1, s.mono w x1, by rw [e1]; exact h2, fun y W2 w2 x2 e2 r2 => ?_⟩⟩
    cases b1 with
    | int i => cases i with
      | negSucc n => cases h3
      | ofNat n =>
        refine ⟨Int.ofNat n, rep_int r2, ?_⟩
        have r1' := r1.mono w1 x2
        have k' := k.later (x1.trans x2)
        rw [← e2] at h3
        have h3' : (match itL a1 W2.cs with
          | some xs => okLst (xs.take n) W2.cs
          | none => (match itT a1 with
            | some xs => okTup (xs.take n) W2.cs
            | none => .err)) = .ok r cs' := h3
        rw [hK]
        have hc : ∀ (xs : List AV) vs, Reps c W2 xs vs → Reps c W2 (xs.take n) (cutV vs none (some (Int.ofNat n))) := fun xs vs q => by
          rw [show cutV vs none (some (Int.ofNat n)) = vs.take n from cut_take vs n]
          exact q.take n
        cases e4 : itL a1 W2.cs with
        | some xs =>
          rw [e4] at h3'
          exact .inl (slL (h := List.take n) w2 r1' k' (hc xs) e4 h3')
        | none =>
          simp only [e4] at h3'
          cases e5 : itT a1 with
          | none =>
            rw [e5] at h3'
            cases h3'
          | some xs =>
            rw [e5] at h3'
            exact .inr (slT (h := List.take n) w2 r1' k' (hc xs) e5 h3')
    | _ => cases h3

/-! ## methods of lists -/
abbrev Mt := AV → List AV → CS → Rs AV
def evM (c : Ct) (h : Mt) : V → List V → Hp → VK → Prop := fun x vs H Q => ∃ W a as r cs', W.H = H ∧ WOk c W ∧ Rep c W a x ∧ Reps c W as vs ∧ h a as W.cs = .ok r cs' ∧ Fin c W r cs' Q
def cMeth (h : Mt) (f : Ex) (t : Exs) : Ex := fun sl cs => (f sl cs).bind fun a cs1 => match itL a cs1 with
  | some _ => (t sl cs1).bind fun as cs2 => h a as cs2
  | none => .err
theorem r_bm {h : Mt} {t : Exs} {es : List Expr} {name : Str} {id : String} {apos : Pos} (slot : Slot "list" name id) (hty : typeOf (.builtin id) = pure (.type "method_descriptor")) (hm : MtR X id (evM c h)) (ho : PE X b (evE c f)) (ha : PA X (e :: es) (evA c t))
    (hbase : attributeBase b name X.env (eval b X.env) = eval b X.env := by rfl)
    (hfew : ((backTo pos (starEach (e :: es) X.env)).all (fun x => !x.1) && (backToKw pos (keywordEach [] X.env)).all (fun x => x.1.isSome)
      && decide (
            (e :: es).length + ([] : List Keyword).length + (if ([] : List Keyword).isEmpty then 0 else 1) < 30)) = true := by rfl)
    (hline : (apos.endLine == pos.line) = true := by rfl) (hs : starEach (e :: es) X.env = (false, eval e X.env) :: starEach es X.env := by rfl) (hplain : (backTo pos (starEach es X.env)).any (·.1) = false := by rfl) :
    PE X (.Call (.Attribute b name apos) (e :: es) [] pos) (evE c (cMeth h f t)) :=
  (pe_bm PySem.F.plainAttrs_list slot hty hm ho ha hbase hfew hline hs hplain).imp fun σ H Q ⟨W, sl, r, cs', hH, w, s, hf, k⟩ => by
    obtain ⟨a1, cs1, h1, hf⟩ := bind_ok hf
    refine ⟨W, sl, a1, cs1, hH, w, s, h1, fun x W1 w1 x1 e1 r1 => ?_⟩
    cases e2 : itL a1 cs1 with
    | none =>
      simp only [e2] at hf
      cases hf
    | some xs =>
      simp only [e2] at hf
      obtain ⟨as, cs2, h2, h3⟩ := bind_ok hf
      rw [← e1] at e2
      obtain ⟨q, vs, rfl, h4, _⟩ := itL_ok w1 r1 e2
      refine ⟨.inl ⟨rfl, vs, SqL.of h4⟩, W1, sl, as, cs2, rfl, w1, s.mono w x1, by rw [e1]; exact h2, fun us W2 w2 x2 e3 r2 => ?_⟩
      exact ⟨W2, a1, as, r, cs', rfl, w2, r1.mono w1 x2, r2, by rw [e3]; exact h3, k.later (x1.trans x2)⟩
def cMeth0 (h : Mt) (f : Ex) : Ex := fun sl cs => (f sl cs).bind fun a cs1 => match itL a cs1 with
  | some _ => h a [] cs1
  | none => .err
theorem r_bm0 {h : Mt} {name : Str} {id : String} {apos : Pos} (slot : Slot "list" name id) (hty : typeOf (.builtin id) = pure (.type "method_descriptor")) (hm : MtR X id (evM c h)) (ho : PE X b (evE c f))
    (hbase : attributeBase b name X.env (eval b X.env) = eval b X.env := by rfl) (hline : (apos.endLine == pos.line) = true := by rfl) : PE X (.Call (.Attribute b name apos) [] [] pos) (evE c (cMeth0 h f)) :=
  (pe_bm0 PySem.F.plainAttrs_list slot hty hm ho hbase hline).imp fun σ H Q ⟨W, sl, r, cs', hH, w, s, hf, k⟩ => by
    obtain ⟨a1, cs1, h1, hf⟩ := bind_ok hf
    refine ⟨W, sl, a1, cs1, hH, w, s, h1, fun x W1 w1 x1 e1 r1 => ?_⟩
    cases e2 : itL a1 cs1 with
    | none =>
      simp only [e2] at hf
      cases hf
    | some xs =>
      simp only [e2] at hf
      rw [← e1] at e2
      obtain ⟨q, vs, rfl, h4, _⟩ := itL_ok w1 r1 e2
      exact ⟨.inl ⟨rfl, vs, SqL.of h4⟩, W1, a1, [], r, cs', rfl, w1, r1, .nil, by rw [e1]; exact hf, k.later x1⟩
/-- a cell that may be changed -/
def mutC (a : AV) (cs : CS) : Option (Nat × List AV) := match a with
  | .cell n => (match cs.get n with
    | some (.lst false xs) => some (n, xs)
    | _ => none)
  | _ => none
theorem mutC_ok {W : Wd} {a : AV} {v : V} {n : Nat} {xs : List AV} (w : WOk c W) (r : Rep c W a v) (h : mutC a W.cs = some (n, xs)) : v = .ref (W.γ n) ∧ W.cs.get n = some (.lst false xs) ∧ ∃ vs, W.H (W.γ n) = some (.lst vs) ∧ Reps c W xs vs := by
  cases r with
  | cell i hi =>
    have h' : (match W.cs.get i with
      | some (.lst false xs) => some (i, xs)
      | _ => none) = some (n, xs) := h
    split at h'
    · rename_i ys e
      injection h' with h2
      injection h2 with h3 h4
      subst h3 h4
      obtain ⟨_, vs, h1, h2⟩ := w.ok i _ e
      exact ⟨rfl, e, vs, h1, h2⟩
    · cases h'
  | _ => cases h
/-- the cell n holds xs from now on -/
theorem fin_set {W : Wd} {n : Nat} {xs ys : List AV} {us : List V} (w : WOk c W) (hg : W.cs.get n = some (.lst false xs)) (r : Reps c W ys us) : WOk c (W.setC n (.lst us) (.lst false ys)) ∧ Ext W (W.setC n (.lst us) (.lst false ys)) :=
  w.setC hg (fun _ z => by cases z) rfl fun W' x e => ⟨us, e, r.mono w x⟩
def gApp : Mt := fun a as cs => match mutC a cs with
  | some (n, xs) => (match as with
    | [y] => (match shr lim xs with
      | true => .ok .non (cs.set n (.lst false (appS xs [y])))
      | false => .err)
    | _ => .err)
  | none => .err
theorem m_append : MtR X "list.append" (evM c gApp) := fun pins s σ H x vs v us Q I rx rxs ⟨W, a, as, r, cs', hH, w, ra, rs, hg, k⟩ => by
  subst hH
  refine mt_append pins s σ W.H x vs v us Q I rx rxs ?_
  unfold gApp at hg
  cases e : mutC a W.cs with
  | none =>
    rw [e] at hg
    cases hg
  | some z =>
    obtain ⟨n, xs⟩ := z
    rw [e] at hg
    match as, hg, rs with
    | [], hg, _ => cases hg
    | _ :: _ :: _, hg, _ => cases hg
    | [y], hg, rs =>
      obtain ⟨u, rfl, ry⟩ := reps1 rs
      have hg' : (match shr lim xs with
        | true => Rs.ok AV.non (W.cs.set n (.lst false (xs ++ [y])))
        | false => .err) = .ok r cs' := by
        rw [← appS_eq]
        exact hg
      cases e2 : shr lim xs with
      | false =>
        rw [e2] at hg'
        cases hg'
      | true =>
        rw [e2] at hg'
        cases hg'
        obtain ⟨rfl, hget, ws, h1, h2⟩ := mutC_ok w ra e
        refine ⟨W.γ n, ws, u, rfl, rfl, h1, by rw [← h2.length]; exact lim_lt (shr_le _ _ e2), ?_⟩
        obtain ⟨w', x'⟩ := fin_set w hget (h2.append (.cons ry .nil))
        exact k _ (W.setC n (.lst (ws ++ [u])) (.lst false (xs ++ [y]))) w' x' rfl .non
def gPop : Mt := fun a as cs => match mutC a cs with
  | some (n, xs) => (match as with
    | [] => okV (getS xs (lenN xs - 1)) (cs.set n (.lst false xs.dropLast))
    | _ => .err)
  | none => .err
theorem m_pop : MtR X "list.pop" (evM c gPop) := fun pins s σ H x vs v us Q I rx rxs ⟨W, a, as, r, cs', hH, w, ra, rs, hg, k⟩ => by
  subst hH
  refine mt_pop pins s σ W.H x vs v us Q I rx rxs ?_
  unfold gPop at hg
  cases e : mutC a W.cs with
  | none =>
    rw [e] at hg
    cases hg
  | some z =>
    obtain ⟨n, xs⟩ := z
    rw [e] at hg
    match as, hg, rs with
    | _ :: _, hg, _ => cases hg
    | [], hg, rs =>
      obtain ⟨e2, e3, e4⟩ := okV_ok hg
      subst e2 e3
      obtain ⟨rfl, hget, ws, h1, h2⟩ := mutC_ok w ra e
      obtain ⟨y, h3, h4⟩ := h2.get (getS_at xs _ e4)
      rw [lenN_eq, h2.length] at h3
      have e5 := rs
      obtain rfl := Reps.nil_inv rs
      refine ⟨W.γ n, ws, y, rfl, rfl, h1, h3, ?_⟩
      obtain ⟨w', x'⟩ := fin_set w hget h2.dropLast
      exact k y (W.setC n (.lst ws.dropLast) (.lst false xs.dropLast)) w' x' rfl (h4.mono w x')
/-- the first place of one that is equal -/
def idxE (x : AV) : Nat → List AV → Option Nat
  | _, [] => none
  | i, y :: r => match eqA fuelE y x with
    | some true => some i
    | some false => idxE x (i + 1) r
    | none => none
theorem idxE_ok (ok : c.ρ.Ok) {x : AV} {d : PyData} (m : Mean c.ρ x d) : ∀ (as : List AV) (ds : List PyData) (i j : Nat), Means c.ρ as ds → idxE x i as = some j → ∃ k z, j = i + k ∧ ds[k]? = some z ∧ PyData.eqv z d = true ∧ ∀ (n : Nat) (z' : PyData), n < k → ds[n]? = some z' → PyData.eqv z' d = false
  | [], _, i, j, .nil, h => by cases h
  | a :: as, d1 :: ds, i, j, .cons m1 t, h => by
    unfold idxE at h
    cases e : eqA fuelE a x with
    | none =>
      rw [e] at h
      cases h
    | some y =>
      rw [e] at h
      have q := eqA_ok ok _ _ _ _ _ _ m1 m e
      cases y with
      | true =>
        cases h
        exact ⟨0, d1, rfl, rfl, q, fun n z' hn => by omega⟩
      | false =>
        obtain ⟨k, z, h1, h2, h3, h4⟩ := idxE_ok ok m as ds (i + 1) j t h
        refine ⟨k + 1, z, by omega, by rw [List.getElem?_cons_succ]; exact h2, h3, fun n z' hn hz => ?_⟩
        cases n with
        | zero =>
          cases hz
          exact q
        | succ n => exact h4 n z' (by omega) (by rw [List.getElem?_cons_succ] at hz; exact hz)
def gIndex : Mt := fun a as cs => match itL a cs with
  | some xs => (match as with
    | [y] => (match ck fuelE y with
      | true => (match ckL (ck fuelE) xs with
        | true => (match idxE y 0 xs with
          | some j => okI (.ofNat j) cs
          | none => .err)
        | false => .err)
      | false => .err)
    | _ => .err)
  | none => .err
theorem m_index (ok : c.ρ.Ok) (hu : X.A.units + 65 < cLine) (hK : X.K = c.K := by rfl) : MtR X "list.index" (evM c gIndex) := fun pins s σ H x vs v us Q I rx rxs ⟨W, a, as, r, cs', hH, w, ra, rs, hg, k⟩ => by
  subst hH
  refine mt_indexD hu pins s σ W.H x vs v us Q I rx rxs ?_
  unfold gIndex at hg
  cases e : itL a W.cs with
  | none =>
    rw [e] at hg
    cases hg
  | some xs =>
    rw [e] at hg
    match as, hg, rs with
    | [], hg, _ => cases hg
    | _ :: _ :: _, hg, _ => cases hg
    | [y], hg, rs =>
      obtain ⟨u, rfl, ry⟩ := reps1 rs
      simp only at hg
      cases e2 : ck fuelE y with
      | false =>
        rw [e2] at hg
        cases hg
      | true =>
        simp only [e2] at hg
        cases e3 : ckL (ck fuelE) xs with
        | false =>
          rw [e3] at hg
          cases hg
        | true =>
          simp only [e3] at hg
          cases e4 : idxE y 0 xs with
          | none =>
            rw [e4] at hg
            cases hg
          | some j =>
            rw [e4] at hg
            obtain ⟨rfl, rfl⟩ := okI_ok hg
            obtain ⟨d, d1, d2, d3, d4⟩ := rep_dp fuelE y u ry e2
            obtain ⟨ds, f1, f2, f3⟩ := itL_dp w ra e e3
            obtain ⟨p, ws, rfl, _, _⟩ := itL_ok w ra e
            obtain ⟨j', z, h1, h2, h3, h4⟩ := idxE_ok ok d2 xs ds 0 j f2 e4
            unfold rIndexD
            rw [hK]
            refine ⟨p, u, d, ds, j', z, rfl, rfl, f1, d1, f3, shaped_of d3 d4 (by decide), h2, h3, h4, ?_⟩
            rw [Nat.zero_add] at h1
            rw [← h1]
            exact k.here w (.int _)
end
end U
end
noncomputable section
namespace U
open PySem PySem.Spec
open PyProof.Rows L2

/-! ## statements -/
inductive Ro where
  | err
  | nx (sl : Sl) (cs : CS)
  | rt (a : AV) (cs : CS)
  | bk (sl : Sl) (cs : CS)
  | ct (sl : Sl) (cs : CS)
abbrev Stm := Sl → CS → Ro
def Post (c : Ct) (W : Wd) (r : Ro) (D : Ends) : Prop := match r with
  | .err => False
  | .nx sl cs => ∀ σ W', WOk c W' → Ext W W' → W'.cs = cs → SlOk c W' sl σ → D.nx σ W'.H
  | .rt a cs => Fin c W a cs D.rt
  | .bk sl cs => ∀ σ W', WOk c W' → Ext W W' → W'.cs = cs → SlOk c W' sl σ → D.bk σ W'.H
  | .ct sl cs => ∀ σ W', WOk c W' → Ext W W' → W'.cs = cs → SlOk c W' sl σ → D.ct σ W'.H
theorem Post.later {c : Ct} {W W1 : Wd} {r : Ro} {D : Ends} (h : Post c W r D) (x : Ext W W1) : Post c W1 r D := by
  cases r with
  | err => exact h
  | nx sl cs => exact fun σ W' w y e s => h σ W' w (x.trans y) e s
  | rt a cs => exact Fin.later h x
  | bk sl cs => exact fun σ W' w y e s => h σ W' w (x.trans y) e s
  | ct sl cs => exact fun σ W' w y e s => h σ W' w (x.trans y) e s
def evS (c : Ct) (f : Stm) : TS := fun D σ H => ∃ W sl, W.H = H ∧ WOk c W ∧ SlOk c W sl σ ∧ Post c W (f sl W.cs) D
def sSeq (f g : Stm) : Stm := fun sl cs => match f sl cs with
  | .nx sl' cs' => g sl' cs'
  | r => r
def sNil : Stm := fun sl cs => .nx sl cs
/-- a run of an expression, then more -/
def Rs.go {α : Type} (r : Rs α) (k : α → CS → Ro) : Ro := match r with
  | .err => .err
  | .ok a cs => k a cs
theorem go_ok {α : Type} {c : Ct} {W : Wd} {D : Ends} {r : Rs α} {k : α → CS → Ro} (h : Post c W (r.go k) D) : ∃ a cs, r = .ok a cs ∧ Post c W (k a cs) D := by
  cases r with
  | err => exact h.elim
  | ok a cs => exact ⟨a, cs, rfl, h⟩
section
variable {c : Ct} {X : Cx} {e a b : Expr} {pos p : Pos} {f g : Ex} {st : Stmt} {rest : List Stmt}
theorem rs_nil : PSs X [] (evS c sNil) := pss_nil.imp fun D σ H ⟨W, sl, hH, w, s, h⟩ => by
  subst hH
  exact h σ W w (Ext.refl W) rfl s
theorem rs_cons {f g : Stm} (h1 : PS X st (evS c f)) (h2 : PSs X rest (evS c g)) : PSs X (st :: rest) (evS c (sSeq f g)) := (pss_cons h1 h2).imp fun D σ H ⟨W, sl, hH, w, s, h⟩ => by
  refine ⟨W, sl, hH, w, s, ?_⟩
  unfold sSeq at h
  cases e : f sl W.cs with
  | err =>
    rw [e] at h
    exact h.elim
  | nx sl' cs' =>
    rw [e] at h
    intro σ' W' w' x ec s'
    exact ⟨W', sl', rfl, w', s', by rw [ec]; exact h.later x⟩
  | rt a cs' =>
    rw [e] at h
    exact h
  | bk sl' cs' =>
    rw [e] at h
    exact h
  | ct sl' cs' =>
    rw [e] at h
    exact h
theorem rs_one {f : Stm} (h1 : PS X st (evS c f)) : PSs X [st] (evS c f) := pss_one h1
theorem s_never : PS X st (evS c fun _ _ => .err) := ps_never.imp fun D σ H ⟨W, sl, hH, w, s, h⟩ => h
theorem ss_never : PSs X rest (evS c fun _ _ => .err) := pss_never.imp fun D σ H ⟨W, sl, hH, w, s, h⟩ => h
def sErr : Stm := fun _ _ => .err
theorem s_err : PS X st (evS c sErr) := s_never
theorem ss_err : PSs X rest (evS c sErr) := ss_never
theorem s_pass : PS X (.Pass pos) (evS c sNil) := ps_pass.imp fun D σ H ⟨W, sl, hH, w, s, h⟩ => by
  subst hH
  exact h σ W w (Ext.refl W) rfl s
def sRet (f : Ex) : Stm := fun sl cs => (f sl cs).go fun a cs1 => .rt a cs1
theorem s_ret (h : PE X e (evE c f)) : PS X (.Return (some e) pos) (evS c (sRet f)) := (ps_ret h).imp fun D σ H ⟨W, sl, hH, w, s, q⟩ => by
  obtain ⟨a, cs1, h1, h2⟩ := go_ok q
  exact ⟨W, sl, a, cs1, hH, w, s, h1, h2⟩
def sRetN : Stm := fun _ cs => .rt .non cs
theorem s_retN : PS X (.Return none pos) (evS c sRetN) := ps_retN.imp fun D σ H ⟨W, sl, hH, w, s, q⟩ => by
  subst hH
  exact Fin.here w q .non
def sExpr (f : Ex) : Stm := fun sl cs => (f sl cs).go fun _ cs1 => .nx sl cs1
theorem s_expr (h : PE X e (evE c f)) (hs : swapsWith e none pos.line X.env = pure false := by rfl) : PS X (.Expr e pos) (evS c (sExpr f)) := (ps_expr h hs).imp fun D σ H ⟨W, sl, hH, w, s, q⟩ => by
  obtain ⟨a, cs1, h1, h2⟩ := go_ok q
  exact ⟨W, sl, a, cs1, hH, w, s, h1, fun v W1 w1 x1 e1 r1 => h2 σ W1 w1 x1 e1 (s.mono w x1)⟩
def sIf (t : Tst) (f g : Stm) : Stm := fun sl cs => match t sl cs with
  | .ok b cs1 => (match b with
    | true => f sl cs1
    | false => g sl cs1)
  | .err => .err
theorem s_if {t : Tst} {f g : Stm} {as bs : List Stmt} (ht : PT X e (evT c t)) (ha : PSs X as (evS c f)) (hb : PSs X bs (evS c g)) : PS X (.If e as bs pos) (evS c (sIf t f g)) := (ps_if ht ha hb).imp fun D σ H ⟨W, sl, hH, w, s, q⟩ => by
  unfold sIf at q
  split at q
  · rename_i b0 cs0 e
    refine ⟨W, sl, b0, cs0, hH, w, s, e, fun W' w' x ec => ?_⟩
    cases b0 with
    | true => exact iteT ⟨W', sl, rfl, w', s.mono w x, by rw [ec]; exact q.later x⟩
    | false => exact iteF ⟨W', sl, rfl, w', s.mono w x, by rw [ec]; exact q.later x⟩
  · exact q.elim

/-! ### targets -/
abbrev Tg := AV → Sl → Option Sl
def SameOut (vars : List Nat) (σ σ' : L2.St) : Prop := σ'.length = σ.length ∧ ∀ j, j ∉ vars → σ'[j]? = σ[j]?
def evG (c : Ct) (vars : List Nat) (t : Tg) : TG := fun v σ H Q => ∃ W sl a sl', W.H = H ∧ WOk c W ∧ SlOk c W sl σ ∧ Rep c W a v ∧ t a sl = some sl' ∧ ∀ σ', SlOk c W sl' σ' → SameOut vars σ σ' → Q σ' W.H
theorem _root_.L2.PG.imp {t t' : TG} (q : PG X e t) (h : ∀ v σ H Q, t' v σ H Q → t v σ H Q) : PG X e t' := ⟨fun pins s σ H v u Q I r z => q.run pins s σ H v u Q I r (h v σ H Q z)⟩
theorem SlOk.set {W : Wd} {sl : Sl} {σ : L2.St} {i : Nat} {a : AV} {v : V} (s : SlOk c W sl σ) (r : Rep c W a v) : SlOk c W (setS sl i a) (σ.set i (some v)) := by
  rw [setS_eq]
  refine ⟨by rw [List.length_set, List.length_set]; exact s.len, fun j b h => ?_⟩
  by_cases hj : i = j
  · subst hj
    by_cases hi : i < sl.length
    · rw [List.getElem?_set_self hi] at h
      cases h
      exact .inr ⟨v, List.getElem?_set_self (by rw [← s.len]; exact hi), r⟩
    · rw [List.getElem?_eq_none (by rw [List.length_set]; omega)] at h
      cases h
  · rw [List.getElem?_set_ne hj] at h
    rw [List.getElem?_set_ne hj]
    exact s.at_ j b h
theorem same_set (σ : L2.St) (i : Nat) (v : V) : SameOut [i] σ (σ.set i (some v)) := ⟨List.length_set, fun j hj => List.getElem?_set_ne (fun z => hj (by rw [z]; exact List.mem_cons_self))⟩
def tgN (i : Nat) : Tg := fun a sl => some (setS sl i a)
theorem g_name {i : Nat} (h : PG X e (gName i)) : PG X e (evG c [i] (tgN i)) := h.imp fun v σ H Q ⟨W, sl, a, sl', hH, w, s, r, ht, k⟩ => by
  cases ht
  subst hH
  exact k _ (s.set r) (same_set σ i v)
def setAll (is : List Nat) : List AV → Sl → Option Sl := List.rec (motive := fun _ => List AV → Sl → Option Sl) (fun as sl => match as with
  | [] => some sl
  | _ :: _ => none) (fun i _ ih as sl => match as with
  | [] => none
  | a :: r => ih r (setS sl i a)) is
def gNames : List Nat → TGs
  | [] => gNil
  | i :: is => gCons (gName i) (gNames is)
theorem gs_nil : PGs X [] (gNames []) := pgs_nil
theorem gs_cons {i : Nat} {is : List Nat} {es : List Expr} (h1 : PG X e (gName i)) (h2 : PGs X es (gNames is)) (hs : (assignEach (e :: es) X.env).map (·.2) = assign e X.env :: (assignEach es X.env).map (·.2) := by rfl) : PGs X (e :: es) (gNames (i :: is)) := pgs_cons h1 h2 hs
theorem names_ok {W : Wd} {Q : L2.St → Hp → Prop} : ∀ (is : List Nat) (as : List AV) (vs : List V) (sl sl' : Sl) (σ : L2.St), SlOk c W sl σ → Reps c W as vs → setAll is as sl = some sl' → (∀ σ', SlOk c W sl' σ' → SameOut is σ σ' → Q σ' W.H) → vs.length = is.length ∧ gNames is vs σ W.H Q
  | [], [], _, sl, sl', σ, s, .nil, h, k => by
    cases h
    exact ⟨rfl, rfl, k σ s ⟨rfl, fun _ _ => rfl⟩⟩
  | i :: is, a :: as, v :: vs, sl, sl', σ, s, .cons r t, h, k => by
    obtain ⟨h1, h2⟩ := names_ok is as vs (setS sl i a) sl' (σ.set i (some v)) (s.set r) t h fun σ' s' o => k σ' s' ⟨o.1.trans List.length_set, fun j hj => by
      rw [o.2 j fun z => hj (List.mem_cons_of_mem _ z)]
      exact List.getElem?_set_ne fun z => hj (by rw [z]; exact List.mem_cons_self)⟩
    exact ⟨congrArg Nat.succ h1, v, vs, rfl, h2⟩
  | [], _ :: _, _, _, _, _, _, .cons _ _, h, _ => by cases h
  | _ :: _, [], _, _, _, _, _, .nil, h, _ => by cases h
def tgT (is : List Nat) : Tg := fun a sl => match itT a with
  | some xs => setAll is xs sl
  | none => none
theorem g_tup {is : List Nat} {es : List Expr} {k : Nat} (h : PGs X es (gNames is)) (hc : X.calm = true := by rfl) (hK : X.K = c.K := by rfl) (hn : (assignEach es X.env).length = is.length := by rfl) (hst : (assignEach es X.env).findIdx? (·.1) = none := by rfl) : PG X (.Tuple es k pos) (evG c is (tgT is)) :=
  (pg_tup hc h hn hst).imp fun v σ H Q ⟨W, sl, a, sl', hH, w, s, r, ht, q⟩ => by
    subst hH
    unfold tgT at ht
    cases e : itT a with
    | none =>
      rw [e] at ht
      cases ht
    | some xs =>
      rw [e] at ht
      obtain ⟨p, vs, rfl, h1, h2⟩ := itT_ok r e
      obtain ⟨h3, h4⟩ := names_ok is xs vs sl sl' σ s h2 ht q
      rw [← hK] at h1
      exact ⟨p, vs, rfl, h1, h3, h4⟩
def sAsg (t : Tg) (f : Ex) : Stm := fun sl cs => (f sl cs).go fun a cs1 => match t a sl with
  | some sl' => .nx sl' cs1
  | none => .err
theorem ev_asg {is : List Nat} {t : Tg} (D : Ends) (σ : L2.St) (H : Hp) (q : evS c (sAsg t f) D σ H) : tAsg (evE c f) (evG c is t) D σ H := by
  obtain ⟨W, sl, hH, w, s, q⟩ := q
  obtain ⟨a, cs1, h1, h2⟩ := go_ok q
  refine ⟨W, sl, a, cs1, hH, w, s, h1, fun v W1 w1 x1 e1 r1 => ?_⟩
  cases e2 : t a sl with
  | none =>
    rw [e2] at h2
    exact h2.elim
  | some sl' =>
    rw [e2] at h2
    exact ⟨W1, sl, a, sl', rfl, w1, s.mono w x1, r1, e2, fun σ' s' _ => h2 σ' W1 w1 x1 e1 s'⟩
theorem s_asg {is : List Nat} {t : Tg} {tg : Expr} (he : PE X e (evE c f)) (hg : PG X tg (evG c is t)) (hs : swapsWithSole [tg] e pos.line X.env = pure false := by rfl) (hw : swappedStores [tg] e X.env = pure none := by rfl)
    (h1 : (assignEach [tg] X.env).map (·.2) = [assign tg X.env] := by rfl) : PS X (.Assign [tg] e pos) (evS c (sAsg t f)) := (ps_asg he hg hs hw h1).imp ev_asg
def sSet (i : Nat) (f : Ex) : Stm := fun sl cs => (f sl cs).go fun a cs1 => .nx (setS sl i a) cs1
theorem ev_set {i : Nat} (D : Ends) (σ : L2.St) (H : Hp) (q : evS c (sSet i f) D σ H) : tAsg (evE c f) (gName i) D σ H := by
  obtain ⟨W, sl, hH, w, s, q⟩ := q
  obtain ⟨a, cs1, h1, h2⟩ := go_ok q
  exact ⟨W, sl, a, cs1, hH, w, s, h1, fun v W1 w1 x1 e1 r1 => h2 _ W1 w1 x1 e1 ((s.mono w x1).set r1)⟩
theorem s_set {i : Nat} (h : PS X st (tAsg (evE c f) (gName i))) : PS X st (evS c (sSet i f)) := h.imp ev_set
/-! ### stores into lists -/
def setIx (a b v : AV) (cs : CS) : Option CS := match mutC a cs with
  | some (n, xs) => (match b with
    | .int (.ofNat i) => (match Nat.blt i (lenN xs) with
      | true => some (cs.set n (.lst false (xs.set i v)))
      | false => none)
    | _ => none)
  | none => none
theorem setIx_ok {W : Wd} {a b y : AV} {o i v : V} {cs' : CS} {Q : Hp → Prop} (w : WOk c W) (ra : Rep c W a o) (rb : Rep c W b i) (ry : Rep c W y v) (h : setIx a b y W.cs = some cs') (k : ∀ W', WOk c W' → Ext W W' → W'.cs = cs' → Q W'.H) : rSetL o i v W.H Q := by
  unfold setIx at h
  cases e : mutC a W.cs with
  | none =>
    rw [e] at h
    cases h
  | some z =>
    obtain ⟨n, xs⟩ := z
    rw [e] at h
    cases b with
    | int j => cases j with
      | negSucc j => cases h
      | ofNat j =>
        have h' : (match Nat.blt j (lenN xs) with
          | true => some (W.cs.set n (.lst false (xs.set j y)))
          | false => none) = some cs' := h
        cases e2 : Nat.blt j (lenN xs) with
        | false =>
          rw [e2] at h'
          cases h'
        | true =>
          rw [e2] at h'
          cases h'
          obtain ⟨rfl, hget, ws, h1, h2⟩ := mutC_ok w ra e
          have hj : j < ws.length := by
            rw [← h2.length, ← lenN_eq]
            exact Nat.le_of_ble_eq_true e2
          obtain ⟨w', x'⟩ := fin_set w hget (h2.set (i := j) ry)
          refine ⟨W.γ n, ws, (j : Int), j, rfl, rep_int rb, h1, ?_, k (W.setC n (.lst (ws.set j v)) (.lst false (xs.set j y))) w' x' rfl⟩
          unfold ixN
          rw [if_pos (Int.natCast_nonneg j), if_pos (by omega)]
          rfl
    | _ => cases h
/-- o[i] = e: the value first -/
def sIx (f fo fi : Ex) : Stm := fun sl cs => (f sl cs).go fun v cs1 => (fo sl cs1).go fun o cs2 => (fi sl cs2).go fun i cs3 => match setIx o i v cs3 with
  | some cs4 => .nx sl cs4
  | none => .err
theorem s_ix {fo fi : Ex} {ip : Pos} (he : PE X e (evE c f)) (ho : PE X a (evE c fo)) (hi : PE X b (evE c fi)) (ha : ∀ v, assign (.Subscript a b ip) X.env v = (do
      let ov ← holding [v] (eval a X.env)
      let iv ← holding [v, ov] (eval b X.env)
      standAt ip
      holding [
            v, ov, iv] (setItem ov iv v)
      release [v, ov, iv] []) := by intro _; rfl) (hs : swapsWithSole [.Subscript a b ip] e pos.line X.env = pure false := by rfl) (hw : swappedStores [.Subscript a b ip] e X.env = pure none := by rfl)
    (h1 : (assignEach [.Subscript a b ip] X.env).map (·.2) = [assign (.Subscript a b ip) X.env] := by rfl) : PS X (.Assign [.Subscript a b ip] e pos) (evS c (sIx f fo fi)) :=
  (ps_asg he (pg_sub ho hi set_list ha) hs hw h1).imp fun D σ H ⟨W, sl, hH, w, s, q⟩ => by
    obtain ⟨v1, cs1, h1, q⟩ := go_ok q
    obtain ⟨o1, cs2, h2, q⟩ := go_ok q
    obtain ⟨i1, cs3, h3, q⟩ := go_ok q
    refine ⟨W, sl, v1, cs1, hH, w, s, h1, fun v W1 w1 x1 e1 r1 => ⟨W1, sl, o1, cs2, rfl, w1, s.mono w x1, by rw [e1]; exact h2, fun o W2 w2 x2 e2 r2 => ⟨W2, sl, i1, cs3, rfl, w2, (s.mono w x1).mono w1 x2, by rw [e2]; exact h3, fun i W3 w3 x3 e3 r3 => ?_⟩⟩⟩
    cases e4 : setIx o1 i1 v1 cs3 with
    | none =>
      rw [e4] at q
      exact q.elim
    | some cs4 =>
      rw [e4] at q
      rw [← e3] at e4
      exact setIx_ok w3 (r2.mono w2 x3) r3 ((r1.mono w1 x2).mono w2 x3) e4 fun W4 w4 x4 e5 => q σ W4 w4 (x1.trans (x2.trans (x3.trans x4))) e5 (s.mono w (x1.trans (x2.trans (x3.trans x4))))

/-! ### what is walked -/
abbrev Its := Sl → CS → Rs (List AV)
/-- at each turn it yields the next of xs -/
def Yields (c : Ct) (J : It) (W : Wd) (xs : List AV) : Prop := ∀ (i : Nat) (W1 : Wd), WOk c W1 → ExtH W W1 →
  (∀ a, xs[i]? = some a → J.go i W1.H ∧ ∀ x H', J.yld i W1.H x H' → ∃ W2, W2.H = H' ∧ W2.cs = W1.cs ∧ WOk c W2 ∧ Ext W1 W2 ∧ Rep c W2 a x) ∧ (xs[i]? = none → J.stop i W1.H)
def evI (c : Ct) (f : Its) : TI := fun σ H R => ∃ W sl xs cs', W.H = H ∧ WOk c W ∧ SlOk c W sl σ ∧ f sl W.cs = .ok xs cs' ∧ ∀ J W', WOk c W' → Ext W W' → W'.cs = cs' → Yields c J W' xs → R J W'.H
theorem _root_.L2.PI.imp {tg : Expr} {t t' : TI} (q : PI X tg e t) (h : ∀ σ H R, t' σ H R → t σ H R) : PI X tg e t' := ⟨fun pins s σ H R I z => q.run pins s σ H R I (h σ H R z)⟩
/-- a list's items; a cell is frozen -/
def walkL (a : AV) (cs : CS) : Rs (List AV) := match a with
  | .lst xs => .ok xs cs
  | .cell n => (match cs.get n with
    | some (.lst fz xs) => (match fz with
      | true => .ok xs cs
      | false => .ok xs (cs.set n (.lst true xs)))
    | _ => .err)
  | _ => .err
/-- the list stands as it is from now on -/
theorem walkL_ok {W : Wd} {a : AV} {v : V} {xs : List AV} {cs' : CS} (w : WOk c W) (r : Rep c W a v) (h : walkL a W.cs = .ok xs cs') : ∃ p vs W', v = .ref p ∧ W'.H = W.H ∧ W'.cs = cs' ∧ WOk c W' ∧ Ext W W' ∧ Reps c W' xs vs ∧ ∀ W1, ExtH W' W1 → W1.H p = some (.lst vs) := by
  cases r with
  | lst h1 h2 h3 =>
    cases h
    exact ⟨_, _, W, rfl, rfl, rfl, w, Ext.refl W, h3, fun W1 x => (x.keep _ _ h1 h2).1⟩
  | cell i hi =>
    have h' : (match W.cs.get i with
      | some (.lst fz xs) => (match fz with
        | true => Rs.ok xs W.cs
        | false => .ok xs (W.cs.set i (.lst true xs)))
      | _ => .err) = .ok xs cs' := h
    split at h'
    · rename_i fz ys e
      obtain ⟨_, vs, h1, h2⟩ := w.ok i _ e
      cases fz with
      | true =>
        injection h' with e1 e2
        subst e1 e2
        exact ⟨_, vs, W, rfl, rfl, rfl, w, Ext.refl W, h2, fun W1 x => by rw [(x.fz i _ hi e).2]; exact h1⟩
      | false =>
        injection h' with e1 e2
        subst e1 e2
        obtain ⟨w', x⟩ := w.frz e
        refine ⟨_, vs, ⟨W.γ, W.H, W.cs.set i (.lst true ys), W.hid⟩, rfl, rfl, rfl, w', x, h2.mono w x, fun W1 x1 => ?_⟩
        have g : (⟨W.γ, W.H, W.cs.set i (.lst true ys), W.hid⟩ : Wd).cs.get i = some (.lst true ys) := find_put_self _ _ _ _ e
        have := (x1.fz i ys hi g).2
        rw [this]
        exact h1
    · cases h'
  | _ => cases h
theorem yields_list {K : PySem.W.Frag} {W : Wd} {p : Addr} {xs : List AV} {vs : List V} (w : WOk c W) (r : Reps c W xs vs) (h : ∀ W1, ExtH W W1 → SqL K W1.H p vs) : Yields c (Itl K p) W xs := fun i W1 w1 x => ⟨fun a ha => by
    obtain ⟨v, h1, h2⟩ := r.get ha
    refine ⟨⟨vs, v, h W1 x, h1⟩, fun y H' ⟨e, hy⟩ => ⟨W1, e.symm, rfl, w1, Ext.refl W1, ?_⟩⟩
    have e2 : y = v := Option.some.inj ((hy vs (h W1 x)).symm.trans h1)
    rw [e2]
    exact h2.map (x.sees w), fun hn => ⟨vs, h W1 x, by
    rw [← r.length]
    exact List.getElem?_eq_none_iff.mp hn⟩⟩
def iL (f : Ex) : Its := fun sl cs => (f sl cs).bind walkL
theorem i_list {tg : Expr} (h : PE X e (evE c f)) : PI X tg e (evI c (iL f)) := (pi_list h).imp fun σ H R ⟨W, sl, xs, cs', hH, w, s, hf, k⟩ => by
  obtain ⟨a1, cs1, h1, h2⟩ := bind_ok hf
  refine ⟨W, sl, a1, cs1, hH, w, s, h1, fun v W1 w1 x1 e1 r1 => ?_⟩
  rw [← e1] at h2
  obtain ⟨p, vs, W2, rfl, g1, g2, w2, x2, rs, hst⟩ := walkL_ok w1 r1 h2
  rw [← g1]
  exact ⟨p, rfl, ⟨vs, SqL.of (hst W2 (Ext.refl W2).h)⟩, k _ W2 w2 (x1.trans x2) g2 (yields_list w2 rs fun W3 x3 => SqL.of (hst W3 x3))⟩
def iT (f : Ex) : Its := fun sl cs => (f sl cs).bind fun a cs1 => match itT a with
  | some xs => .ok xs cs1
  | none => .err
theorem yields_tup {W : Wd} {p : Addr} {xs : List AV} {vs : List V} (w : WOk c W) (r : Reps c W xs vs) (h : TupAt c W.H p vs) : Yields c (Itt c.K p) W xs := fun i W1 w1 x => ⟨fun a ha => by
    obtain ⟨v, h1, h2⟩ := r.get ha
    have h' := (x.sees w |>.tupAt h).seq
    refine ⟨⟨vs, v, h', h1⟩, fun y H' ⟨e, hy⟩ => ⟨W1, e.symm, rfl, w1, Ext.refl W1, ?_⟩⟩
    have e2 : y = v := Option.some.inj ((hy vs h').symm.trans h1)
    rw [e2]
    exact h2.map (x.sees w), fun hn => ⟨vs, (x.sees w |>.tupAt h).seq, by
    rw [← r.length]
    exact List.getElem?_eq_none_iff.mp hn⟩⟩
theorem i_tup {tg : Expr} (h : PE X e (evE c f)) (hK : X.K = c.K := by rfl) : PI X tg e (evI c (iT f)) := (pi_tup h).imp fun σ H R ⟨W, sl, xs, cs', hH, w, s, hf, k⟩ => by
  obtain ⟨a1, cs1, h1, h2⟩ := bind_ok hf
  refine ⟨W, sl, a1, cs1, hH, w, s, h1, fun v W1 w1 x1 e1 r1 => ?_⟩
  cases e2 : itT a1 with
  | none =>
    simp only [e2] at h2
    cases h2
  | some ys =>
    simp only [e2] at h2
    cases h2
    obtain ⟨p, vs, rfl, h3, h4⟩ := itT_at r1 e2
    rw [hK]
    exact ⟨p, rfl, ⟨vs, h3.seq⟩, k _ W1 w1 x1 e1 (yields_tup w1 h4 h3)⟩
/-- range(b) -/
def rng (a b : AV) (cs : CS) : Rs (List AV) := match a with
  | .int (.ofNat m) => (match b with
    | .int (.ofNat n) => (match Nat.ble m 10000 with
      | true => (match Nat.ble n 10000 with
        | true => .ok (rgN m (n - m)) cs
        | false => .err)
      | false => .err)
    | _ => .err)
  | _ => .err
theorem rng_ok {a b : AV} {cs cs' : CS} {xs : List AV} (h : rng a b cs = .ok xs cs') : ∃ m n : Nat, a = .int (.ofNat m) ∧ b = .int (.ofNat n) ∧ m ≤ 10000 ∧ n ≤ 10000 ∧ xs = rgN m (n - m) ∧ cs' = cs := by
  cases a with
  | int i => cases i with
    | negSucc _ => cases h
    | ofNat m => cases b with
      | int j => cases j with
        | negSucc _ => cases h
        | ofNat n =>
          have h' : (match Nat.ble m 10000 with
            | true => (match Nat.ble n 10000 with
              | true => Rs.ok (rgN m (n - m)) cs
              | false => .err)
            | false => .err) = .ok xs cs' := h
          cases e : Nat.ble m 10000 with
          | false =>
            rw [e] at h'
            cases h'
          | true =>
            rw [e] at h'
            cases e2 : Nat.ble n 10000 with
            | false =>
              rw [e2] at h'
              cases h'
            | true =>
              rw [e2] at h'
              cases h'
              exact ⟨m, n, rfl, rfl, Nat.le_of_ble_eq_true e, Nat.le_of_ble_eq_true e2, rfl, rfl⟩
      | _ => cases h
  | _ => cases h
theorem yields_rng {W : Wd} {m n : Nat} : Yields c (Itr (Int.ofNat m) n) W (rgN m n) := fun i W1 w1 x => by
  rw [rgN_get]
  refine ⟨fun a ha => ?_, fun hn => ?_⟩
  · by_cases hi : i < n
    · rw [if_pos hi] at ha
      cases ha
      refine ⟨hi, fun y H' ⟨e, hy⟩ => ⟨W1, e.symm, rfl, w1, Ext.refl W1, ?_⟩⟩
      subst hy
      have e2 : (Int.ofNat m + (i : Nat) : Int) = Int.ofNat (m + i) := by simp
      rw [e2]
      exact .int _
    · rw [if_neg hi] at ha
      cases ha
  · by_cases hi : i < n
    · rw [if_pos hi] at hn
      cases hn
    · show n ≤ i
      omega
def iR1 (g : Ex) : Its := fun sl cs => (g sl cs).bind fun b cs1 => rng (.int 0) b cs1
def iR2 (f g : Ex) : Its := fun sl cs => (f sl cs).bind fun a cs1 => (g sl cs1).bind fun b cs2 => rng a b cs2
theorem reps_of_one {c : Ct} {W : Wd} {a : AV} {vs : List V} (r : Reps c W [a] vs) : ∃ v, vs = [v] ∧ Rep c W a v := reps1 r
theorem i_range1 {tg : Expr} (hm : X.mg "range" = none) (hb : PE X b (evE c g)) (hg : Gl X "range" := by rfl) (hs : starEach [b] X.env = [(false, eval b X.env)] := by rfl) : PI X tg (.Call (.Name "range" p) [b] [] pos) (evI c (iR1 g)) :=
  (pi_range1 hg hm (ra_cons hb ra_nil hs) hs).imp fun σ H R ⟨W, sl, xs, cs', hH, w, s, hf, k⟩ => by
    obtain ⟨b1, cs1, h1, h2⟩ := bind_ok hf
    obtain ⟨m, n, e, rfl, l1, l2, rfl, hcs⟩ := rng_ok h2
    have em : m = 0 := by
      have e' : (0 : Int) = Int.ofNat m := AV.int.inj e
      simp only [Int.ofNat_eq_natCast] at e'
      omega
    subst em
    refine ⟨W, sl, [.int (.ofNat n)], cs1, hH, w, s, ?_, fun vs W1 w1 x1 e1 r1 => ?_⟩
    · show (g sl W.cs).bind _ = _
      rw [h1]
      rfl
    · obtain ⟨v, rfl, r⟩ := reps1 r1
      rw [rep_int r]
      refine ⟨Int.ofNat n, rfl, by simp only [Int.ofNat_eq_natCast]; omega, by simp only [Int.ofNat_eq_natCast]; omega, ?_⟩
      have q := k (Itr (Int.ofNat 0) n) W1 w1 x1 (e1.trans hcs.symm) yields_rng
      exact q
theorem i_range2 {tg : Expr} (hm : X.mg "range" = none) (ha : PE X a (evE c f)) (hb : PE X b (evE c g)) (hg : Gl X "range" := by rfl) (hs : starEach [a, b] X.env = [(false, eval a X.env), (false, eval b X.env)] := by rfl) (hs2 : starEach [b] X.env = [(false, eval b X.env)] := by rfl) : PI X tg (.Call (.Name "range" p) [a, b] [] pos) (evI c (iR2 f g)) :=
  (pi_range2 hg hm (ra_cons ha (ra_cons hb ra_nil hs2) (by rw [hs, hs2])) hs hs2).imp fun σ H R ⟨W, sl, xs, cs', hH, w, s, hf, k⟩ => by
    obtain ⟨a1, cs1, h1, hf⟩ := bind_ok hf
    obtain ⟨b1, cs2, h2, h3⟩ := bind_ok hf
    obtain ⟨m, n, rfl, rfl, l1, l2, rfl, hcs⟩ := rng_ok h3
    refine ⟨W, sl, [.int (.ofNat m), .int (.ofNat n)], cs2, hH, w, s, ?_, fun vs W1 w1 x1 e1 r1 => ?_⟩
    · show (f sl W.cs).bind _ = _
      rw [h1]
      show ((g sl cs1).bind _).bind _ = _
      rw [h2]
      rfl
    · obtain ⟨v, u, rfl, r, r'⟩ := reps2 r1
      rw [rep_int r, rep_int r']
      refine ⟨Int.ofNat m, Int.ofNat n, rfl, by simp only [Int.ofNat_eq_natCast]; omega, ?_⟩
      have e5 : (Int.ofNat n - Int.ofNat m).toNat = n - m := by
        simp only [Int.ofNat_eq_natCast]
        omega
      rw [e5]
      exact k (Itr (Int.ofNat m) (n - m)) W1 w1 x1 (e1.trans hcs.symm) yields_rng
/-- enumerate -/
def enumL (n : Nat) (l : List AV) : List AV := List.rec (motive := fun _ => Nat → List AV) (fun _ => []) (fun a _ ih n => frN n fun n => .tup [.int (.ofNat n), a] :: ih (Nat.succ n)) l n
theorem enumL_cons (n : Nat) (a : AV) (r : List AV) : enumL n (a :: r) = frN n fun n => .tup [.int (.ofNat n), a] :: enumL (n + 1) r := rfl
theorem enumL_get : ∀ (xs : List AV) (n i : Nat), (enumL n xs)[i]? = (xs[i]?).map fun a => AV.tup [.int (.ofNat (n + i)), a]
  | [], n, i => by simp [show enumL n [] = [] from rfl]
  | a :: r, n, i => by
    rw [enumL_cons, frN_eq]
    cases i with
    | zero => simp
    | succ i =>
      rw [List.getElem?_cons_succ, List.getElem?_cons_succ, enumL_get r (n + 1) i, show n + 1 + i = n + (i + 1) by omega]
theorem pair_new {W1 : Wd} {T : Addr} {H' : Hp} {a b : AV} {v u : V} (w1 : WOk c W1) (hT : W1.H T = none) (hH : H' = upd W1.H T (.tup [v, u])) (ra : Rep c W1 a v) (rb : Rep c W1 b u) : ∃ W2, W2.H = H' ∧ W2.cs = W1.cs ∧ WOk c W2 ∧ Ext W1 W2 ∧ Rep c W2 (.tup [a, b]) (.ref T) := by
  obtain ⟨w2, x2⟩ := w1.lay (o := .tup [v, u]) hT
  exact ⟨W1.lay T (.tup [v, u]), hH.symm, rfl, w2, x2, .tup (.inl upd_same) (.cons (ra.mono w1 x2) (.cons (rb.mono w1 x2) .nil))⟩
theorem yields_enum {K : PySem.W.Frag} {W : Wd} {p : Addr} {xs : List AV} {vs : List V} (w : WOk c W) (r : Reps c W xs vs) (h : ∀ W1, ExtH W W1 → SqL K W1.H p vs) : Yields c (Ite K p) W (enumL 0 xs) := fun i W1 w1 x => by
  rw [enumL_get]
  refine ⟨fun a ha => ?_, fun hn => ?_⟩
  · cases e : xs[i]? with
    | none =>
      rw [e] at ha
      cases ha
    | some y =>
      rw [e] at ha
      obtain ⟨v, h1, h2⟩ := r.get e
      refine ⟨⟨vs, v, h W1 x, h1⟩, fun z H' ⟨T, u, hz, hT, hH, hu⟩ => ?_⟩
      subst hz
      have e2 : u = v := Option.some.inj ((hu vs (h W1 x)).symm.trans h1)
      subst e2
      have ea : a = AV.tup [.int (.ofNat i), y] := by
        rw [Nat.zero_add] at ha
        exact (Option.some.inj ha).symm
      rw [ea]
      exact pair_new w1 hT hH (.int (Int.ofNat i)) (h2.map (x.sees w))
  · cases e : xs[i]? with
    | some y =>
      rw [e] at hn
      cases hn
    | none => exact ⟨vs, h W1 x, by rw [← r.length]; exact List.getElem?_eq_none_iff.mp e⟩
def iE (f : Ex) : Its := fun sl cs => (f sl cs).bind fun a cs1 => (walkL a cs1).bind fun xs cs2 => .ok (enumL 0 xs) cs2
theorem i_enum {elts : List Expr} {kk : Nat} {tpos : Pos} (hm : X.mg "enumerate" = none) (h : PE X e (evE c f)) (hg : Gl X "enumerate" := by rfl) (hs : starEach [e] X.env = [(false, eval e X.env)] := by rfl) : PI X (.Tuple elts kk tpos) (.Call (.Name "enumerate" p) [e] [] pos) (evI c (iE f)) :=
  (pi_enum hg hm (ra_cons h ra_nil hs) hs).imp fun σ H R ⟨W, sl, xs, cs', hH, w, s, hf, k⟩ => by
    obtain ⟨a1, cs1, h1, hf⟩ := bind_ok hf
    obtain ⟨ys, cs2, h2, h3⟩ := bind_ok hf
    cases h3
    refine ⟨W, sl, [a1], cs1, hH, w, s, ?_, fun vs W1 w1 x1 e1 r1 => ?_⟩
    · show (f sl W.cs).bind _ = _
      rw [h1]
      rfl
    · obtain ⟨v, rfl, r⟩ := reps1 r1
      rw [← e1] at h2
      obtain ⟨q, us, W2, rfl, g1, g2, w2, x2, rs, hst⟩ := walkL_ok w1 r h2
      rw [← g1]
      exact ⟨q, us, rfl, SqL.of (hst W2 (Ext.refl W2).h), k _ W2 w2 (x1.trans x2) g2 (yields_enum w2 rs fun W3 x3 => SqL.of (hst W3 x3))⟩
/-- zip of two lists -/
def zipL (as : List AV) : List AV → List AV := List.rec (motive := fun _ => List AV → List AV) (fun _ => []) (fun a _ ih bs => match bs with
  | [] => []
  | b :: r => .tup [a, b] :: ih r) as
theorem zipL_cons (a b : AV) (as bs : List AV) : zipL (a :: as) (b :: bs) = .tup [a, b] :: zipL as bs := rfl
theorem zipL_get : ∀ (xs ys : List AV) (i : Nat), (∀ a b, xs[i]? = some a → ys[i]? = some b → (zipL xs ys)[i]? = some (.tup [a, b])) ∧ (xs[i]? = none ∨ ys[i]? = none → (zipL xs ys)[i]? = none)
  | [], ys, i => ⟨fun a b h => by simp at h, fun _ => by simp [show zipL [] ys = [] from rfl]⟩
  | x :: xs, [], i => ⟨fun a b _ h => by simp at h, fun _ => by simp [show zipL (x :: xs) [] = [] from rfl]⟩
  | x :: xs, y :: ys, 0 => ⟨fun a b h1 h2 => by
      cases h1
      cases h2
      rfl, fun h => by rcases h with h | h <;> cases h⟩
  | x :: xs, y :: ys, i + 1 => by
    obtain ⟨h1, h2⟩ := zipL_get xs ys i
    simp only [zipL_cons, List.getElem?_cons_succ]
    exact ⟨h1, h2⟩
theorem yields_zip {K : PySem.W.Frag} {W : Wd} {p q : Addr} {xs ys : List AV} {vs us : List V} (w : WOk c W) (r : Reps c W xs vs) (r' : Reps c W ys us) (h : ∀ W1, ExtH W W1 → SqL K W1.H p vs) (h' : ∀ W1, ExtH W W1 → SqL K W1.H q us) : Yields c (Itz K p q) W (zipL xs ys) := fun i W1 w1 x => by
  obtain ⟨z1, z2⟩ := zipL_get xs ys i
  cases e : xs[i]? with
  | none =>
    rw [z2 (.inl e)]
    exact ⟨fun a z => (nomatch z), fun _ => ⟨vs, us, h W1 x, h' W1 x, .inl (by rw [← r.length]; exact List.getElem?_eq_none_iff.mp e)⟩⟩
  | some a => cases e' : ys[i]? with
    | none =>
      rw [z2 (.inr e')]
      exact ⟨fun a z => (nomatch z), fun _ => ⟨vs, us, h W1 x, h' W1 x, .inr (by rw [← r'.length]; exact List.getElem?_eq_none_iff.mp e')⟩⟩
    | some b =>
      rw [z1 a b e e']
      obtain ⟨v, h1, h2⟩ := r.get e
      obtain ⟨u, h3, h4⟩ := r'.get e'
      refine ⟨fun y hy => ⟨⟨vs, us, v, u, h W1 x, h' W1 x, h1, h3⟩, fun z H' ⟨T, v', u', hz, hT, hH, hv, hu⟩ => ?_⟩, fun z => nomatch z⟩
      subst hz
      have e2 : v' = v := Option.some.inj ((hv vs (h W1 x)).symm.trans h1)
      have e3 : u' = u := Option.some.inj ((hu us (h' W1 x)).symm.trans h3)
      subst e2 e3
      rw [← Option.some.inj hy]
      exact pair_new w1 hT hH (h2.map (x.sees w)) (h4.map (x.sees w))
def iZ (f g : Ex) : Its := fun sl cs => (f sl cs).bind fun a cs1 => (g sl cs1).bind fun b cs2 => (walkL a cs2).bind fun xs cs3 => (walkL b cs3).bind fun ys cs4 => .ok (zipL xs ys) cs4
theorem i_zip {elts : List Expr} {kk : Nat} {tpos : Pos} (hm : X.mg "zip" = none) (ha : PE X a (evE c f)) (hb : PE X b (evE c g)) (hg : Gl X "zip" := by rfl) (hs : starEach [a, b] X.env = (false, eval a X.env) :: starEach [b] X.env := by rfl) (hs2 : starEach [b] X.env = [(false, eval b X.env)] := by rfl) (hpl : (backTo pos (starEach [b] X.env)).any (·.1) = false := by rfl) :
    PI X (.Tuple elts kk tpos) (.Call (.Name "zip" p) [a, b] [] pos) (evI c (iZ f g)) :=
  (pi_zip hg hm (ra_cons ha (ra_cons hb ra_nil hs2) hs) hs hpl).imp fun σ H R ⟨W, sl, zs, cs', hH, w, s, hf, k⟩ => by
    obtain ⟨a1, cs1, h1, hf⟩ := bind_ok hf
    obtain ⟨b1, cs2, h2, hf⟩ := bind_ok hf
    obtain ⟨xs, cs3, h3, hf⟩ := bind_ok hf
    obtain ⟨ys, cs4, h4, h5⟩ := bind_ok hf
    cases h5
    refine ⟨W, sl, [a1, b1], cs2, hH, w, s, ?_, fun vs W1 w1 x1 e1 r1 => ?_⟩
    · show (f sl W.cs).bind _ = _
      rw [h1]
      show ((g sl cs1).bind _).bind _ = _
      rw [h2]
      rfl
    · obtain ⟨v, u, rfl, r, r'⟩ := reps2 r1
      rw [← e1] at h3
      obtain ⟨q, vs, W2, rfl, g1, g2, w2, x2, rs, hst⟩ := walkL_ok w1 r h3
      rw [← g2] at h4
      obtain ⟨q', us, W3, rfl, g3, g4, w3, x3, rs', hst'⟩ := walkL_ok w2 (r'.mono w1 x2) h4
      rw [← g1, ← g3]
      exact ⟨q, q', vs, us, rfl, SqL.of (hst W3 x3.h), SqL.of (hst' W3 (Ext.refl W3).h), k _ W3 w3 (x1.trans (x2.trans x3)) g4 (yields_zip w3 (rs.mono w2 x3) rs' (fun W4 x4 => SqL.of (hst W4 (x3.h.trans x4))) fun W4 x4 => SqL.of (hst' W4 x4))⟩
end
end U
end
noncomputable section
namespace U
open PySem PySem.Spec
open PyProof.Rows L2

section
variable {c : Ct} {X : Cx} {e a b : Expr} {pos p : Pos} {f g : Ex}
/-! ## for, while -/
def for1 (t : Tg) (body : Stm) (a : AV) (ih : Sl → CS → Ro) (sl : Sl) (cs : CS) : Ro := match t a sl with
    | none => .err
    | some sl1 => match body sl1 cs with
      | .nx sl2 cs2 => ih sl2 cs2
      | .ct sl2 cs2 => ih sl2 cs2
      | .bk sl2 cs2 => .nx sl2 cs2
      | .rt a cs2 => .rt a cs2
      | .err => .err
def forL (t : Tg) (body : Stm) (l : List AV) : Sl → CS → Ro := List.rec (motive := fun _ => Sl → CS → Ro) (fun sl cs => .nx sl cs) (fun a _ ih => for1 t body a ih) l
theorem forL_cons (t : Tg) (body : Stm) (a : AV) (r : List AV) (sl : Sl) (cs : CS) : forL t body (a :: r) sl cs = for1 t body a (forL t body r) sl cs := rfl
def sFor (it : Its) (t : Tg) (body : Stm) : Stm := fun sl cs => match it sl cs with
  | .ok xs cs1 => forL t body xs sl cs1
  | .err => .err
theorem s_for {tg iter : Expr} {body : List Stmt} {it : Its} {vars : List Nat} {t : Tg} {fb : Stm} (hi : PI X tg iter (evI c it)) (hg : PG X tg (evG c vars t)) (hb : PSs X body (evS c fb)) (hp : PassesOwn (model X.prog X.w) X.A X.env X.xe := by exact PassesOwn.never) (hc : X.calm = true := by rfl) (hs : ∀ x, foldedSetIterable iter X.env x = pure x := by intro _; rfl) :
    PS X (.For tg iter body [] pos) (evS c (sFor it t fb)) := (ps_for hp hc hi hg hb hs).imp fun D σ H ⟨W, sl, hH, w, s, q⟩ => by
  unfold sFor at q
  cases e : it sl W.cs with
  | err =>
    rw [e] at q
    exact q.elim
  | ok xs cs1 =>
    simp only [e] at q
    refine ⟨W, sl, xs, cs1, hH, w, s, e, fun J W0 w0 x0 e0 hy => ?_⟩
    refine ⟨fun i m σ H => m = xs.length - i ∧ ∃ W1 sl1, W1.H = H ∧ WOk c W1 ∧ Ext W0 W1 ∧ SlOk c W1 sl1 σ ∧ Post c W1 (forL t fb (xs.drop i) sl1 W1.cs) D, ⟨_, rfl, W0, sl, rfl, w0, Ext.refl W0, s.mono w x0, by rw [List.drop_zero, e0]; exact q.later x0⟩, ?_⟩
    rintro i m σ1 H1 ⟨rfl, W1, sl1, rfl, w1, x1, s1, q1⟩
    obtain ⟨y1, y2⟩ := hy i W1 w1 x1.h
    cases ha : xs[i]? with
    | none =>
      refine .inl ⟨y2 ha, ?_⟩
      have hl : xs.length ≤ i := List.getElem?_eq_none_iff.mp ha
      rw [List.drop_of_length_le hl] at q1
      exact q1 σ1 W1 w1 (Ext.refl W1) rfl s1
    | some y =>
      obtain ⟨hl, hy0⟩ := List.getElem?_eq_some_iff.mp ha
      have hd : xs.drop i = y :: xs.drop (i + 1) := by
        rw [← hy0]
        exact List.drop_eq_getElem_cons hl
      rw [hd] at q1
      rw [forL_cons] at q1
      unfold for1 at q1
      obtain ⟨g1, g2⟩ := y1 y ha
      cases et : t y sl1 with
      | none =>
        simp only [et] at q1
        exact q1.elim
      | some sl2 =>
        simp only [et] at q1
        refine .inr ⟨g1, fun σ' H' => ∃ W3 sl3, W3.H = H' ∧ WOk c W3 ∧ Ext W0 W3 ∧ SlOk c W3 sl3 σ' ∧ Post c W3 (forL t fb (xs.drop (i + 1)) sl3 W3.cs) D, fun σ' H' q' => ⟨xs.length - (i + 1), by omega, rfl, q'⟩, fun z H' hz => ?_⟩
        obtain ⟨W2, h1, h2, w2, x2, r2⟩ := g2 z H' hz
        refine ⟨W2, sl1, y, sl2, h1, w2, s1.mono w1 x2, r2, et, fun σ' s' _ => ⟨W2, sl2, rfl, w2, s', ?_⟩⟩
        rw [h2]
        cases eb : fb sl2 W1.cs with
        | err =>
          rw [eb] at q1
          exact q1.elim
        | nx sl3 cs3 =>
          simp only [eb] at q1
          exact fun σ3 W3 w3 x3 e3 s3 => ⟨W3, sl3, rfl, w3, x1.trans (x2.trans x3), s3, by rw [e3]; exact q1.later (x2.trans x3)⟩
        | ct sl3 cs3 =>
          simp only [eb] at q1
          exact fun σ3 W3 w3 x3 e3 s3 => ⟨W3, sl3, rfl, w3, x1.trans (x2.trans x3), s3, by rw [e3]; exact q1.later (x2.trans x3)⟩
        | bk sl3 cs3 =>
          simp only [eb] at q1
          exact fun σ3 W3 w3 x3 e3 s3 => q1 σ3 W3 w3 (x2.trans x3) e3 s3
        | rt r cs3 =>
          simp only [eb] at q1
          exact Fin.later q1 x2
def wh1 (t : Tst) (body : Stm) (ih : Sl → CS → Ro) (sl : Sl) (cs : CS) : Ro := match t sl cs with
    | .err => .err
    | .ok b cs1 => match b with
      | false => .nx sl cs1
      | true => match body sl cs1 with
        | .nx sl2 cs2 => ih sl2 cs2
        | .ct sl2 cs2 => ih sl2 cs2
        | .bk sl2 cs2 => .nx sl2 cs2
        | .rt a cs2 => .rt a cs2
        | .err => .err
def whF (t : Tst) (body : Stm) (n : Nat) : Sl → CS → Ro := Nat.rec (motive := fun _ => Sl → CS → Ro) (fun _ _ => .err) (fun _ ih => wh1 t body ih) n
theorem whF_succ (t : Tst) (body : Stm) (n : Nat) (sl : Sl) (cs : CS) : whF t body (n + 1) sl cs = wh1 t body (whF t body n) sl cs := rfl
def sWhile (n : Nat) (t : Tst) (body : Stm) : Stm := fun sl cs => whF t body n sl cs
theorem s_while (n : Nat) {body : List Stmt} {t : Tst} {fb : Stm} (ht : PT X e (evT c t)) (hb : PSs X body (evS c fb)) (hp : PassesOwn (model X.prog X.w) X.A X.env X.xe := by exact PassesOwn.never) : PS X (.While e body [] pos) (evS c (sWhile n t fb)) := (ps_while hp ht hb).imp fun D σ H ⟨W, sl, hH, w, s, q⟩ => by
  refine ⟨fun m σ H => ∃ W1 sl1, W1.H = H ∧ WOk c W1 ∧ Ext W W1 ∧ SlOk c W1 sl1 σ ∧ Post c W1 (whF t fb m sl1 W1.cs) D, ⟨n, W, sl, hH, w, Ext.refl W, s, q⟩, ?_⟩
  rintro m σ1 H1 ⟨W1, sl1, rfl, w1, x1, s1, q1⟩
  cases m with
  | zero => exact q1.elim
  | succ m =>
    rw [whF_succ] at q1
    unfold wh1 at q1
    cases et : t sl1 W1.cs with
    | err =>
      rw [et] at q1
      exact q1.elim
    | ok b cs1 =>
      simp only [et] at q1
      refine ⟨W1, sl1, b, cs1, rfl, w1, s1, et, fun W2 w2 x2 e2 => ?_⟩
      cases b with
      | false => exact iteF (q1 σ1 W2 w2 x2 e2 (s1.mono w1 x2))
      | true =>
        refine iteT ⟨fun σ' H' => ∃ W3 sl3, W3.H = H' ∧ WOk c W3 ∧ Ext W W3 ∧ SlOk c W3 sl3 σ' ∧ Post c W3 (whF t fb m sl3 W3.cs) D, fun σ' H' q' => ⟨m, Nat.lt_succ_self m, q'⟩, W2, sl1, rfl, w2, s1.mono w1 x2, ?_⟩
        rw [e2]
        cases eb : fb sl1 cs1 with
        | err =>
          simp only [eb] at q1
          exact q1.elim
        | nx sl3 cs3 =>
          simp only [eb] at q1
          exact fun σ3 W3 w3 x3 e3 s3 => ⟨W3, sl3, rfl, w3, x1.trans (x2.trans x3), s3, by rw [e3]; exact q1.later (x2.trans x3)⟩
        | ct sl3 cs3 =>
          simp only [eb] at q1
          exact fun σ3 W3 w3 x3 e3 s3 => ⟨W3, sl3, rfl, w3, x1.trans (x2.trans x3), s3, by rw [e3]; exact q1.later (x2.trans x3)⟩
        | bk sl3 cs3 =>
          simp only [eb] at q1
          exact fun σ3 W3 w3 x3 e3 s3 => q1 σ3 W3 w3 (x2.trans x3) e3 s3
        | rt r cs3 =>
          simp only [eb] at q1
          exact Fin.later q1 x2

/-! ## list comprehensions -/
def wipeS (sl : Sl) (l : List Nat) : Sl := List.rec (motive := fun _ => Sl) sl (fun v _ ih => setS ih v .und) l
theorem SlOk.und {W : Wd} {sl : Sl} {σ : L2.St} {i : Nat} (s : SlOk c W sl σ) : SlOk c W (setS sl i .und) (σ.set i none) := by
  rw [setS_eq]
  refine ⟨by rw [List.length_set, List.length_set]; exact s.len, fun j b h => ?_⟩
  by_cases hj : i = j
  · subst hj
    by_cases hi : i < sl.length
    · rw [List.getElem?_set_self hi] at h
      cases h
      exact .inl rfl
    · rw [List.getElem?_eq_none (by rw [List.length_set]; omega)] at h
      cases h
  · rw [List.getElem?_set_ne hj] at h
    rw [List.getElem?_set_ne hj]
    exact s.at_ j b h
theorem SlOk.wipe {W : Wd} {sl : Sl} {σ : L2.St} (s : SlOk c W sl σ) : ∀ vs : List Nat, SlOk c W (wipeS sl vs) (wipe σ vs)
  | [] => s
  | v :: vs => (SlOk.wipe s vs).und
theorem wipe_at (σ : L2.St) : ∀ (vs : List Nat) (j : Nat), (wipe σ vs)[j]? = if j ∈ vs then (σ[j]?).map fun _ => none else σ[j]?
  | [], j => by simp [wipe]
  | v :: vs, j => by
    unfold wipe
    by_cases hj : v = j
    · subst hj
      rw [if_pos List.mem_cons_self]
      by_cases hl : v < σ.length
      · rw [List.getElem?_set_self (by rw [wipe_length]; exact hl), List.getElem?_eq_getElem hl]
        rfl
      · rw [List.getElem?_eq_none (by rw [List.length_set, wipe_length]; omega), List.getElem?_eq_none (by omega)]
        rfl
    · rw [List.getElem?_set_ne hj, wipe_at σ vs j]
      have e : (j ∈ v :: vs) = (j ∈ vs) := by
        simp only [List.mem_cons, eq_iff_iff]
        exact ⟨fun h => h.elim (fun z => absurd z.symm hj) id, .inr⟩
      simp only [e]
theorem wipe_same {σ σ' : L2.St} {vs vars : List Nat} (h : SameOut vars (wipe σ vs) σ') (hs : ∀ j ∈ vars, j ∈ vs) : wipe σ' vs = wipe σ vs := by
  apply List.ext_getElem?
  intro j
  rw [wipe_at, wipe_at]
  by_cases hj : j ∈ vs
  · rw [if_pos hj, if_pos hj]
    have hl : σ'.length = σ.length := h.1.trans (wipe_length σ vs)
    by_cases hi : j < σ.length
    · rw [List.getElem?_eq_getElem hi, List.getElem?_eq_getElem (by omega)]
      rfl
    · rw [List.getElem?_eq_none (by omega), List.getElem?_eq_none (by omega)]
  · rw [if_neg hj, if_neg hj, h.2 j fun z => hj (hs j z), wipe_at, if_neg hj]
/-- a list in the making stands at D, hidden -/
def Wd.hide (W : Wd) (D : Addr) (vs : List V) : Wd := ⟨W.γ, upd W.H D (.lst vs), W.cs, fun b => W.hid b ∨ b = D⟩
theorem WOk.hide {W : Wd} (w : WOk c W) {D : Addr} (h : W.H D = none) (vs : List V) : WOk c (W.hide D vs) ∧ Ext W (W.hide D vs) := by
  have nc : ∀ i, i < W.cs.n → W.γ i ≠ D := fun i hi z => w.in_ne h (.inl ⟨i, hi, z⟩)
  have x : Ext W (W.hide D vs) := by
    refine ⟨Nat.le_refl _, fun _ _ => rfl, fun b o e n => ?_, fun i xs hi e => ⟨e, upd_ne (nc i hi)⟩, fun b hb => .inl hb, fun b hb => upd_ne (w.hne h hb)⟩
    have hb : b ≠ D := ne_of_none e h
    refine ⟨(upd_ne hb).trans e, fun z => ?_⟩
    rcases z with z | z | z
    · exact n (.inl z)
    · exact n (.inr z)
    · exact hb z
  refine ⟨⟨w.inj, fun i hi => ?_, fun i co e => ?_, fun b hb => ?_⟩, x⟩
  · obtain ⟨o, h1, h2⟩ := w.kind i hi
    exact ⟨o, (upd_ne (nc i hi)).trans h1, h2⟩
  · obtain ⟨hi, k⟩ := w.ok i co e
    exact ⟨hi, k.mono w x (upd_ne (nc i hi))⟩
  · rcases hb with hb | rfl
    · obtain ⟨⟨o, h1, h2⟩, h3⟩ := w.hd b hb
      exact ⟨⟨o, (upd_ne (w.hne h hb)).trans h1, h2⟩, h3⟩
    · exact ⟨⟨_, upd_same, rfl⟩, nc⟩
/-- the list at D grows -/
def Wd.grow (W : Wd) (D : Addr) (vs : List V) : Wd := ⟨W.γ, upd W.H D (.lst vs), W.cs, W.hid⟩
theorem WOk.grow {W0 W : Wd} (w0 : WOk c W0) (w : WOk c W) (x : Ext W0 W) {D : Addr} (h : W0.H D = none) (hD : W.hid D) (vs : List V) : WOk c (W.grow D vs) ∧ Ext W0 (W.grow D vs) ∧ Sees W (W.grow D vs) := by
  have inD : W.In D := .inr hD
  obtain ⟨⟨oD, hoD, hkD⟩, ncD⟩ := w.hd D hD
  have keep : ∀ b o, W.H b = some o → ¬ W.In b → (W.grow D vs).H b = some o := fun b o e n => (upd_ne fun z => n (by rw [z]; exact inD)).trans e
  have se : Sees W (W.grow D vs) := ⟨fun a xs q => keep _ _ q (w.notTup q), fun a xs q n => ⟨keep _ _ q n, n⟩, fun i h => ⟨h, rfl⟩⟩
  refine ⟨⟨w.inj, fun i hi => ?_, fun i co e => ?_, fun b hb => ?_⟩, ⟨x.le, x.γ, fun b o e n => ?_, fun i ys hi e => ?_, x.hid, fun b hb => ?_⟩, se⟩
  · obtain ⟨o, h1, h2⟩ := w.kind i hi
    exact ⟨o, (upd_ne (ncD i hi)).trans h1, h2⟩
  · obtain ⟨hi, k⟩ := w.ok i co e
    exact ⟨hi, k.map se (upd_ne (ncD i hi))⟩
  · obtain ⟨⟨o, h1, h2⟩, h3⟩ := w.hd b hb
    refine ⟨?_, h3⟩
    by_cases hb2 : b = D
    · subst hb2
      exact ⟨_, upd_same, rfl⟩
    · exact ⟨o, (upd_ne hb2).trans h1, h2⟩
  · obtain ⟨h1, h2⟩ := x.keep b o e n
    exact ⟨(upd_ne (ne_of_none e h)).trans h1, h2⟩
  · obtain ⟨h1, h2⟩ := x.fz i ys hi e
    have hi' := Nat.lt_of_lt_of_le hi x.le
    refine ⟨h1, (upd_ne ?_).trans h2⟩
    rw [← x.γ i hi]
    exact ncD i hi'
  · exact (upd_ne (w0.hne h hb)).trans (x.hk b hb)
/-- .. and is done: no more hidden -/
def Wd.show_ (W W0 : Wd) : Wd := ⟨W.γ, W.H, W.cs, W0.hid⟩
theorem WOk.show_ {W0 W : Wd} (w0 : WOk c W0) (w : WOk c W) (x : Ext W0 W) {D : Addr} (h : W0.H D = none) (hD : W.hid D) : WOk c (W.show_ W0) ∧ Ext W0 (W.show_ W0) ∧ Sees W (W.show_ W0) ∧ ¬ (W.show_ W0).In D := by
  have le : ∀ b, (W.show_ W0).In b → W.In b := fun b q => q.imp id (x.hid b)
  refine ⟨⟨w.inj, w.kind, fun i co e => ?_, fun b hb => w.hd b (x.hid b hb)⟩, ⟨x.le, x.γ, fun b o e n => ⟨(x.keep b o e n).1, fun q => (x.keep b o e n).2 (le b q)⟩, x.fz, fun _ h => h, x.hk⟩, ⟨fun _ _ h => h, fun a xs h n => ⟨h, fun q => n (le a q)⟩, fun i h => ⟨h, rfl⟩⟩, fun q => ?_⟩
  · obtain ⟨h1, h2⟩ := w.ok i co e
    exact ⟨h1, h2.map (W := W) (W' := W.show_ W0) ⟨fun _ _ h => h, fun a xs h n => ⟨h, fun q => n (le a q)⟩, fun i h => ⟨h, rfl⟩⟩ rfl⟩
  · rcases q with ⟨i, hi, z⟩ | q
    · exact (w.hd D hD).2 i hi z
    · exact w0.hne h q rfl
/-- the object at D becomes a cell -/
def Wd.adopt (W W0 : Wd) (D : Addr) (co : CO) : Wd := ⟨fun i => if i = W.cs.n then D else W.γ i, W.H, W.cs.new co, W0.hid⟩
theorem WOk.adopt {W0 W : Wd} (w0 : WOk c W0) (w : WOk c W) (x : Ext W0 W) {D : Addr} (h : W0.H D = none) (hD : W.hid D) {as : List AV} {vs : List V} (hv : W.H D = some (.lst vs)) (rs : Reps c W as vs) :
    WOk c (W.adopt W0 D (.lst false as)) ∧ Ext W0 (W.adopt W0 D (.lst false as)) := by
  have ncD := (w.hd D hD).2
  have g : ∀ i, i < W.cs.n → (W.adopt W0 D (.lst false as)).γ i = W.γ i := fun i hi => if_neg (by omega)
  have gn : (W.adopt W0 D (.lst false as)).γ W.cs.n = D := if_pos rfl
  have le : ∀ b, (W.adopt W0 D (.lst false as)).In b → W.In b := fun b q => by
    rcases q with ⟨i, hi, z⟩ | q
    · have hi' : i < W.cs.n + 1 := hi
      by_cases q : i = W.cs.n
      · subst q
        rw [gn] at z
        subst z
        exact .inr hD
      · rw [g i (by omega)] at z
        exact .inl ⟨i, by omega, z⟩
    · exact .inr (x.hid b q)
  have fn : ∀ i, i < W.cs.n → (W.adopt W0 D (.lst false as)).cs.get i = W.cs.get i := fun i hi => find_new (W := W) (p := D) (o := .lst vs) (co := .lst false as) hi
  have se : Sees W (W.adopt W0 D (.lst false as)) := ⟨fun _ _ h => h, fun a xs h n => ⟨h, fun q => n (le a q)⟩, fun i h => ⟨Nat.lt_succ_of_lt h, g i h⟩⟩
  refine ⟨⟨fun i j hi hj e => ?_, fun i hi => ?_, fun i k e => ?_, fun b hb => ?_⟩, ⟨Nat.le_succ_of_le x.le, fun i hi => (g i (Nat.lt_of_lt_of_le hi x.le)).trans (x.γ i hi), fun b o e n => ⟨(x.keep b o e n).1, fun q => (x.keep b o e n).2 (le b q)⟩, fun i xs hi e => ?_, fun _ h => h, x.hk⟩⟩
  · have hi' : i < W.cs.n + 1 := hi
    have hj' : j < W.cs.n + 1 := hj
    by_cases qi : i = W.cs.n
    · by_cases qj : j = W.cs.n
      · omega
      · subst qi
        rw [gn, g j (by omega)] at e
        exact absurd e.symm (ncD j (by omega))
    · by_cases qj : j = W.cs.n
      · subst qj
        rw [gn, g i (by omega)] at e
        exact absurd e (ncD i (by omega))
      · rw [g i (by omega), g j (by omega)] at e
        exact w.inj i j (by omega) (by omega) e
  · have hi' : i < W.cs.n + 1 := hi
    by_cases qi : i = W.cs.n
    · subst qi
      rw [gn]
      exact ⟨_, hv, rfl⟩
    · rw [g i (by omega)]
      exact w.kind i (by omega)
  · by_cases qi : i = W.cs.n
    · subst qi
      cases find_new3 (l := W.cs.l) e
      rw [gn]
      exact ⟨Nat.lt_succ_self _, vs, hv, rs.map se⟩
    · have e := find_new2 (l := W.cs.l) qi e
      obtain ⟨h1, h2⟩ := w.ok i k e
      exact ⟨Nat.lt_succ_of_lt h1, h2.map se (by rw [g i h1]; rfl)⟩
  · obtain ⟨h1, h2⟩ := w.hd b (x.hid b hb)
    refine ⟨h1, fun i hi => ?_⟩
    have hi' : i < W.cs.n + 1 := hi
    by_cases qi : i = W.cs.n
    · subst qi
      rw [gn]
      exact (w0.hne h hb).symm
    · rw [g i (by omega)]
      exact h2 i (by omega)
  · obtain ⟨h1, h2⟩ := x.fz i xs hi e
    exact ⟨(fn i (by have := x.le; omega)).trans h1, h2⟩

def lc1 (t : Tg) (tst : Tst) (elt : Ex) (slw : Sl) (a : AV) (ih : CS → Rs (List AV)) (cs : CS) : Rs (List AV) := match t a slw with
    | none => .err
    | some sl1 => match tst sl1 cs with
      | .err => .err
      | .ok b cs1 => match b with
        | true => (elt sl1 cs1).bind fun y cs2 => (ih cs2).bind fun ys cs3 => .ok (y :: ys) cs3
        | false => ih cs1
def lcL (t : Tg) (tst : Tst) (elt : Ex) (slw : Sl) (l : List AV) : CS → Rs (List AV) := List.rec (motive := fun _ => CS → Rs (List AV)) (fun cs => .ok [] cs) (fun a _ ih => lc1 t tst elt slw a ih) l
theorem lcL_nil (t : Tg) (tst : Tst) (elt : Ex) (slw : Sl) (cs : CS) : lcL t tst elt slw [] cs = .ok [] cs := rfl
theorem lcL_cons (t : Tg) (tst : Tst) (elt : Ex) (slw : Sl) (a : AV) (r : List AV) (cs : CS) : lcL t tst elt slw (a :: r) cs = lc1 t tst elt slw a (lcL t tst elt slw r) cs := rfl
theorem growH {Wr W : Wd} (w : WOk c W) (x : ExtH Wr W) {D : Addr} (hD : W.hid D) (vs : List V) : ExtH Wr (W.grow D vs) := by
  have inD : W.In D := .inr hD
  refine ⟨x.le, x.γ, fun b o e n => ?_, fun i ys hi e => ?_⟩
  · obtain ⟨h1, h2⟩ := x.keep b o e n
    exact ⟨(upd_ne fun z => h2 (by rw [z]; exact inD)).trans h1, h2⟩
  · obtain ⟨h1, h2⟩ := x.fz i ys hi e
    refine ⟨h1, (upd_ne ?_).trans h2⟩
    rw [← x.γ i hi]
    exact (w.hd D hD).2 i (Nat.lt_of_lt_of_le hi x.le)
theorem SlOk.map {W W' : Wd} {sl : Sl} {σ : L2.St} (s : SlOk c W sl σ) (x : Sees W W') : SlOk c W' sl σ := ⟨s.len, fun i a h => (s.at_ i a h).imp id fun ⟨v, h1, h2⟩ => ⟨v, h1, h2.map x⟩⟩
/-- a loop that fills the list at D by a comprehension's clause: from as to as ++ ys -/
theorem lc_loop {vars vs : List Nat} {t : Tg} {tst : Tst} {elt : Ex} {sl : Sl} {σ : L2.St} {W0 Wr : Wd} {D : Addr} {J : It} {xs as ys : List AV} {cs' : CS} {H : Hp} {acc : List V} {Q : Hp → Prop} (w0 : WOk c W0) (h0 : W0.H D = none)
    (hv : ∀ j ∈ vars, j ∈ vs) (wr : WOk c Wr) (s : SlOk c Wr sl (wipe σ vs)) (yy : Yields c J Wr xs) {W1 : Wd} (hH : W1.H = H) (w1 : WOk c W1) (x1 : Ext W0 W1) (xr : ExtH Wr W1) (hD : W1.hid D) (ha : W1.H D = some (.lst acc)) (rs : Reps c W1 as acc)
    (hl : lcL t tst elt sl xs W1.cs = .ok ys cs') (sz : (as ++ ys).length ≤ lim)
    (k : ∀ W2 acc2, WOk c W2 → Ext W0 W2 → W2.hid D → W2.cs = cs' → W2.H D = some (.lst acc2) → Reps c W2 (as ++ ys) acc2 → Q W2.H) :
    ∃ Wn : Nat → Nat → Hp → Prop, (∃ m, Wn 0 m H) ∧ ∀ i m H, Wn i m H →
      (J.stop i H ∧ Q H) ∨ (J.go i H ∧ ∃ Nx : Hp → Prop, (∀ H', Nx H' → ∃ m', m' < m ∧ Wn (i + 1) m' H') ∧ ∀ x H', J.yld i H x H' → evG c vars t x (wipe σ vs) H' fun σ2 H2 => wipe σ2 vs = wipe σ vs ∧ evT c tst σ2 H2 fun b H3 =>
        if b = true then evE c elt σ2 H3 fun y H4 => ∃ acc, H4 D = some (.lst acc) ∧ acc.length < sizeLine ∧ Nx (upd H4 D (.lst (acc ++ [y]))) else Nx H3) := by
  let St := fun (r : List AV) (H : Hp) => ∃ W1 as1 acc1 ys1, W1.H = H ∧ WOk c W1 ∧ Ext W0 W1 ∧ ExtH Wr W1 ∧ W1.hid D ∧ W1.H D = some (.lst acc1) ∧ Reps c W1 as1 acc1 ∧ lcL t tst elt sl r W1.cs = .ok ys1 cs' ∧ as1 ++ ys1 = as ++ ys
  refine ⟨fun i m H => m = xs.length - i ∧ St (xs.drop i) H, ⟨_, rfl, W1, as, acc, ys, hH, w1, x1, xr, hD, ha, rs, hl, rfl⟩, ?_⟩
  rintro i m H1 ⟨rfl, W2, as2, acc2, ys2, rfl, w2, x2, xr2, hD2, ha2, rs2, hl2, e2⟩
  obtain ⟨y1, y2⟩ := yy i W2 w2 xr2
  cases hx : xs[i]? with
  | none =>
    have hlen : xs.length ≤ i := List.getElem?_eq_none_iff.mp hx
    rw [List.drop_of_length_le hlen] at hl2
    rw [lcL_nil] at hl2
    injection hl2 with h3 h4
    subst h3
    rw [List.append_nil] at e2
    rw [e2] at rs2
    exact .inl ⟨y2 hx, k W2 acc2 w2 x2 hD2 h4 ha2 rs2⟩
  | some y =>
    obtain ⟨hli, hy0⟩ := List.getElem?_eq_some_iff.mp hx
    have hd : xs.drop i = y :: xs.drop (i + 1) := by
      rw [← hy0]
      exact List.drop_eq_getElem_cons hli
    rw [hd] at hl2
    rw [lcL_cons] at hl2
    unfold lc1 at hl2
    obtain ⟨g1, g2⟩ := y1 y hx
    cases et : t y sl with
    | none =>
      simp only [et] at hl2
      cases hl2
    | some sl1 =>
      simp only [et] at hl2
      cases eb : tst sl1 W2.cs with
      | err =>
        rw [eb] at hl2
        cases hl2
      | ok b cs1 =>
        simp only [eb] at hl2
        refine .inr ⟨g1, St (xs.drop (i + 1)), fun H' q => ⟨xs.length - (i + 1), by omega, rfl, q⟩, fun z H' hz => ?_⟩
        obtain ⟨W3, h1, h2, w3, x3, r3⟩ := g2 z H' hz
        refine ⟨W3, sl, y, sl1, h1, w3, s.map ((xr2.trans x3.h).sees wr), r3, et, fun σ' s' so => ⟨wipe_same so hv, W3, sl1, b, cs1, rfl, w3, s', by rw [h2]; exact eb, fun W4 w4 x4 e4 => ?_⟩⟩
        have hD4 : W4.hid D := x4.hid D (x3.hid D hD2)
        have ha4 : W4.H D = some (.lst acc2) := by rw [x4.hk D (x3.hid D hD2), x3.hk D hD2]; exact ha2
        have rs4 : Reps c W4 as2 acc2 := (rs2.mono w2 x3).mono w3 x4
        cases b with
        | false => exact iteF ⟨W4, as2, acc2, ys2, rfl, w4, x2.trans (x3.trans x4), xr2.trans (x3.trans x4).h, hD4, ha4, rs4, by rw [e4]; exact hl2, e2⟩
        | true =>
          obtain ⟨u, cs2, h5, hl3⟩ := bind_ok hl2
          obtain ⟨us, cs3, h6, h7⟩ := bind_ok hl3
          injection h7 with h8 h9
          subst h8 h9
          refine iteT ⟨W4, sl1, u, cs2, rfl, w4, s'.mono w3 x4, by rw [e4]; exact h5, fun v W5 w5 x5 e5 r5 => ?_⟩
          have hD5 : W5.hid D := x5.hid D hD4
          have ha5 : W5.H D = some (.lst acc2) := by rw [x5.hk D hD4]; exact ha4
          have rs5 : Reps c W5 as2 acc2 := rs4.mono w4 x5
          have x05 : Ext W0 W5 := x2.trans (x3.trans (x4.trans x5))
          obtain ⟨w6, x6, se⟩ := w0.grow w5 x05 h0 hD5 (acc2 ++ [v])
          have xr6 : ExtH Wr (W5.grow D (acc2 ++ [v])) := growH w5 (xr2.trans (x3.trans (x4.trans x5)).h) hD5 _
          refine ⟨acc2, ha5, ?_, W5.grow D (acc2 ++ [v]), as2 ++ [u], acc2 ++ [v], us, rfl, w6, x6, xr6, hD5, upd_same, (rs5.append (.cons r5 .nil)).map se, by show lcL t tst elt sl _ W5.cs = _; rw [e5]; exact h6, by rw [List.append_assoc]; exact e2⟩
          rw [← rs2.length]
          have q := congrArg List.length e2
          rw [List.length_append, List.length_cons] at q
          refine lim_lt ?_
          omega
def cLcW (it : Its) (t : Tg) (vs : List Nat) (tst : Tst) (elt : Ex) (fin : Fn) : Ex := fun sl cs => (it sl cs).bind fun xs cs1 => (lcL t tst elt (wipeS sl vs) xs cs1).bind fin
/-- as a value; to be changed -/
abbrev cLc (it : Its) (t : Tg) (vs : List Nat) (tst : Tst) (elt : Ex) : Ex := cLcW it t vs tst elt okLst
abbrev cLcC (it : Its) (t : Tg) (vs : List Nat) (tst : Tst) (elt : Ex) : Ex := cLcW it t vs tst elt okCell
theorem ev_lc {it : Its} {vars vs : List Nat} {t : Tg} {tst : Tst} {elt : Ex} (hv : ∀ j ∈ vars, j ∈ vs) (σ : L2.St) (H : Hp) (Q : VK) (q : evE c (cLc it t vs tst elt) σ H Q) : tLc (evI c it) (evG c vars t) (evT c tst) (evE c elt) vs σ H Q := by
  obtain ⟨W, sl, r, cs', hH, w, s, hf, fin⟩ := q
  obtain ⟨xs, cs1, h1, hf⟩ := bind_ok hf
  obtain ⟨ys, cs2, h2, h3⟩ := bind_ok hf
  obtain ⟨sz, rfl, rfl⟩ := okLst_ok h3
  refine ⟨W, sl, xs, cs1, hH, w, s, h1, fun J W0 w0 x0 e0 hy D hD => ?_⟩
  obtain ⟨w1, x1⟩ := w0.hide hD []
  refine lc_loop (as := []) (ys := ys) (acc := []) (W1 := W0.hide D []) w0 hD hv w0 ((s.mono w x0).wipe vs) hy rfl w1 x1 x1.h (.inr rfl) upd_same .nil (by show lcL t tst elt _ _ W0.cs = _; rw [e0]; exact h2) sz fun W2 acc2 w2 x2 hd2 e2 ha2 rs2 => ?_
  obtain ⟨w3, x3, se, nd⟩ := w0.show_ w2 x2 hD hd2
  exact fin _ (W2.show_ W0) w3 (x0.trans x3) e2 (.lst ha2 nd (rs2.map se))
theorem ev_lcC {it : Its} {vars vs : List Nat} {t : Tg} {tst : Tst} {elt : Ex} (hv : ∀ j ∈ vars, j ∈ vs) (σ : L2.St) (H : Hp) (Q : VK) (q : evE c (cLcC it t vs tst elt) σ H Q) : tLc (evI c it) (evG c vars t) (evT c tst) (evE c elt) vs σ H Q := by
  obtain ⟨W, sl, r, cs', hH, w, s, hf, fin⟩ := q
  obtain ⟨xs, cs1, h1, hf⟩ := bind_ok hf
  obtain ⟨ys, cs2, h2, h3⟩ := bind_ok hf
  obtain ⟨sz, rfl, rfl⟩ := okCell_ok h3
  refine ⟨W, sl, xs, cs1, hH, w, s, h1, fun J W0 w0 x0 e0 hy D hD => ?_⟩
  obtain ⟨w1, x1⟩ := w0.hide hD []
  refine lc_loop (as := []) (ys := ys) (acc := []) (W1 := W0.hide D []) w0 hD hv w0 ((s.mono w x0).wipe vs) hy rfl w1 x1 x1.h (.inr rfl) upd_same .nil (by show lcL t tst elt _ _ W0.cs = _; rw [e0]; exact h2) sz fun W2 acc2 w2 x2 hd2 e2 ha2 rs2 => ?_
  obtain ⟨w3, x3⟩ := w0.adopt w2 x2 hD hd2 ha2 rs2
  refine fin _ (W2.adopt W0 D (.lst false ys)) w3 (x0.trans x3) (by show W2.cs.new _ = _; rw [e2]) ?_
  have g : (W2.adopt W0 D (.lst false ys)).γ W2.cs.n = D := if_pos rfl
  have q : Rep c (W2.adopt W0 D (.lst false ys)) (.cell W2.cs.n) (.ref ((W2.adopt W0 D (.lst false ys)).γ W2.cs.n)) := .cell _ (Nat.lt_succ_self _)
  rw [g, e2] at q
  exact q
end
end U
end
noncomputable section
namespace U
open PySem PySem.Spec
open PyProof.Rows L2

section
variable {c : Ct} {X : Cx} {e a b : Expr} {pos p : Pos} {f g : Ex}
/-! ## comprehensions as rules -/
def tYesB : Tst := fun _ cs => .ok true cs
theorem ts_nil : PTs X [] (evT c tYesB) := ⟨fun pins s σ H Q I ⟨W, sl, b, cs', hH, w, ss, hf, k⟩ => pts_nil.run pins s σ H Q I (by
  cases hf
  subst hH
  exact k W w (Ext.refl W) rfl)⟩
theorem ts_one {t : Tst} (h : PT X e (evT c t)) : PTs X [e] (evT c t) := pts_one h
section
variable {elt tg iter : Expr} {ifs : List Expr} {scope : Scope} {own : List (Str × Nat)} {it : Its} {vars : List Nat} {t : Tg} {tst : Tst} {fe : Ex}
theorem r_lc (own : List (Str × Nat)) (hN : X.N.Nodup) (hi : PI X tg iter (evI c it)) (N0 : List Str) (sc0 : Scope) (hN0 : X.N = N0) (hs0 : X.env.scope = sc0) (ok : blkC N0 sc0 scope own = true)
    (hg : ∀ (s : Shared) (H : Hp) (C : Addr) (cl : List (Str × Addr)) (fp : List Addr), PG (X.blk s H scope (compEnvC scope cl C X.env) fp) tg (evG c vars t)) (ht : ∀ (s : Shared) (H : Hp) (C : Addr) (cl : List (Str × Addr)) (fp : List Addr), PTs (X.blk s H scope (compEnvC scope cl C X.env) fp) ifs (evT c tst))
    (he : ∀ (s : Shared) (H : Hp) (C : Addr) (cl : List (Str × Addr)) (fp : List Addr), PE (X.blk s H scope (compEnvC scope cl C X.env) fp) elt (evE c fe)) (hv : ∀ j ∈ vars, j ∈ own.map (·.2) := by decide) (hc : X.calm = true := by rfl) (hs : ∀ x, foldedSetIterable iter X.env x = pure x := by intro _; rfl) :
    PE X (.ListComp elt [⟨tg, iter, ifs, 0⟩] scope pos) (evE c (cLc it t (own.map (·.2)) tst fe)) := (pe_lc hc hN hi (by rw [hN0, hs0]; exact blkOk_by ok) hg ht he hs).imp (ev_lc hv)
theorem r_lcC (own : List (Str × Nat)) (hN : X.N.Nodup) (hi : PI X tg iter (evI c it)) (N0 : List Str) (sc0 : Scope) (hN0 : X.N = N0) (hs0 : X.env.scope = sc0) (ok : blkC N0 sc0 scope own = true)
    (hg : ∀ (s : Shared) (H : Hp) (C : Addr) (cl : List (Str × Addr)) (fp : List Addr), PG (X.blk s H scope (compEnvC scope cl C X.env) fp) tg (evG c vars t)) (ht : ∀ (s : Shared) (H : Hp) (C : Addr) (cl : List (Str × Addr)) (fp : List Addr), PTs (X.blk s H scope (compEnvC scope cl C X.env) fp) ifs (evT c tst))
    (he : ∀ (s : Shared) (H : Hp) (C : Addr) (cl : List (Str × Addr)) (fp : List Addr), PE (X.blk s H scope (compEnvC scope cl C X.env) fp) elt (evE c fe)) (hv : ∀ j ∈ vars, j ∈ own.map (·.2) := by decide) (hc : X.calm = true := by rfl) (hs : ∀ x, foldedSetIterable iter X.env x = pure x := by intro _; rfl) :
    PE X (.ListComp elt [⟨tg, iter, ifs, 0⟩] scope pos) (evE c (cLcC it t (own.map (·.2)) tst fe)) := (pe_lc hc hN hi (by rw [hN0, hs0]; exact blkOk_by ok) hg ht he hs).imp (ev_lcC hv)
/-- name = [..] on one line -/
theorem s_setLc (own : List (Str × Nat)) {i : Nat} {y : Str} {py spos : Pos} (hN : X.N.Nodup) (hy : X.N[i]? = some y) (hyl : X.env.scope.names.lookup y = some .local) (hsw : swapsWith (.ListComp elt [⟨tg, iter, ifs, 0⟩] scope pos) (some (.Name y py)) spos.line X.env = pure true) (hi : PI X tg iter (evI c it)) (N0 : List Str) (sc0 : Scope) (hN0 : X.N = N0) (hs0 : X.env.scope = sc0) (ok : blkC N0 sc0 scope own = true)
    (hg : ∀ (s : Shared) (H : Hp) (C : Addr) (cl : List (Str × Addr)) (fp : List Addr), PG (X.blk s H scope (compEnvC scope cl C X.env) fp) tg (evG c vars t)) (ht : ∀ (s : Shared) (H : Hp) (C : Addr) (cl : List (Str × Addr)) (fp : List Addr), PTs (X.blk s H scope (compEnvC scope cl C X.env) fp) ifs (evT c tst))
    (he : ∀ (s : Shared) (H : Hp) (C : Addr) (cl : List (Str × Addr)) (fp : List Addr), PE (X.blk s H scope (compEnvC scope cl C X.env) fp) elt (evE c fe)) (hv : ∀ j ∈ vars, j ∈ own.map (·.2) := by decide) (hc : X.calm = true := by rfl) (hs : ∀ x, foldedSetIterable iter X.env x = pure x := by intro _; rfl) :
    PS X (.Assign [.Name y py] (.ListComp elt [⟨tg, iter, ifs, 0⟩] scope pos) spos) (evS c (sSet i (cLc it t (own.map (·.2)) tst fe))) := (ps_setLc hc hN hy hyl hsw hi (by rw [hN0, hs0]; exact blkOk_by ok) hg ht he hs).imp fun D σ H q => ev_lc hv σ H _ (ev_set D σ H q)
theorem s_setLcC (own : List (Str × Nat)) {i : Nat} {y : Str} {py spos : Pos} (hN : X.N.Nodup) (hy : X.N[i]? = some y) (hyl : X.env.scope.names.lookup y = some .local) (hsw : swapsWith (.ListComp elt [⟨tg, iter, ifs, 0⟩] scope pos) (some (.Name y py)) spos.line X.env = pure true) (hi : PI X tg iter (evI c it)) (N0 : List Str) (sc0 : Scope) (hN0 : X.N = N0) (hs0 : X.env.scope = sc0) (ok : blkC N0 sc0 scope own = true)
    (hg : ∀ (s : Shared) (H : Hp) (C : Addr) (cl : List (Str × Addr)) (fp : List Addr), PG (X.blk s H scope (compEnvC scope cl C X.env) fp) tg (evG c vars t)) (ht : ∀ (s : Shared) (H : Hp) (C : Addr) (cl : List (Str × Addr)) (fp : List Addr), PTs (X.blk s H scope (compEnvC scope cl C X.env) fp) ifs (evT c tst))
    (he : ∀ (s : Shared) (H : Hp) (C : Addr) (cl : List (Str × Addr)) (fp : List Addr), PE (X.blk s H scope (compEnvC scope cl C X.env) fp) elt (evE c fe)) (hv : ∀ j ∈ vars, j ∈ own.map (·.2) := by decide) (hc : X.calm = true := by rfl) (hs : ∀ x, foldedSetIterable iter X.env x = pure x := by intro _; rfl) :
    PS X (.Assign [.Name y py] (.ListComp elt [⟨tg, iter, ifs, 0⟩] scope pos) spos) (evS c (sSet i (cLcC it t (own.map (·.2)) tst fe))) := (ps_setLc hc hN hy hyl hsw hi (by rw [hN0, hs0]; exact blkOk_by ok) hg ht he hs).imp fun D σ H q => ev_lcC hv σ H _ (ev_set D σ H q)
end
/-! ### two clauses, without tests -/
def lc21 (t : Tg) (it1 : Its) (t1 : Tg) (vs1 : List Nat) (elt : Ex) (slw : Sl) (a : AV) (ih : CS → Rs (List AV)) (cs : CS) : Rs (List AV) := match t a slw with
    | none => .err
    | some sl1 => (it1 sl1 cs).bind fun xs1 cs1 => (lcL t1 tYesB elt (wipeS sl1 vs1) xs1 cs1).bind fun ys cs2 => (ih cs2).bind fun zs cs3 => .ok (appS ys zs) cs3
def lc2L (t : Tg) (it1 : Its) (t1 : Tg) (vs1 : List Nat) (elt : Ex) (slw : Sl) (l : List AV) : CS → Rs (List AV) := List.rec (motive := fun _ => CS → Rs (List AV)) (fun cs => .ok [] cs) (fun a _ ih => lc21 t it1 t1 vs1 elt slw a ih) l
theorem lc2L_nil (t : Tg) (it1 : Its) (t1 : Tg) (vs1 : List Nat) (elt : Ex) (slw : Sl) (cs : CS) : lc2L t it1 t1 vs1 elt slw [] cs = .ok [] cs := rfl
theorem lc2L_cons (t : Tg) (it1 : Its) (t1 : Tg) (vs1 : List Nat) (elt : Ex) (slw : Sl) (a : AV) (r : List AV) (cs : CS) : lc2L t it1 t1 vs1 elt slw (a :: r) cs = lc21 t it1 t1 vs1 elt slw a (lc2L t it1 t1 vs1 elt slw r) cs := rfl
def cLc2 (it : Its) (t : Tg) (it1 : Its) (t1 : Tg) (vs vs1 : List Nat) (elt : Ex) : Ex := fun sl cs => (it sl cs).bind fun xs cs1 => (lc2L t it1 t1 vs1 elt (wipeS sl vs) xs cs1).bind okLst
theorem ev_lc2 {it it1 : Its} {vars vars1 vs vs1 : List Nat} {t t1 : Tg} {elt : Ex} (hv : ∀ j ∈ vars, j ∈ vs) (hv1 : ∀ j ∈ vars1, j ∈ vs1) (σ : L2.St) (H : Hp) (Q : VK) (q : evE c (cLc2 it t it1 t1 vs vs1 elt) σ H Q) :
    tLc2 (evI c it) (evG c vars t) (evT c tYesB) (evI c it1) (evG c vars1 t1) (evT c tYesB) (evE c elt) vs vs1 σ H Q := by
  obtain ⟨W, sl, r, cs', hH, w, s, hf, fin⟩ := q
  obtain ⟨xs, cs1, h1, hf⟩ := bind_ok hf
  obtain ⟨ys, cs2, h2, h3⟩ := bind_ok hf
  obtain ⟨sz, rfl, rfl⟩ := okLst_ok h3
  refine ⟨W, sl, xs, cs1, hH, w, s, h1, fun J W0 w0 x0 e0 yy D h0 => ?_⟩
  let St := fun (r : List AV) (H : Hp) => ∃ W1 as1 acc1 ys1, W1.H = H ∧ WOk c W1 ∧ Ext W0 W1 ∧ W1.hid D ∧ W1.H D = some (.lst acc1) ∧ Reps c W1 as1 acc1 ∧ lc2L t it1 t1 vs1 elt (wipeS sl vs) r W1.cs = .ok ys1 cs' ∧ as1 ++ ys1 = ys
  have s0 : SlOk c W0 (wipeS sl vs) (wipe σ vs) := (s.mono w x0).wipe vs
  obtain ⟨wh, xh⟩ := w0.hide h0 []
  refine ⟨fun i m H => m = xs.length - i ∧ St (xs.drop i) H, ⟨_, rfl, W0.hide D [], [], [], ys, rfl, wh, xh, .inr rfl, upd_same, .nil, by show lc2L t it1 t1 vs1 elt _ _ W0.cs = _; rw [e0]; exact h2, rfl⟩, ?_⟩
  rintro i m H1 ⟨rfl, W2, as2, acc2, ys2, rfl, w2, x2, hD2, ha2, rs2, hl2, e2⟩
  obtain ⟨y1, y2⟩ := yy i W2 w2 x2.h
  cases hx : xs[i]? with
  | none =>
    have hlen : xs.length ≤ i := List.getElem?_eq_none_iff.mp hx
    rw [List.drop_of_length_le hlen] at hl2
    rw [lc2L_nil] at hl2
    injection hl2 with h3 h4
    subst h3
    rw [List.append_nil] at e2
    rw [e2] at rs2
    obtain ⟨w3, x3, se, nd⟩ := w0.show_ w2 x2 h0 hD2
    exact .inl ⟨y2 hx, fin _ (W2.show_ W0) w3 (x0.trans x3) h4 (.lst ha2 nd (rs2.map se))⟩
  | some y =>
    obtain ⟨hli, hy0⟩ := List.getElem?_eq_some_iff.mp hx
    have hd : xs.drop i = y :: xs.drop (i + 1) := by
      rw [← hy0]
      exact List.drop_eq_getElem_cons hli
    rw [hd] at hl2
    rw [lc2L_cons] at hl2
    unfold lc21 at hl2
    simp only [appS_eq] at hl2
    obtain ⟨g1, g2⟩ := y1 y hx
    cases et : t y (wipeS sl vs) with
    | none =>
      simp only [et] at hl2
      cases hl2
    | some sl1 =>
      simp only [et] at hl2
      obtain ⟨xs1, cs1', h5, hl2⟩ := bind_ok hl2
      obtain ⟨us, cs2', h6, hl2⟩ := bind_ok hl2
      obtain ⟨zs, cs3', h7, h8⟩ := bind_ok hl2
      injection h8 with h9 h10
      subst h9 h10
      refine .inr ⟨g1, St (xs.drop (i + 1)), fun H' q => ⟨xs.length - (i + 1), by omega, rfl, q⟩, fun z H' hz => ?_⟩
      obtain ⟨W3, q1, q2, w3, x3, r3⟩ := g2 z H' hz
      refine ⟨W3, wipeS sl vs, y, sl1, q1, w3, s0.mono w0 (x2.trans x3), r3, et, fun σ' s' so => ⟨wipe_same so hv, W3, sl1, true, W3.cs, rfl, w3, s', rfl, fun W4 w4 x4 e4 => iteT ?_⟩⟩
      refine ⟨W4, sl1, xs1, cs1', rfl, w4, s'.mono w3 x4, by rw [e4, q2]; exact h5, fun J1 W5 w5 x5 e5 yy1 => ?_⟩
      have x35 : Ext W2 W5 := x3.trans (x4.trans x5)
      have hD5 : W5.hid D := x35.hid D hD2
      have ha5 : W5.H D = some (.lst acc2) := by rw [x35.hk D hD2]; exact ha2
      have x05 : Ext W0 W5 := x2.trans x35
      have sz2 : (as2 ++ us).length ≤ lim := by
        have q := congrArg List.length e2
        rw [List.length_append, List.length_append] at q
        rw [List.length_append]
        omega
      refine lc_loop (as := as2) (ys := us) (acc := acc2) (Wr := W5) (W1 := W5) w0 h0 hv1 w5 ((s'.mono w3 (x4.trans x5)).wipe vs1) yy1 rfl w5 x05 (Ext.refl W5).h hD5 ha5 (rs2.mono w2 x35) (by rw [e5]; exact h6) sz2 fun W6 acc6 w6 x6 hd6 e6 ha6 rs6 => ?_
      exact ⟨W6, as2 ++ us, acc6, zs, rfl, w6, x6, hd6, ha6, rs6, by rw [e6]; exact h7, by rw [List.append_assoc]; exact e2⟩
theorem r_lc2 {elt tg iter tg1 iter1 : Expr} {scope : Scope} (own : List (Str × Nat)) (vs1 : List Nat) {it it1 : Its} {vars vars1 : List Nat} {t t1 : Tg} {fe : Ex} (hN : X.N.Nodup) (hi : PI X tg iter (evI c it)) (N0 : List Str) (sc0 : Scope) (hN0 : X.N = N0) (hs0 : X.env.scope = sc0) (ok : blkC N0 sc0 scope own = true)
    (hg : ∀ (s : Shared) (H : Hp) (C : Addr) (cl : List (Str × Addr)) (fp : List Addr), PG (X.blk s H scope (compEnvC scope cl C X.env) fp) tg (evG c vars t))
    (hi1 : ∀ (s : Shared) (H : Hp) (C : Addr) (cl : List (Str × Addr)) (fp : List Addr), PI (X.blk s H scope (compEnvC scope cl C X.env) fp) tg1 iter1 (evI c it1))
    (hg1 : ∀ (s : Shared) (H : Hp) (C : Addr) (cl : List (Str × Addr)) (fp : List Addr), PG (X.blk s H scope (compEnvC scope cl C X.env) fp) tg1 (evG c vars1 t1))
    (he : ∀ (s : Shared) (H : Hp) (C : Addr) (cl : List (Str × Addr)) (fp : List Addr), PE (X.blk s H scope (compEnvC scope cl C X.env) fp) elt (evE c fe)) (hv : ∀ j ∈ vars, j ∈ own.map (·.2) := by decide) (hv1 : ∀ j ∈ vars1, j ∈ vs1 := by decide) (hvs : ∀ i ∈ vs1, i ∈ own.map (·.2) := by decide) (hc : X.calm = true := by rfl)
    (hs : ∀ x, foldedSetIterable iter X.env x = pure x := by intro _; rfl) (hs1 : ∀ env x, foldedSetIterable iter1 env x = pure x := by intro _ _; rfl) :
    PE X (.ListComp elt [⟨tg, iter, [], 0⟩, ⟨tg1, iter1, [], 0⟩] scope pos) (evE c (cLc2 it t it1 t1 (own.map (·.2)) vs1 fe)) :=
  (pe_lc2 hc hN hi (by rw [hN0, hs0]; exact blkOk_by ok) hvs hg (fun _ _ _ _ _ => ts_nil) hi1 hg1 (fun _ _ _ _ _ => ts_nil) he hs hs1).imp (ev_lc2 hv hv1)
theorem s_setLc2 {elt tg iter tg1 iter1 : Expr} {scope : Scope} (own : List (Str × Nat)) (vs1 : List Nat) {i : Nat} {y : Str} {py spos : Pos} {it it1 : Its} {vars vars1 : List Nat} {t t1 : Tg} {fe : Ex} (hN : X.N.Nodup) (hy : X.N[i]? = some y) (hyl : X.env.scope.names.lookup y = some .local)
    (hsw : swapsWith (.ListComp elt [⟨tg, iter, [], 0⟩, ⟨tg1, iter1, [], 0⟩] scope pos) (some (.Name y py)) spos.line X.env = pure true) (hi : PI X tg iter (evI c it)) (N0 : List Str) (sc0 : Scope) (hN0 : X.N = N0) (hs0 : X.env.scope = sc0) (ok : blkC N0 sc0 scope own = true)
    (hg : ∀ (s : Shared) (H : Hp) (C : Addr) (cl : List (Str × Addr)) (fp : List Addr), PG (X.blk s H scope (compEnvC scope cl C X.env) fp) tg (evG c vars t))
    (hi1 : ∀ (s : Shared) (H : Hp) (C : Addr) (cl : List (Str × Addr)) (fp : List Addr), PI (X.blk s H scope (compEnvC scope cl C X.env) fp) tg1 iter1 (evI c it1))
    (hg1 : ∀ (s : Shared) (H : Hp) (C : Addr) (cl : List (Str × Addr)) (fp : List Addr), PG (X.blk s H scope (compEnvC scope cl C X.env) fp) tg1 (evG c vars1 t1))
    (he : ∀ (s : Shared) (H : Hp) (C : Addr) (cl : List (Str × Addr)) (fp : List Addr), PE (X.blk s H scope (compEnvC scope cl C X.env) fp) elt (evE c fe)) (hv : ∀ j ∈ vars, j ∈ own.map (·.2) := by decide) (hv1 : ∀ j ∈ vars1, j ∈ vs1 := by decide) (hvs : ∀ i ∈ vs1, i ∈ own.map (·.2) := by decide) (hc : X.calm = true := by rfl)
    (hs : ∀ x, foldedSetIterable iter X.env x = pure x := by intro _; rfl) (hs1 : ∀ env x, foldedSetIterable iter1 env x = pure x := by intro _ _; rfl) :
    PS X (.Assign [.Name y py] (.ListComp elt [⟨tg, iter, [], 0⟩, ⟨tg1, iter1, [], 0⟩] scope pos) spos) (evS c (sSet i (cLc2 it t it1 t1 (own.map (·.2)) vs1 fe))) :=
  (ps_setLc2 hc hN hy hyl hsw hi (by rw [hN0, hs0]; exact blkOk_by ok) hvs hg (fun _ _ _ _ _ => ts_nil) hi1 hg1 (fun _ _ _ _ _ => ts_nil) he hs hs1).imp fun D σ H q => ev_lc2 hv hv1 σ H _ (ev_set D σ H q)
end
end U
end
noncomputable section
namespace U
open PySem PySem.Spec
open PyProof.Rows L2

/-! ## a def by its body -/
def undS (n : Nat) : Sl := Nat.rec (motive := fun _ => Sl) [] (fun _ ih => .und :: ih) n
theorem undS_eq : ∀ n : Nat, undS n = List.replicate n .und
  | 0 => rfl
  | n + 1 => congrArg (AV.und :: ·) (undS_eq n)
def padS (n : Nat) (as : List AV) : Sl := appS as (undS (n - lenN as))
theorem padS_eq (n : Nat) (as : List AV) : padS n as = as ++ List.replicate (n - lenN as) .und := by
  unfold padS
  rw [appS_eq, undS_eq]
def fnF (n : Nat) (body : Stm) : Fn := fun as cs => match body (padS n as) cs with
  | .rt a cs' => .ok a cs'
  | .nx _ cs' => .ok .non cs'
  | _ => .err
/-- .. whose cells are forgotten at its end -/
def fnD (n : Nat) (body : Stm) : Fn := fun as cs => match body (padS n as) cs with
  | .rt a cs' => frN cs'.n fun m => .ok a ⟨m, CS.old cs.n cs'.l⟩
  | .nx _ cs' => frN cs'.n fun m => .ok .non ⟨m, CS.old cs.n cs'.l⟩
  | _ => .err
section
variable {c : Ct} {P : Program} {w : World} {K : PySem.W.Frag} {mg : Str → Option Value} {base : Heap}
theorem pad_ok {W : Wd} {as : List AV} {vs : List V} (r : Reps c W as vs) (N : List Str) : SlOk c W (padS N.length as) (L2.start N vs) := by
  rw [padS_eq]
  unfold L2.start
  refine ⟨?_, fun i a h => ?_⟩
  · rw [List.length_append, List.length_append, List.length_replicate, List.length_replicate, List.length_map, lenN_eq, r.length]
  · by_cases hi : i < as.length
    · rw [List.getElem?_append_left hi] at h
      obtain ⟨v, h1, h2⟩ := r.get h
      refine .inr ⟨v, ?_, h2⟩
      rw [List.getElem?_append_left (by rw [List.length_map, ← r.length]; exact hi), List.getElem?_map, h1]
      rfl
    · rw [List.getElem?_append_right (by omega), List.getElem?_replicate] at h
      split at h
      · cases h
        exact .inl rfl
      · cases h
/-- the body of a def, in any frame of its -/
def Body (c : Ct) (P : Program) (w : World) (K : PySem.W.Frag) (mg : Str → Option Value) (base : Heap) (k : Nat) (N : List Str) (qual : Str) (f : Addr) (scope : Scope) (body : List Stmt) (F : Stm) : Prop :=
  ∀ (cdv : Value) (A : Around) (outer : List Env) (s : Shared) (H : Hp) (E : XK), Room k (A.deeper (envOfC qual scope s.heap.objs.size f cdv)) → PSs (cxOf CX0 P w K mg base N qual scope f cdv A outer s H E).nox body (evS c F)
theorem body_rd {X : Cx} {F : Stm} {n : Nat} {N : List Str} {vs : List V} {H : Hp} {Q : VK} (hn : N.length = n) (q : evF c (fnF n F) vs H Q) : evS c F { nx := fun _ H' => Q .non H', rt := Q } (L2.start N vs) H := by
  obtain ⟨W, as, r, cs', hH, w, rs, hg, k⟩ := q
  subst hH hn
  refine ⟨W, padS N.length as, rfl, w, pad_ok rs N, ?_⟩
  unfold fnF at hg
  cases e : F (padS N.length as) W.cs with
  | err =>
    rw [e] at hg
    cases hg
  | nx sl cs1 =>
    rw [e] at hg
    cases hg
    exact fun σ W' w' x ec s' => k _ W' w' x ec .non
  | rt a cs1 =>
    rw [e] at hg
    cases hg
    exact k
  | bk sl cs1 =>
    rw [e] at hg
    cases hg
  | ct sl cs1 =>
    rw [e] at hg
    cases hg
theorem fnD_F {F : Stm} {n : Nat} {vs : List V} {H : Hp} {Q : VK} (q : evF c (fnD n F) vs H Q) : evF c (fnF n F) vs H Q := by
  obtain ⟨W, as, r, cs', hH, w, rs, hg, k⟩ := q
  subst hH
  have key : ∀ a cs1, fnF n F as W.cs = .ok a cs1 → frN cs1.n (fun m => Rs.ok a ⟨m, CS.old W.cs.n cs1.l⟩) = .ok r cs' → evF c (fnF n F) vs W.H Q := fun a cs1 h1 h2 => by
    rw [frN_eq] at h2
    cases h2
    refine ⟨W, as, r, cs1, rfl, w, rs, h1, fun v W' w' x ec rv => ?_⟩
    obtain ⟨w2, x2⟩ := w'.young x
    have q := k v _ w2 x2 (by rw [← ec]; rfl) (rv.map (W := W') (W' := W'.only (CS.old W.cs.n W'.cs.l)) ⟨fun _ _ h => h, fun _ _ h n => ⟨h, n⟩, fun _ h => ⟨h, rfl⟩⟩)
    exact q
  unfold fnD at hg
  unfold fnF at key
  cases e : F (padS n as) W.cs with
  | nx sl cs1 =>
    rw [e] at hg key
    exact key _ _ rfl hg
  | rt a cs1 =>
    rw [e] at hg key
    exact key _ _ rfl hg
  | _ =>
    rw [e] at hg
    cases hg
theorem def_ok {k n m : Nat} {x qual : Str} {params : Arguments} {body : List Stmt} {scope : Scope} {dvs : List V} {kws : List (Str × V)} {f : Addr} {fd : FuncData} {N ps : List Str} {F : Stm} (D : FunD K x qual params body scope dvs kws f fd) (S : FnScope N ps scope) (hn : N.length = n) (hm : ps.length = m) (hb : Body c P w K mg base k N qual f scope body F) :
    FnOk P w K mg base CX0 (k + 1) f fd ps (spOf c m (fnF n F)) :=
  D.ok S (fun vs H Q E h => h.1.trans hm.symm) fun cdv A outer s H vs Q E hr h => ⟨evS c F, (hb cdv A outer s H E hr).nox, body_rd (X := cxOf CX0 P w K mg base N qual scope f cdv A outer s H E) hn h.2⟩
theorem def_okD {k n m : Nat} {x qual : Str} {params : Arguments} {body : List Stmt} {scope : Scope} {dvs : List V} {kws : List (Str × V)} {f : Addr} {fd : FuncData} {N ps : List Str} {F : Stm} (D : FunD K x qual params body scope dvs kws f fd) (S : FnScope N ps scope) (hn : N.length = n) (hm : ps.length = m) (hb : Body c P w K mg base k N qual f scope body F) :
    FnOk P w K mg base CX0 (k + 1) f fd ps (spOf c m (fnD n F)) :=
  D.ok S (fun vs H Q E h => h.1.trans hm.symm) fun cdv A outer s H vs Q E hr h => ⟨evS c F, (hb cdv A outer s H E hr).nox, body_rd (X := cxOf CX0 P w K mg base N qual scope f cdv A outer s H E) hn (fnD_F h.2)⟩
end

/-! ## constants of the module -/
def Konst (c : Ct) (mg : Str → Option Value) (x : Str) (a : AV) : Prop := ∃ v u, mg x = some u ∧ RelV v u ∧ ∀ W, Rep c W a v
section
variable {c : Ct} {X : Cx} {e a b : Expr} {pos p : Pos} {f g : Ex}
theorem r_glob {x : Str} {av : AV} (h : Konst c X.mg x av) (hg : Gl X x := by rfl) (hd : (x == ("__debug__" : Str)) = false := by decide) : PE X (.Name x pos) (evE c (cK av)) := by
  obtain ⟨v, u, hm, r, hr⟩ := h
  exact r_const (pe_glob hg hm r hd) hr
theorem konst_int {mg : Str → Option Value} {x : Str} {i : Int} (h : ∃ t, mg x = some (.int i t)) : Konst c mg x (.int i) := by
  obtain ⟨t, h⟩ := h
  exact ⟨.int i, _, h, ⟨t, rfl⟩, fun _ => .int i⟩
theorem konst_str {mg : Str → Option Value} {x : Str} {n : Nat} (hn : n < nStr) (h : ∃ t, mg x = some (.str (tbl n) t)) : Konst c mg x (.str n) := by
  obtain ⟨t, h⟩ := h
  exact ⟨.str (tbl n), _, h, ⟨t, rfl⟩, fun _ => .str n hn⟩
/-- scalars: what stands in a written tuple -/
def scaV (a : AV) : Option V := match a with
  | .int i => some (.int i)
  | .str n => (match Nat.blt n nStr with
    | true => some (.str (tbl n))
    | false => none)
  | _ => none
def scaL : List AV → Option (List V)
  | [] => some []
  | a :: r => match scaV a with
    | some v => (match scaL r with
      | some vs => some (v :: vs)
      | none => none)
    | none => none
theorem scaL_ok : ∀ {as : List AV} {vs : List V}, scaL as = some vs → ∀ W, Reps c W as vs
  | [], vs, h, W => by
    cases h
    exact .nil
  | a :: as, vs, h, W => by
    unfold scaL at h
    cases e : scaV a with
    | none =>
      rw [e] at h
      cases h
    | some v =>
      rw [e] at h
      cases e2 : scaL as with
      | none =>
        rw [e2] at h
        cases h
      | some us =>
        rw [e2] at h
        cases h
        refine .cons ?_ (scaL_ok e2 W)
        cases a with
        | int i =>
          cases e
          exact .int i
        | str n =>
          have e' : (match Nat.blt n nStr with
            | true => some (V.str (tbl n))
            | false => none) = some v := e
          cases e3 : Nat.blt n nStr with
          | false =>
            rw [e3] at e'
            cases e'
          | true =>
            rw [e3] at e'
            cases e'
            exact .str n (Nat.le_of_ble_eq_true e3)
        | _ => cases e
theorem konst_tup {mg : Str → Option Value} {x : Str} {t : Addr} {as : List AV} {vs : List V} (hm : mg x = some (.ref t)) (hk : KTup c.K t vs) (h : scaL as = some vs) : Konst c mg x (.tup as) := ⟨.ref t, _, hm, rfl, fun W => .tup (.inr hk) (scaL_ok h W)⟩

/-! ## instances -/
def insC (k : Nat) (a : AV) (cs : CS) : Option (Nat × List (Nat × AV)) := match a with
  | .cell n => (match cs.get n with
    | some (.ins k' fs) => (match Nat.beq k' k with
      | true => some (n, fs)
      | false => none)
    | _ => none)
  | _ => none
theorem insC_ok {k : Nat} {W : Wd} {a : AV} {v : V} {n : Nat} {fs : List (Nat × AV)} (w : WOk c W) (r : Rep c W a v) (h : insC k a W.cs = some (n, fs)) : v = .ref (W.γ n) ∧ W.cs.get n = some (.ins k fs) ∧ ∃ dx fv, W.H (W.γ n) = some (.ins (c.cl k) dx fv) ∧ Repf c W fs fv := by
  cases r with
  | cell i hi =>
    have h' : (match W.cs.get i with
      | some (.ins k' fs) => (match Nat.beq k' k with
        | true => some (i, fs)
        | false => none)
      | _ => none) = some (n, fs) := h
    split at h'
    · rename_i k' fs' e
      cases e2 : Nat.beq k' k with
      | false =>
        rw [e2] at h'
        cases h'
      | true =>
        rw [e2] at h'
        have ek := Nat.eq_of_beq_eq_true e2
        subst ek
        injection h' with h2
        injection h2 with h3 h4
        subst h3 h4
        obtain ⟨_, h5⟩ := w.ok i _ e
        exact ⟨rfl, e, h5⟩
    · cases h'
  | _ => cases h
def lookF (n : Nat) (l : List (Nat × AV)) : AV := List.rec (motive := fun _ => AV) .und (fun z _ ih => match Nat.beq z.1 n with
    | true => z.2
    | false => ih) l
theorem lookF_cons (n m : Nat) (a : AV) (r : List (Nat × AV)) : lookF n ((m, a) :: r) = match Nat.beq m n with
    | true => a
    | false => lookF n r := rfl
theorem lookF_ok {W : Wd} {n : Nat} (hn : n < nStr) : ∀ {fs : List (Nat × AV)} {fv : List (Str × V)}, Repf c W fs fv → lookF n fs ≠ .und → ∃ v, fv.lookup (tbl n) = some v ∧ Rep c W (lookF n fs) v
  | [], _, _, h => absurd rfl h
  | (m, a) :: r, [], h, _ => h.elim
  | (m, a) :: r, (x, v) :: t, h, hu => by
    obtain ⟨rfl, hm, ra, hr⟩ := h
    rw [lookF_cons] at hu ⊢
    cases e : Nat.beq m n with
    | true =>
      have em := Nat.eq_of_beq_eq_true e
      subst em
      refine ⟨v, ?_, ra⟩
      simp [List.lookup]
    | false =>
      simp only [e] at hu
      obtain ⟨u, h1, h2⟩ := lookF_ok hn hr hu
      refine ⟨u, ?_, h2⟩
      have ne : (tbl n == tbl m) = false := beq_eq_false_iff_ne.mpr fun z => by
        have := tbl_inj hn hm z
        subst this
        rw [Nat.beq_refl] at e
        cases e
      simp only [List.lookup, ne]
      exact h1
def cFld (k n : Nat) (f : Ex) : Ex := fun sl cs => (f sl cs).bind fun a cs1 => match insC k a cs1 with
  | some (_, fs) => okV (lookF n fs) cs1
  | none => .err
theorem r_fld (k n : Nat) {nm : Str} (he : PE X e (evE c f)) (hc : Cls X.K (c.cl k)) (ha : NoAttr X.K (c.cl k) (tbl n)) (hx : nm = tbl n := by rfl) (hn : n < nStr := by decide) (hb : attributeBase e nm X.env (eval e X.env) = eval e X.env := by rfl) : PE X (.Attribute e nm pos) (evE c (cFld k n f)) := by
  subst hx
  refine (pe_fld he hb).imp fun σ H Q ⟨W, sl, r, cs', hH, w, s, hf, fin⟩ => ?_
  obtain ⟨a1, cs1, h1, h2⟩ := bind_ok hf
  refine ⟨W, sl, a1, cs1, hH, w, s, h1, fun x W1 w1 x1 e1 r1 => ?_⟩
  rw [← e1] at h2
  cases e2 : insC k a1 W1.cs with
  | none =>
    rw [e2] at h2
    cases h2
  | some z =>
    obtain ⟨i, fs⟩ := z
    rw [e2] at h2
    obtain ⟨e3, e4, e5⟩ := okV_ok h2
    subst e3
    obtain ⟨rfl, hg, dx, fv, h3, h4⟩ := insC_ok w1 r1 e2
    obtain ⟨v, h5, h6⟩ := lookF_ok hn h4 e5
    exact ⟨_, _, dx, fv, v, rfl, h3, hc, ha, h5, fin _ W1 w1 x1 e4 h6⟩
def putFS (n : Nat) (v : AV) (l : List (Nat × AV)) : List (Nat × AV) := List.rec (motive := fun _ => List (Nat × AV)) [(n, v)] (fun z r ih => match Nat.beq z.1 n with
    | true => (z.1, v) :: r
    | false => z :: ih) l
theorem putFS_cons (n m : Nat) (v a : AV) (r : List (Nat × AV)) : putFS n v ((m, a) :: r) = match Nat.beq m n with
    | true => (m, v) :: r
    | false => (m, a) :: putFS n v r := rfl
theorem putFS_ok {W : Wd} {n : Nat} {a : AV} {v : V} (hn : n < nStr) (ra : Rep c W a v) : ∀ {fs : List (Nat × AV)} {fv : List (Str × V)}, Repf c W fs fv → Repf c W (putFS n a fs) (putF (tbl n) v fv)
  | [], [], _ => ⟨rfl, hn, ra, trivial⟩
  | [], _ :: _, h => h.elim
  | _ :: _, [], h => h.elim
  | (m, b) :: r, (x, u) :: t, h => by
    obtain ⟨rfl, hm, rb, hr⟩ := h
    rw [putFS_cons]
    unfold putF
    cases e : Nat.beq m n with
    | true =>
      have em := Nat.eq_of_beq_eq_true e
      subst em
      rw [if_pos rfl]
      exact ⟨rfl, hm, ra, hr⟩
    | false =>
      have ne : tbl m ≠ tbl n := fun z => by
        have := tbl_inj hm hn z
        subst this
        rw [Nat.beq_refl] at e
        cases e
      rw [if_neg ne]
      exact ⟨rfl, hm, rb, putFS_ok hn ra hr⟩
theorem Repf.length {W : Wd} : ∀ {fs : List (Nat × AV)} {fv : List (Str × V)}, Repf c W fs fv → fs.length = fv.length
  | [], [], _ => rfl
  | [], _ :: _, h => h.elim
  | _ :: _, [], h => h.elim
  | (_, _) :: _, (_, _) :: _, h => congrArg Nat.succ (Repf.length h.2.2.2)
/-- o.f = e: the value first -/
def sFldS (k n : Nat) (f fo : Ex) : Stm := fun sl cs => (f sl cs).go fun v cs1 => (fo sl cs1).go fun o cs2 => match insC k o cs2 with
  | some (i, fs) => (match shr 100 fs with
    | true => .nx sl (cs2.set i (.ins k (putFS n v fs)))
    | false => .err)
  | none => .err
theorem s_fld (k n : Nat) {nm : Str} {p2 : Pos} {fo : Ex} (he : PE X e (evE c f)) (ho : PE X a (evE c fo)) (hc : Cls X.K (c.cl k)) (ha : NoAttr X.K (c.cl k) (tbl n)) (hx : nm = tbl n := by rfl) (hn : n < nStr := by decide) (hs : swapsWith e (some (.Attribute a nm p2)) pos.line X.env = pure false := by rfl) : PS X (.Assign [.Attribute a nm p2] e pos) (evS c (sFldS k n f fo)) := by
  subst hx
  refine (ps_fld ho he hs).imp fun D σ H ⟨W, sl, hH, w, s, q⟩ => ?_
  obtain ⟨v1, cs1, h1, q⟩ := go_ok q
  obtain ⟨o1, cs2, h2, q⟩ := go_ok q
  refine ⟨W, sl, v1, cs1, hH, w, s, h1, fun v W1 w1 x1 e1 r1 => ⟨W1, sl, o1, cs2, rfl, w1, s.mono w x1, by rw [e1]; exact h2, fun o W2 w2 x2 e2 r2 => ?_⟩⟩
  rw [← e2] at q
  cases e3 : insC k o1 W2.cs with
  | none =>
    rw [e3] at q
    exact q.elim
  | some z =>
    obtain ⟨i, fs⟩ := z
    rw [e3] at q
    cases e4 : shr 100 fs with
    | false =>
      simp only [e4] at q
      exact q.elim
    | true =>
      simp only [e4] at q
      obtain ⟨rfl, hg, dx, fv, h3, h4⟩ := insC_ok w2 r2 e3
      refine ⟨_, _, dx, fv, rfl, h3, hc, ha, by rw [← h4.length]; exact Nat.lt_of_le_of_lt (shr_le _ _ e4) (by decide), ?_⟩
      obtain ⟨w3, x3⟩ := w2.setC (o := .ins (c.cl k) dx (putF (tbl n) v fv)) (co := .ins k (putFS n v1 fs)) hg (fun _ z => by cases z) rfl fun W' x e => ⟨dx, _, e, putFS_ok hn ((r1.mono w1 x2).mono w2 x) (h4.mono w2 x)⟩
      exact q σ (W2.setC i (.ins (c.cl k) dx (putF (tbl n) v fv)) (.ins k (putFS n v1 fs))) w3 (x1.trans (x2.trans x3)) rfl (s.mono w (x1.trans (x2.trans x3)))
/-- a method that keeps a promise -/
def MCallee (c : Ct) (P : Program) (w : World) (K : PySem.W.Frag) (mg : Str → Option Value) (base : Heap) (k : Nat) (cl : Nat) (m : Str) (n : Nat) (F : Fn) : Prop :=
  ∃ (f : Addr) (fd : FuncData) (ps : List Str), ps.length = n ∧ FnOk P w K mg base CX0 k f fd ps (spOf c n F) ∧ Meth K (c.cl cl) m f ∧ Binds K fd ps []
theorem noField {W : Wd} {m : Str} (hm : ∀ n, n < nStr → tbl n ≠ m) : ∀ {fs : List (Nat × AV)} {fv : List (Str × V)}, Repf c W fs fv → fv.lookup m = none
  | [], [], _ => rfl
  | [], _ :: _, h => h.elim
  | _ :: _, [], h => h.elim
  | (n, _) :: _, (x, _) :: _, h => by
    obtain ⟨rfl, hn, _, hr⟩ := h
    have ne : (m == tbl n) = false := beq_eq_false_iff_ne.mpr fun z => hm n hn z.symm
    simp only [List.lookup, ne]
    exact noField hm hr
/-- o.m(..), n arguments with the object -/
def cMth (k n : Nat) (F : Fn) (f : Ex) (t : Exs) : Ex := fun sl cs => (f sl cs).bind fun a cs1 => match insC k a cs1 with
  | some _ => (t sl cs1).bind fun as cs2 => (match Nat.beq (lenN as + 1) n with
    | true => F (a :: as) cs2
    | false => .err)
  | none => .err
theorem r_meth {lv k n : Nat} {m : Str} {F : Fn} {t : Exs} {es : List Expr} {apos : Pos} (C : MCallee c X.prog X.w X.K X.mg X.base lv k m n F) (hc : Cls X.K (c.cl k)) (hr : Room lv X.A) (ho : PE X a (evE c f)) (ha : PA X (e :: es) (evA c t)) (hm : ∀ n, n < nStr → tbl n ≠ m := by decide +kernel)
    (hst : starEach (
          e :: es) X.env = (false, eval e X.env) :: starEach es X.env := by rfl) (hpl : (backTo pos (starEach es X.env)).any (·.1) = false := by rfl)
    (pl : Sem Bool) (ht : eval (.Call (.Attribute a m apos) (e :: es) [] pos) X.env = (do
      let ov ← eval a X.env
      standAt apos.atName
      let (
            f, first) ← holding [ov] (getMethod ov m pl)
      callWith pos f first (backTo pos (starEach (e :: es) X.env)) (backToKw pos (keywordEach [] X.env)))) :
    PE X (.Call (.Attribute a m apos) (e :: es) [] pos) (evE c (cMth k n F f t)) := by
  obtain ⟨fa, fd, ps, hn, G, hM, hb⟩ := C
  refine (pe_meth (pl := pl) ho hc hM G hr hb .nil pass0 ha hst hpl ht).imp fun σ H Q ⟨W, sl, r, cs', hH, w, s, hf, fin⟩ => ?_
  obtain ⟨a1, cs1, h1, hf⟩ := bind_ok hf
  refine ⟨W, sl, a1, cs1, hH, w, s, h1, fun x W1 w1 x1 e1 r1 => ?_⟩
  cases e2 : insC k a1 cs1 with
  | none =>
    simp only [e2] at hf
    cases hf
  | some z =>
    simp only [e2] at hf
    obtain ⟨i, fs⟩ := z
    obtain ⟨as, cs2, h2, h3⟩ := bind_ok hf
    rw [← e1] at e2
    obtain ⟨rfl, hg, dx, fv, h4, h5⟩ := insC_ok w1 r1 e2
    refine ⟨_, dx, fv, rfl, h4, noField hm h5, W1, sl, as, cs2, rfl, w1, s.mono w x1, by rw [e1]; exact h2, fun vs W2 w2 x2 e3 r2 => ?_⟩
    cases e4 : Nat.beq (lenN as + 1) n with
    | false =>
      rw [e4] at h3
      cases h3
    | true =>
      rw [e4] at h3
      rw [List.append_nil]
      refine ⟨?_, W2, a1 :: as, r, cs', rfl, w2, .cons (r1.mono w1 x2) r2, by rw [e3]; exact h3, fin.later (x1.trans x2)⟩
      rw [List.length_cons, ← r2.length, ← lenN_eq]
      exact Nat.eq_of_beq_eq_true e4
/-- C(..): the new instance, then __init__ -/
def cMake (k n : Nat) (F : Fn) (t : Exs) : Ex := fun sl cs => (t sl cs).bind fun as cs1 => match Nat.beq (lenN as + 1) n with
  | true => frN cs1.n fun i => (match F (.cell i :: as) ⟨i + 1, (i, .ins k []) :: cs1.l⟩ with
    | .ok .non cs2 => .ok (.cell i) cs2
    | _ => .err)
  | false => .err
theorem make_ok {k n : Nat} {F : Fn} {W : Wd} {as : List AV} {vs : List V} {r : AV} {cs' : CS} {Q : VK} (w : WOk c W) (rs : Reps c W as vs) (h : (match Nat.beq (lenN as + 1) n with
    | true => frN W.cs.n fun i => (match F (.cell i :: as) ⟨i + 1, (i, .ins k []) :: W.cs.l⟩ with
      | .ok .non cs2 => .ok (.cell i) cs2
      | _ => .err)
    | false => .err) = Rs.ok r cs') (fin : Fin c W r cs' Q) {x dx : Addr} (hx : W.H x = none) (hd : W.H dx = none) (ne : dx ≠ x) :
    spOf c n F (.ref x :: vs) (upd (upd W.H dx (.own x)) x (.ins (c.cl k) dx [])) (fun v H2 => v = .non ∧ Q (.ref x) H2) E0 := by
  cases e : Nat.beq (lenN as + 1) n with
  | false =>
    rw [e] at h
    cases h
  | true =>
    simp only [e] at h
    rw [frN_eq] at h
    refine ⟨by rw [List.length_cons, ← rs.length, ← lenN_eq]; exact Nat.eq_of_beq_eq_true e, ?_⟩
    obtain ⟨w1, x1⟩ := w.lay (o := .own x) hd
    have hx1 : (W.lay dx (.own x)).H x = none := (upd_ne (fun z => ne z.symm)).trans hx
    obtain ⟨w2, x2⟩ := w1.newC (o := .ins (c.cl k) dx []) (co := .ins k []) hx1 rfl fun W' x e => ⟨dx, [], e, trivial⟩
    have g : ((W.lay dx (.own x)).newC x (.ins (c.cl k) dx []) (.ins k [])).γ W.cs.n = x := if_pos rfl
    have rx : Rep c ((W.lay dx (.own x)).newC x (.ins (c.cl k) dx []) (.ins k [])) (.cell W.cs.n) (.ref x) := by
      have q : Rep c ((W.lay dx (.own x)).newC x (.ins (c.cl k) dx []) (.ins k [])) (.cell W.cs.n) (.ref (((W.lay dx (.own x)).newC x (.ins (c.cl k) dx []) (.ins k [])).γ W.cs.n)) := .cell _ (Nat.lt_succ_self _)
      rw [g] at q
      exact q
    cases e2 : F (.cell W.cs.n :: as) ⟨W.cs.n + 1, (W.cs.n, .ins k []) :: W.cs.l⟩ with
    | err =>
      rw [e2] at h
      cases h
    | ok a cs2 =>
      cases a with
      | non =>
        rw [e2] at h
        cases h
        refine ⟨(W.lay dx (.own x)).newC x (.ins (c.cl k) dx []) (.ins k []), .cell W.cs.n :: as, .non, cs', rfl, w2, .cons rx ((rs.mono w x1).mono w1 x2), e2, fun v W' w' x' ec r' => ⟨?_, ?_⟩⟩
        · cases r'
          rfl
        · exact fin _ W' w' (x1.trans (x2.trans x')) ec (rx.mono w2 x')
      | _ =>
        rw [e2] at h
        cases h
/-- an own class and its __init__ -/
def CCallee (c : Ct) (P : Program) (w : World) (K : PySem.W.Frag) (mg : Str → Option Value) (base : Heap) (lv : Nat) (k : Nat) (x : Str) (n : Nat) (F : Fn) : Prop :=
  ∃ (f : Addr) (fd : FuncData) (ps : List Str), ps.length = n ∧ FnOk P w K mg base CX0 lv f fd ps (spOf c n F) ∧ Mk K (c.cl k) f ∧ mg x = some (.ref (c.cl k)) ∧ Binds K fd ps []
theorem r_make {lv k n : Nat} {x : Str} {F : Fn} {t : Exs} {es : List Expr} (C : CCallee c X.prog X.w X.K X.mg X.base lv k x n F) (hr : Room (lv + 1) X.A) (ha : PA X (e :: es) (evA c t)) (hg : Gl X x := by rfl) (hdb : (x == ("__debug__" : Str)) = false := by decide)
    (he : starEach (e :: es) X.env = (false, eval e X.env) :: starEach es X.env := by rfl) (hpl : (backTo pos (starEach es X.env)).any (·.1) = false := by rfl) : PE X (.Call (.Name x p) (e :: es) [] pos) (evE c (cMake k n F t)) := by
  obtain ⟨f, fd, ps, hn, G, M, hm, hb⟩ := C
  refine (pe_make M G hr hg hm hb .nil pass0 ha hdb he hpl).imp fun σ H Q ⟨W, sl, r, cs', hH, w, s, hf, fin⟩ => ?_
  obtain ⟨as, cs1, h1, h2⟩ := bind_ok hf
  refine ⟨W, sl, as, cs1, hH, w, s, h1, fun vs W1 w1 x1 e1 r1 z dz hz hdz ne => ?_⟩
  rw [← e1] at h2
  rw [List.append_nil]
  exact make_ok w1 r1 h2 (fin.later x1) hz hdz ne
/-- .. with keywords: all of them are given, in the parameters' order -/
def KCallee (c : Ct) (P : Program) (w : World) (K : PySem.W.Frag) (mg : Str → Option Value) (base : Heap) (lv : Nat) (k : Nat) (x : Str) (n m : Nat) (ks : List Str) (F : Fn) : Prop :=
  ∃ (f : Addr) (fd : FuncData) (ps : List Str) (g : List Value → List Value → List Value), ks.length = m ∧ FnOk P w K mg base CX0 lv f fd ps (spOf c (n + 1 + m) F) ∧ Mk K (c.cl k) f ∧ mg x = some (.ref (c.cl k)) ∧ KBn K fd ps (n + 1) ks g (fun vs zs => vs ++ zs)
def cMakeK (k n m : Nat) (F : Fn) (t tk : Exs) : Ex := fun sl cs => (t sl cs).bind fun as cs1 => (tk sl cs1).bind fun bs cs2 => match Nat.beq (lenN as) n with
  | true => (match Nat.beq (lenN bs) m with
    | true => cMake k (n + 1 + m) F (fun _ cs => .ok (as ++ bs) cs) sl cs2
    | false => .err)
  | false => .err
/-- keywords, from the left -/
theorem rk_nil : PK X [] (evA c aNil) := ⟨fun pos pins s σ H Q I ⟨W, sl, as, cs', hH, w, ss, hf, k⟩ => pk_nil.run pos pins s σ H Q I (by
  cases hf
  subst hH
  exact k [] W w (Ext.refl W) rfl .nil)⟩
theorem rk_cons {nm : Option Str} {kpos : Pos} {kws : List Keyword} {t : Exs} (ha : PE X e (evE c f)) (hr : PK X kws (evA c t)) : PK X (⟨nm, e, kpos⟩ :: kws) (evA c (aCons f t)) := ⟨fun pos pins s σ H Q I ⟨W, sl, as, cs', hH, w, ss, hf, k⟩ => (pk_cons ha hr).run pos pins s σ H Q I (by
  obtain ⟨a, cs1, h1, hf⟩ := bind_ok hf
  obtain ⟨bs, cs2, h2, h3⟩ := bind_ok hf
  injection h3 with h4 h5
  subst h4 h5
  exact ⟨W, sl, a, cs1, hH, w, ss, h1, fun x W1 w1 x1 e1 r1 => ⟨W1, sl, bs, cs2, rfl, w1, ss.mono w x1, by rw [e1]; exact h2, fun xs W2 w2 x2 e2 r2 => k (x :: xs) W2 w2 (x1.trans x2) e2 (.cons (r1.mono w1 x2) r2)⟩⟩)⟩
theorem r_makeK {lv k n m : Nat} {x : Str} {ks : List Str} {F : Fn} {t tk : Exs} {es : List Expr} {kws : List Keyword} (C : KCallee c X.prog X.w X.K X.mg X.base lv k x n m ks F) (hr : Room (lv + 1) X.A) (ha : PA X (e :: es) (evA c t)) (hkw : PK X kws (evA c tk)) (hg : Gl X x := by rfl)
    (hall : (
          backToKw pos (keywordEach kws X.env)).all (·.1.isSome) = true := by rfl) (hks : (backToKw pos (keywordEach kws X.env)).filterMap (·.1) = ks := by rfl) (hdb : (x == ("__debug__" : Str)) = false := by decide)
    (he : starEach (e :: es) X.env = (false, eval e X.env) :: starEach es X.env := by rfl) (hpl : ((backTo pos (starEach (e :: es) X.env)).any (·.1) || (backToKw pos (keywordEach kws X.env)).any (·.1.isNone)) = false := by rfl) : PE X (.Call (.Name x p) (e :: es) kws pos) (evE c (cMakeK k n m F t tk)) := by
  obtain ⟨f, fd, ps, gg, hl, G, M, hm, hb⟩ := C
  refine (pe_makeK M G hr hg hm hb pass0 ha hkw hall hks hdb he hpl).imp fun σ H Q ⟨W, sl, r, cs', hH, w, s, hf, fin⟩ => ?_
  obtain ⟨as, cs1, h1, hf⟩ := bind_ok hf
  obtain ⟨bs, cs2, h2, h3⟩ := bind_ok hf
  refine ⟨W, sl, as, cs1, hH, w, s, h1, fun vs W1 w1 x1 e1 r1 => ⟨W1, sl, bs, cs2, rfl, w1, s.mono w x1, by rw [e1]; exact h2, fun us W2 w2 x2 e2 r2 => ?_⟩⟩
  cases e3 : Nat.beq (lenN as) n with
  | false =>
    simp only [e3] at h3
    cases h3
  | true =>
    simp only [e3] at h3
    cases e4 : Nat.beq (lenN bs) m with
    | false =>
      simp only [e4] at h3
      cases h3
    | true =>
      simp only [e4] at h3
      have l1 := Nat.eq_of_beq_eq_true e3
      have l2 := Nat.eq_of_beq_eq_true e4
      rw [lenN_eq] at l1 l2
      refine ⟨by rw [← r1.length]; exact l1, by rw [← r2.length, l2, hl], fun z dz hz hdz ne => ?_⟩
      rw [← e2] at h3
      exact make_ok w2 ((r1.mono w1 x2).append r2) h3 (fin.later (x1.trans x2)) hz hdz ne
end
end U
end
noncomputable section
namespace U
open PySem PySem.Spec
open PyProof.Rows L2
/-! ## list(reversed(list)) -/
section
variable {prog : Program} {w : World} {A : Around} {E : Value →
      Shared → Prop} {s : Shared}
/-- what stands at the n-th place from behind -/
abbrev RevAt (ys : Array Value) : Nat → Value → Prop := fun i v => ys[ys.size - 1 - i]? = some v
def newL (acc : Array Value) (c : Nat) : Obj := { cls := .type "list", dict := none, data := .seq acc c, slots := #[] }
theorem ext_revL {R : Result → Shared → Prop} {I l S : Addr} {ys : Array Value} {c0 : Nat}
    (hnone : A.handled = none)
    (hI : s.heap.IsRevIter I l ((ys.size : Int) - 1))
    (hL : s.heap.IsList l ys)
    (dl : l ≠ I) (dS : S ≠ I) (eS : S ≠ l)
    (hsz : ys.size ≤ sizeLine) (back : Value)
    (hS : s.heap.get? S = some (newL #[] c0))
    (hR : ∀ g tk acc c', (∀ b o, b ≠ S → b ≠ I → s.heap.get? b = some o → g.get? b = some o) → g.get? S = some (newL acc c') → ItemsOf (RevAt ys) acc ys.size →
      R (.ok (.ret back)) { s with heap := g, toks := tk }) :
    wpAny (model prog w) A.in1 (Builtin.List.listExtendWith (.ref S) (.ref I) back)
      (fun fin s' => match fin with
        | .done f => R (.ok f) s'
        | .again c' => c'.quiet = true ∧ codeAny (model prog w) A c' R s')
      (fun e s' => R (.error e) s') s := by
  have W := (Walks.listRev (prog := prog) (w := w) (A := A.in1) hnone I l dl ys).toS
  have hTy : s.TypeIs (.ref I) "list_reverseiterator" := Heap.IsRevIter.typeIs hI
  have nfp : S ∉ [I, l] := by
    intro q
    rcases List.mem_cons.mp q with q | q
    · exact dS q
    · exact eS (List.mem_singleton.mp q)
  have same : Builtin.List.listSameRef (.ref S) (.ref I) = false := by simp [Builtin.List.listSameRef, dS]
  unfold
        Builtin.List.listExtendWith
  refine wpAny_bind (wpAny_typeOf hTy ?_)
  rw [if_neg (by rw [same]; decide)]
  refine wpAny_bind (wpAny_pyIter_revIter hI ?_)
  refine
        wpAny_bind (wpAny_holding ?_)
  unfold
        Builtin.List.listLengthHint
  refine wpAny_bind (wpAny_specialOf hTy RT.nolen_lri ?_)
  show wpAny _ A.in1 (
        specialOf (Value.ref I) (Str.ofString "__length_hint__") >>= _) _ _ _
  refine wpAny_bind (wpAny_specialOf hTy RT.hint_lri ?_)
  generalize hname : ("list_reverseiterator.__length_hint__" : String) = nm
  wp_delta
  rw [show splitId nm = some ("list_reverseiterator", "__length_hint__") from by subst hname; decide +kernel]
  subst hname
  refine wpAny_bind (wpAny_isInstance (b := true) hTy (by rw [isSubtype_type]; kernel_rfl) ?_)
  refine wpAny_pure ?_
  rw [if_neg (by decide)]
  have first : ((ys.size : Nat) : Int) - 1 - ((0 : Nat) : Int) = (ys.size : Int) - 1 := by omega
  refine
        wpAny_pure ⟨plainId_quiet F.plain_extend_loop _, ?_⟩
  refine codeAny_extend_loopS W hsz _ nfp _ ys.size 0 _ _ _ rfl (Nat.zero_le _) ⟨Nat.zero_le _, by rw [first]; exact hI, hL⟩ hS (ItemsOf.nil _) fun s' acc c' mv got all => ?_
  rw [Moved.eq_with mv]
  refine hR s'.heap s'.toks acc c' (fun b o n1 n2 e => mv.heap b o (fun q => ?_) e) got all
  rcases List.mem_cons.mp q with q | q
  · exact n1 q
  · exact n2 (List.mem_singleton.mp q)
theorem init_revL {R : Result → Shared → Prop} {I l S : Addr} {ys : Array Value}
    (hnone : A.handled = none)
    (hI : s.heap.IsRevIter I l ((ys.size : Int) - 1))
    (hL : s.heap.IsList l ys)
    (dl : l ≠ I) (dS : S ≠ I) (eS : S ≠ l)
    (hsz : ys.size ≤ sizeLine)
    (hS : s.heap.get? S = some (newL #[] 0))
    (hR : ∀ g tk acc c', (∀ b o, b ≠ S → b ≠ I → s.heap.get? b = some o → g.get? b = some o) → g.get? S = some (newL acc c') → ItemsOf (RevAt ys) acc ys.size →
      R (.ok (.ret .none)) { s with heap := g, toks := tk }) :
    wpAny (
          model prog w) A.in1 (Builtin.«list.__init__» ⟨[.ref S, .ref I], []⟩)
      (fun fin s' => match fin with
        | .done f => R (.ok f) s'
        | .again c' => c'.quiet = true ∧ codeAny (model prog w) A c' R s')
      (fun e s' => R (.error e) s') s := by
  show wpAny _ _ (do
    let old ← Builtin.List.listItems (.ref S)
    Builtin.List.listUpdate (.ref S) (fun _ => #[])
    letGo old.toList.reverse
    Builtin.List.listExtendWith (.ref S) (.ref I) .none) _ _ s
  refine wpAny_bind ?_
  unfold Builtin.List.listItems
  refine
        wpAny_bind (wpAny_seqItems hS rfl (wpAny_pure ?_))
  show wpAny _ _ (updateSeq S (fun _ => #[]) >>= fun _ =>
    letGo (#[] : Array Value).toList.reverse >>= fun _ =>
    Builtin.List.listExtendWith (.ref S) (.ref I) .none) _ _ s
  refine
        wpAny_bind (wpAny_updateSeq hS rfl ?_)
  have hS2 :=
        Heap.get?_update_self (Obj.mapSeq (fun _ => (#[] : Array Value))) hS rfl
  have keep : ∀ b o, b ≠ S → s.heap.get? b = some o → (s.heap.update S (Obj.mapSeq (fun _ => (#[] : Array Value)))).get? b = some o := fun b o n e =>
    (Heap.get?_update_other _ _ (Ne.symm n)).trans e
  refine
        wpAny_bind (wpAny_letGo ?_)
  refine ext_revL hnone (hI.at fun o e => keep _ o (Ne.symm dS) e) ?_ dl dS eS hsz .none hS2 fun g tk acc c' k got all => ?_
  · obtain ⟨o, ho, r⟩ := hL
    exact ⟨o, keep _ o (Ne.symm eS) ho, r⟩
  · exact hR g tk acc c' (fun b o n1 n2 e => k b o n1 n2 (keep b o n1 e)) got all
theorem call_listRev {Q : Value → Shared → Prop} {I l : Addr} {ys : Array Value}
    (hnone : A.handled = none)
    (hI : s.heap.IsRevIter I l ((ys.size : Int) - 1))
    (hL : s.heap.IsList l ys)
    (dl : l ≠ I)
    (hsz : ys.size ≤ sizeLine)
    (hQ : ∀ g tk acc c', (∀ b o, b ≠ I → s.heap.get? b = some o → g.get? b = some o) → g.get? s.heap.objs.size = some (newL acc c') → ItemsOf (RevAt ys) acc ys.size →
      Q (.ref s.heap.objs.size) { s with heap := g, toks := tk }) :
    wpAny (
          model prog w) A (call (.type "list") [.ref I]) Q E s := by
  refine callType_codes (Q₁ := fun obj s1 => obj = .ref s.heap.objs.size ∧ s1 = { s with heap := s.heap.push (newL #[] 0) }) F.called_list (F.typeCall_list_1 _) F.entry_list_init
    (code_list_new _ ⟨rfl, rfl⟩) fun obj s1 q => ?_
  obtain ⟨rfl, rfl⟩ := q
  have hS : (s.heap.push (newL #[] 0)).get? s.heap.objs.size = some (newL #[] 0) := Heap.get?_push_size _ rfl
  have old : ∀ b o, s.heap.get? b = some o → (s.heap.push (newL #[] 0)).get? b = some o := fun b o e => Heap.get?_push_of_some _ e
  obtain ⟨oi, hoi, _⟩ := id hI
  obtain ⟨ol, hol, _⟩ := id hL
  refine
        ⟨⟨_, hS, rfl⟩, F.args_list_init_2 _ _, ?_⟩
  refine init_revL (A := A.in1) hnone (hI.at fun o e => old _ o e) (hL.push _) dl (Nat.ne_of_gt (Heap.lt_size hoi)) (Nat.ne_of_gt (Heap.lt_size hol)) hsz hS fun g tk acc c' k got all => ?_
  exact ⟨rfl, hQ g tk acc c' (fun b o n e => k b o (Nat.ne_of_lt (Heap.lt_size e)) n (old b o e)) got all⟩
end
section
variable {X : Cx}
def tListRev (K : PySem.W.Frag) (te : TE) : TE := fun σ H Q => te σ H fun v H1 => ∃ (a : Addr) (xs : List V), v = .ref a ∧ SqL K H1 a xs ∧ ∀ q, H1 q = none → Q (.ref q) (upd H1 q (.lst xs.reverse))
theorem pe_listRev {e : Expr} {te : TE} {p p2 pos pos2 : Pos} (hc : X.calm = true) (hg : Gl X "list") (hm : X.mg "list" = none) (hg2 : Gl X "reversed") (hm2 : X.mg "reversed" = none) (he : PE X e te)
    (hs : starEach [
          e] X.env = (false, eval e X.env) :: starEach [] X.env := by rfl)
    (hs2 : starEach [
          .Call (.Name "reversed" p2) [e] [] pos2] X.env = (false, eval (.Call (.Name "reversed" p2) [e] [] pos2) X.env) :: starEach [] X.env := by rfl) :
    PE X (.Call (.Name "list" p) [.Call (.Name "reversed" p2) [e] [] pos2] [] pos) (tListRev X.K te) := by
  refine
        ⟨fun pins s σ H Q I h => ?_⟩
  have inner := he.run pins s σ H _ I h
  refine Call_ (ld_blt I hg hm boot_list (PyProof.Rows.callWith_type1 (args_cons (Call_ (ld_blt I hg2 hm2 PyProof.Rows.boot_reversed (PyProof.Rows.callWith_type1 (args_cons (thn inner fun u s1 ⟨v, H1, I1, r1, q1⟩ => args_nil ?_) hs) hs rfl))) hs2) hs2 rfl))
  obtain ⟨l, xs, rfl, hq, q⟩ := q1
  obtain rfl : u =
        Value.ref l := r1
  obtain ⟨
        its, rv, p', hz⟩ := I1.list hq
  have hl := p'.isList
  refine call_reversed_list hl (args_nil ?_)
  have keep : ∀ b o, s1.heap.get? b = some o → (s1.heap.push (revObj l ((its.toArray.size : Int) - 1))).get? b = some o := fun b o e => Heap.get?_push_of_some _ e
  have I2 : Inv X pins σ H1 { s1 with heap := s1.heap.push (revObj l ((its.toArray.size : Int) - 1)) } := I1.kept (t' := s1.toks) keep
  have fo := I1.fpOk (H' := H1) (b := s1.heap.objs.size) (Nat.le_refl _) (I1.hok.fresh (Nat.le_refl _))
  obtain ⟨ol, hol, _⟩ := id hl
  have hsz : its.toArray.size ≤ sizeLine := by
    rw [List.size_toArray, ← rv.length]
    exact hz
  refine call_listRev (s := { s1 with heap := s1.heap.push (revObj l ((its.toArray.size : Int) - 1)) }) (I1.ok.hd hc) ⟨_, Heap.get?_push_size _ rfl, rfl, rfl⟩ (hl.push _) (Nat.ne_of_lt (Heap.lt_size hol)) hsz fun g tk acc c' k got all => ?_
  refine ⟨.ref (s1.heap.push (revObj l ((its.toArray.size : Int) - 1))).objs.size, upd H1 (s1.heap.push (revObj l ((its.toArray.size : Int) - 1))).objs.size (.lst xs.reverse), ?_, rfl, q _ (I2.hok.fresh (Nat.le_refl _))⟩
  refine I2.turnedNew (t' := tk) (ch := [s1.heap.objs.size]) (fun b o n e => k b o (fun z => n (by rw [z]; exact List.mem_cons_self)) e) (fun b hb => by rw [List.mem_singleton.mp hb]; exact fo) (Nat.le_refl _) ?_
  refine ⟨by rw [List.length_reverse]; exact hz, acc.toList, c', RT.vals_rev rv all, ?_⟩
  rw [Array.toArray_toList]
  exact got
end
end U
end
noncomputable section
namespace U
open PySem PySem.Spec
open PyProof.Rows L2
open AutoSeq1
  (wpAny_loadPart')
/-! ## enumerate(tuple) -/
def tupObj (ys : Array Value) (n : Nat) (dct : Option Addr) (sl : Array (Option Value)) : Obj := { cls := .type "tuple", dict := dct, data := .seq ys n, slots := sl }
def tupIt (t : Addr) : Obj := { cls := .type "tuple_iterator", data := .fields #[.ref t, .int 0 0] }
def enumOf (i : Addr) : Obj := { cls := .type "enumerate", data := .fields #[.none, .bool false, .ref i, rawInt 0, .none, .none] }
theorem meets_enumT (t : Addr) (ys : Array Value) (n : Nat) (dct : Option Addr) (sl : Array (Option Value)) :
    Meets (Builtin.«enumerate.__new__» ⟨[.type "enumerate", .ref t], []⟩) (fun _ R s => s.heap.get? t = some (tupObj ys n dct sl) ∧
      R (.ok (.ret (.ref (s.heap.push (tupIt t)).objs.size))) { s with heap := (s.heap.push (tupIt t)).push (enumOf s.heap.objs.size) }) :=
  .of_wp fun prog w A R s ⟨hl, h⟩ => by
    obtain ⟨
          hp, g, d, tk, os⟩ := s
    have hsub := sub_enumerate
    unfold tupObj at hl
    have hT : Heap.IsTuple (Shared.heap ⟨hp, g, d, tk, os⟩) t ys := ⟨_, hl, rfl, n, rfl⟩
    wp_walk using
          wpAny_loadPart' hl
    refine
          wpAny_stack_any fun st => wpAny_pure ?_
    split
    · rename_i c _ _ _ _ _
      cases (
            c == Value.type "enumerate")
      · wp_walk using wpAny_loadPart' hl, wpAny_pyIter_tuple hT
        exact ⟨_, rfl, h⟩
      · wp_walk using wpAny_loadPart' hl, wpAny_pyIter_tuple hT
        exact ⟨_, rfl, h⟩
    · wp_walk using wpAny_loadPart' hl, wpAny_pyIter_tuple hT
      exact ⟨_, rfl, h⟩
theorem call_enumT {prog : Program} {w : World} {A : Around} {E : Value → Shared → Prop} {s : Shared} {t : Addr} {ys : Array Value} {Q : Value → Shared → Prop} (hT : s.heap.IsTuple t ys)
    (h : ∀ g, IsEnum g (s.heap.objs.size + 1) s.heap.objs.size 0 .none → g.IsTupleIter s.heap.objs.size t 0 → (∀ b o, s.heap.get? b = some o → g.get? b = some o) → Q (.ref (s.heap.objs.size + 1)) { s with heap := g }) :
    wpAny (model prog w) A (call (.type "enumerate") [.ref t]) Q E s := by
  obtain ⟨⟨c, dct, dt, sl⟩, hl, hc, n, hd⟩ := hT
  replace hc : c = .type "tuple" := hc
  replace hd : dt = .seq ys n := hd
  subst hc hd
  refine
        callType_new F.called_enumerate (by decide) (F.typeCall_enumerate_1 _) (F.newCall_enumerate_1 _) (fun obj => F.args_object_init_2 obj _) F.entry_enumerate_new
    (meets_enumT t ys n dct sl) ⟨hl, ?_⟩
  have hz : (s.heap.push (tupIt t)).objs.size = s.heap.objs.size + 1 := Heap.size_push ..
  show _ ∧ _
  rw [hz]
  have he : IsEnum ((s.heap.push (tupIt t)).push (enumOf s.heap.objs.size)) (s.heap.objs.size + 1) s.heap.objs.size 0 .none := by
    have q := Heap.get?_push_size (s.heap.push (tupIt t)) (o := enumOf s.heap.objs.size) rfl
    rw [hz] at q
    exact q
  exact ⟨⟨_, he, rfl⟩, h _ he ⟨_, Heap.get?_push_of_some _ (Heap.get?_push_size _ rfl), rfl, rfl⟩ fun b o y => Heap.get?_push_of_some _ (Heap.get?_push_of_some _ y)⟩
/-- a tuple of n items, each in a new pair -/
def IteT (K : PySem.W.Frag) (a : Addr) (n : Nat) : It :=
  ⟨fun i H => i < n ∧ ∃ (xs : List V) (x : V), SqT K H a xs ∧ xs.length = n ∧ xs[i]? = some x,
   fun i H v H' => ∃ T x, v = .ref T ∧ H T = none ∧ H' = upd H T (.tup [.int (i : Nat), x]) ∧ ∀ xs, SqT K H a xs → xs[i]? = some x,
   fun i H => n ≤ i ∧ ∃ xs : List V, SqT K H a xs ∧ xs.length = n⟩
theorem turn_enumT {P : Program} {w : World} {K : PySem.W.Frag} {elts : List Expr} {kk : Nat} {tpos : Pos} (a e it : Addr) (n : Nat) :
    Turn P w K (.Tuple elts kk tpos) (IteT K a n) [e, it] e (fun i h => i ≤ n ∧ (∃ old, IsEnum h e it ((i : Nat) : Int) old) ∧ h.IsTupleIter it a i ∧ e ≠ it ∧ a ≠ it ∧ e ≠ a) where
  mem := by simp
  obj := fun i h ⟨_, ⟨old, he⟩, ⟨o, ho, hc, hd⟩, _⟩ b hb => by
    have two : b = e ∨ b = it := by simpa using hb
    rcases two with z | z
    · rw [z]
      exact ⟨_, he, fun v q => nomatch q⟩
    · rw [z]
      exact ⟨o, ho, fun v q => by
        rw [hd] at q
        cases q⟩
  keep := fun i h h' ⟨l, ⟨old, he⟩, hi, r⟩ k => ⟨l, ⟨old, k e (by simp) _ he⟩, hi.at fun o q => k it (by simp) o q, r⟩
  item := by
    intro X hP hw hK hc i pins s σ H E I hf ⟨_, ⟨old, he⟩, hit, n1, n2, n3⟩ ⟨hin, xs, x, hq, hn, hx⟩
    subst hP hw hK
    obtain ⟨
          its, rv, p, hz⟩ := I.tuple hq
    have hsz : its.toArray.size = n := by
      rw [List.size_toArray, ← rv.length]
      exact hn
    have hel : e <
          s.heap.objs.size := Heap.lt_size he
    have hil : it < s.heap.objs.size := by
      obtain ⟨_, q, _⟩ := hit
      exact Heap.lt_size q
    have D := Draws.tuple (prog := X.prog) (w := X.w) (A := X.A.in1) (show X.A.in1.handled = none from I.ok.hd hc) it a n2 its.toArray
    have nfp : e ∉ [it, a] := by
      intro q
      rcases List.mem_cons.mp q with q | q
      · exact n1 q
      · exact n3 (List.mem_singleton.mp q)
    refine wpAny_pyNext_enum_itemD D he ⟨hit, p⟩ (by omega) n1 nfp fun y h' tk hy ho st' hT hsz' hk => ?_
    obtain ⟨
          u, hu, ru⟩ := rv.get hx
    have ey : y = u := by
      have q : its[i]? = some y := by simpa using hy
      rw [hu] at q
      exact
            (Option.some.inj q).symm
    subst ey
    refine ⟨_, rfl, wpAny_letOwnedTupleGo_enum (s := { s with heap := h', toks := tk + 1 }) ho fun h'' he' sb => ?_⟩
    have hT2 : h''.get? s.heap.objs.size = some { cls := .type "tuple", data := .seq #[.int i tk, y] } := (sb.2 _ (Nat.ne_of_gt hel)).trans hT
    have new : ObjOk X.prog X.w (
          upd H s.heap.objs.size (.tup [.int (i : Nat), x])) h'' s.heap.objs.size (.tup [.int (i : Nat), x]) :=
      ⟨by show 2 ≤ sizeLine; decide, [.int i tk, y], .cons ⟨_, rfl⟩ (.cons ru .nil), ⟨_, hT2, rfl, _, rfl⟩⟩
    have I1 : Inv X pins σ (upd H s.heap.objs.size (.tup [.int (i : Nat), x])) { s with heap := h'', toks := tk + 1 } :=
      I.turnedNew (
            ch := [e, it]) (fun b ob hb q => (sb.2 b (fun z => hb (by simp [z]))).trans (hk b ob (fun z => hb (by simp [z])) (fun z => hb (by simp [z])) q)) hf (Nat.le_refl _) new
    refine ⟨.ref s.heap.objs.size, _, I1, rfl, ⟨_, x, rfl, I.hok.fresh (Nat.le_refl _), rfl, fun ys hy => by rw [I.tuple_inj hy hq]; exact hx⟩, ⟨hin, ⟨y, ?_⟩, st'.1.at fun o q => (sb.2 it (Ne.symm n1)).trans q, n1, n2, n3⟩, fun b hb => ?_⟩
    · have e1 : (
          (i + 1 : Nat) : Int) = (i : Int) + 1 := by omega
      rw [e1]
      exact he'
    · have hb' : b <
          s.heap.objs.size := by
        have two : b = e ∨ b = it := by simpa using hb
        rcases two with z | z
        · rw [z]
          exact hel
        · rw [z]
          exact hil
      rw [
            upd_ne (Nat.ne_of_lt hb')]
      exact (hf b hb).1
  done := by
    intro X hP hw hK hc i pins s σ H E I hf ⟨hle, ⟨old, he⟩, hit, n1, n2, n3⟩ ⟨hge, xs, hq, hn⟩
    subst hP hw hK
    obtain ⟨
          its, rv, p, hz⟩ := I.tuple hq
    have hsz : its.toArray.size = n := by
      rw [List.size_toArray, ← rv.length]
      exact hn
    have hi : i = its.toArray.size := by omega
    obtain ⟨
          f0, f1, f2, f3, f4, f5⟩ := hf it (by simp)
    have D := Draws.tuple (prog := X.prog) (w := X.w) (A := X.A.in1) (show X.A.in1.handled = none from I.ok.hd hc) it a n2 its.toArray
    rw [hi] at hit
    exact wpAny_pyNext_enum_endD D he ⟨hit, p⟩ fun h' eb => ⟨rfl, I.turned (t' := s.toks) (fun b o hb q => eb b o hb q) f0 f1 f3 f4 f5⟩
  self := fun A i s Q E ⟨_, ⟨_, he⟩, _⟩ h => wpAny_pyIter_enum he h
def iEnumT (K : PySem.W.Frag) (te : TE) : TI := fun σ H R => te σ H fun v H1 => ∃ a xs, v = .ref a ∧ SqT K H1 a xs ∧ R (IteT K a xs.length) H1
theorem pi_enumT {X : Cx} {e : Expr} {te : TE} {p pos tpos : Pos} {elts : List Expr} {kk : Nat} (hg : Gl X "enumerate") (hm : X.mg "enumerate" = none) (he : PE X e te) (hs : starEach [e] X.env = (false, eval e X.env) :: starEach [] X.env := by rfl) :
    PI X (.Tuple elts kk tpos) (.Call (.Name "enumerate" p) [e] [] pos) (iEnumT X.K te) := by
  refine
        ⟨fun pins s σ H R I h => ?_⟩
  have inner := he.run pins s σ H _ I h
  refine Call_ (ld_blt I hg hm boot_enumerate (PyProof.Rows.callWith_type1 (args_cons (thn inner fun u s1 ⟨v, H1, I1, r1, q1⟩ => args_nil ?_) hs) hs rfl))
  obtain ⟨a, xs, rfl, hq, q⟩ := q1
  obtain rfl : u =
        Value.ref a := r1
  obtain ⟨its, rv, p', hz⟩ := I1.tuple hq
  have hal := p'.lt
  refine call_enumT p' fun g hE hit hk => wpAny_pyIter_enum hE ?_
  have I2 : Inv X pins σ H1 { s1 with heap := g } := I1.kept (t' := s1.toks) hk
  refine ⟨s1.heap.objs.size + 1, [s1.heap.objs.size + 1, s1.heap.objs.size], _, _, H1, rfl, I2, turn_enumT a (s1.heap.objs.size + 1) s1.heap.objs.size xs.length, ⟨Nat.zero_le _, ⟨.none, hE⟩, hit, Nat.succ_ne_self _, Nat.ne_of_lt hal, Nat.ne_of_gt (Nat.lt_succ_of_lt hal)⟩, fun b hb => ?_, q⟩
  have two : b = s1.heap.objs.size + 1 ∨ b = s1.heap.objs.size := by simpa using hb
  have hle : s1.heap.objs.size ≤
        b := by
    rcases two with z | z
    · rw [z]
      exact Nat.le_add_right _ _
    · rw [z]
      exact Nat.le_refl _
  exact
        I1.fpOk hle (I1.hok.fresh hle)
end U
end
noncomputable section
namespace U
open PySem PySem.Spec
open PyProof.Rows L2
/-! ## max(tuple of ints) -/
section
variable {prog : Program} {w : World} {A : Around} {E : Value →
      Shared → Prop} {s : Shared}
theorem max_tupI {t : Addr} {ys : Array (Int × Tok)} {Q : Value → Shared → Prop} (hnone : A.handled = none) (hT : s.heap.IsTuple t (intItems ys)) (pos : 0 < ys.size)
    (h : ∀ v g tk, (intItems ys)[argBest (fun i j => decide (numAt ys i > numAt ys j)) (ys.size - 1)]? = some v → (∀ b o, s.heap.get? b = some o → g.get? b = some o) → Q v { s with heap := g, toks := tk }) :
    wpAny (model prog w) A (call (.builtin "max") [.ref t]) Q E s := by
  obtain ⟨o, ho, _⟩ := id hT
  have lt := Heap.lt_size ho
  refine call_max_walk (wpAny_pyIter_tuple hT ?_)
  refine ⟨s.heap.objs.size, _, _, _, _, _, _, rfl, Walks.tuple (A := A.in1) hnone s.heap.objs.size t (Nat.ne_of_lt lt) (intItems ys), ⟨⟨_, Heap.get?_push_size _ rfl, rfl, rfl⟩, hT.push _⟩, fun b hb => ?_, by simpa [intItems] using pos, CmpOf.ints_gt (numAt ys) (fun _ _ => intItems_at), fun v g tk hv hk => ?_⟩
  · show b <
        (s.heap.push _).objs.size
    rw [Heap.size_push]
    have two : b = s.heap.objs.size ∨ b = t := by simpa using hb
    rcases two with z | z
    · rw [z]
      exact Nat.lt_succ_self _
    · rw [z]
      exact Nat.lt_succ_of_lt lt
  · refine h v g tk (by simpa [intItems] using hv) fun b o e => ?_
    refine hk b o (fun q => ?_) (Heap.get?_push_of_some _ e)
    have z : b = s.heap.objs.size := by simpa using q
    have q2 := Heap.lt_size e
    rw [z] at q2
    exact Nat.lt_irrefl _ q2
theorem max_tup {t : Addr} {its : List Value} {ns : List Int} {Q : Value → Shared → Prop} (hnone : A.handled = none) (hT : IsTup s.heap t its.toArray) (hi : IntsAre its ns) (pos : 0 < ns.length)
    (h : ∀ g tk m t', (∀ b o, s.heap.get? b = some o → g.get? b = some o) → m ∈ ns → (∀ a, a ∈ ns → a ≤ m) → Q (.int m t') { s with heap := g, toks := tk }) : wpAny (model prog w) A (call (.builtin "max") [.ref t]) Q E s := by
  obtain ⟨ys, e⟩ := hi.allInts.items
  have en : numsOf (intItems ys).toList = ns := by
    rw [← e]
    exact hi.numsOf
  rw [nums_intItems] at en
  subst en
  rw [e] at hT
  have sz : 0 < ys.size := by simpa using pos
  refine max_tupI hnone hT sz fun v g tk hv hk => ?_
  obtain ⟨t', rfl⟩ := intItems_at hv
  obtain ⟨b1, b2⟩ := argBest_gt (numAt ys) (ys.size - 1)
  refine h g tk _ t' hk ?_ fun a ha => ?_
  · rw [numAt_eq]
    refine PySem.getD_mem ?_
    rw [
          List.length_map, Array.length_toList]
    omega
  · obtain ⟨
        j, hj, rfl⟩ := mem_getD ha
    rw [
          List.length_map, Array.length_toList] at hj
    rw [← numAt_eq]
    exact b2 j (by omega)
end
section
variable {X : Cx}
def rMaxT (K : PySem.W.Frag) : List V → Hp → VK → Prop := fun vs H Q => ∃ (a : Addr) (ns : List Int), vs = [V.ref a] ∧ SqT K H a (ns.map V.int) ∧ 0 < ns.length ∧ ∀ m, m ∈ ns → (∀ y, y ∈ ns → y ≤ m) → Q (.int m) H
theorem cr_maxT (hc : X.calm = true) : CallR X (.builtin "max") (rMaxT X.K) := fun pins s σ H vs us Q I r ⟨a, ns, ev, hs, pos, q⟩ => by
  subst ev
  obtain ⟨its, rv, p, _⟩ := I.tuple hs
  rw [Vals.ref1 r]
  exact max_tup (I.ok.hd hc) p rv.ints pos fun g tk m t' hk h1 h2 => ⟨.int _, H, I.kept hk, ⟨_, rfl⟩, q m h1 h2⟩
end
end U
end
noncomputable section
namespace U
open PySem PySem.Spec
open PyProof.Rows L2
/-! ## len(set(texts that are apart)) -/
/-- the first i of them -/
abbrev amid (ts : List Str) (i : Nat) : Str → Bool := fun y => (ts.take i).any (· == y)
theorem amid_next {ts : List Str} (nd : ts.Nodup) {i : Nat} (hi : i < ts.length) : amid ts i (ts.getD i Str.empty) = false ∧ ∀ y, (amid ts i y || decide (y = ts.getD i Str.empty)) = amid ts (i + 1) y := by
  have eg : ts.getD i Str.empty = ts[i] := by rw [List.getD_eq_getElem?_getD, List.getElem?_eq_getElem hi, Option.getD_some]
  refine ⟨?_, fun y => ?_⟩
  · rw [eg]
    cases q : amid ts i ts[i] with
    | false => rfl
    | true =>
      obtain ⟨z, hz, e⟩ := List.any_eq_true.mp q
      have ez : z = ts[i] := by simpa using e
      rw [ez] at hz
      obtain ⟨j, hj, ej⟩ := List.mem_take_iff_getElem.mp hz
      have := (List.getElem_inj nd).mp ej
      omega
  · show ((ts.take i).any (· == y) || _) = (ts.take (i + 1)).any (· == y)
    rw [List.take_succ_eq_append_getElem hi, List.any_append, eg]
    simp only [List.any_cons, List.any_nil, Bool.or_false]
    congr 1
    rw [Bool.eq_iff_iff]
    simp only [decide_eq_true_eq, beq_iff_eq]
    exact ⟨fun z => z.symm, fun z => z.symm⟩
section
variable {prog : Program} {w : World} {A : Around} {R : Result →
      Shared → Prop} {I : Addr} {fp wr : List Addr} {G : Array GenState → Array GenState → Prop} {n : Nat} {P : Nat → Value → Prop} {St : Nat → Shared → Prop}
abbrev kdS (prog : Program) (w : World) := PySem.strKind prog w
theorem loopNd (W : WalksS prog w A.in1 I fp wr G n P St) {S : Addr} (hS : S ∉ fp) {ts : List Str} (hn : ts.length = n) (nd : ts.Nodup) (room : n + 1 < scanBound)
    (val : ∀ i v, P i v → ∃ t, v = .str (ts.getD i Str.empty) t) (done : Shared → Prop) :
    ∀ (left i : Nat) (s : Shared), n - i = left → i ≤ n → St i s → s.heap.SetOf (kdS prog w) S (amid ts i) i →
      (∀ s', Moved (S :: wr) G s s' → s'.heap.SetOf (kdS prog w) S (amid ts n) n → R (.ok (.ret .none)) s') →
      codeAny (
            model prog w) A (.builtin "set.update.loop" ⟨[.ref S, .ref I], []⟩) R s := by
  have nw : S ∉ wr := fun q => hS (W.sub _ q)
  have up : ∀ b ∈ wr, b ∈ S :: wr := fun b q => List.mem_cons_of_mem _ q
  intro left
  induction left with
  | zero =>
    intro i s e0 hi st so k
    obtain rfl : i = n := by omega
    refine
          codeAny_builtin PyProof.Rows.F.entry_set_update_loop ?_
    rw [
          Around.under_plainId PyProof.Rows.F.plain_set_update_loop _]
    show wpAny _ A.in1 (
          pyNext (.ref I) >>= _) _ _ s
    refine wpAny_bind (W.done s _ _ st fun s' mv => ?_)
    show wpAny _ A.in1 (
          ret Value.none) _ _ s'
    refine wpAny_pure (k s' (mv.mono up) ?_)
    obtain ⟨o, es, ep, t, ho, more⟩ := so
    exact ⟨o, es, ep, t, mv.heap S _ nw ho, more⟩
  | succ left ih =>
    intro i s e0 hi st so k
    have lt : i < n := by omega
    obtain ⟨new, nx⟩ := amid_next nd (i := i) (by omega)
    refine
          codeAny_builtin PyProof.Rows.F.entry_set_update_loop ?_
    rw [
          Around.under_plainId PyProof.Rows.F.plain_set_update_loop _]
    show wpAny _ A.in1 (
          pyNext (.ref I) >>= _) _ _ s
    refine wpAny_bind (W.item i s _ _ lt st fun v s' hv st' mv => ?_)
    obtain ⟨t, rfl⟩ := val i v hv
    have so' : s'.heap.SetOf (kdS prog w) S (amid ts i) i := by
      obtain ⟨o, es, ep, tb, ho, more⟩ := so
      exact ⟨o, es, ep, tb, mv.heap S _ nw ho, more⟩
    show wpAny _ A.in1 (holding [Value.str (ts.getD i Str.empty) t] (setAdd S (.str (ts.getD i Str.empty) t)) >>= _) _ _ s'
    refine
          wpAny_bind (wpAny_holding ?_)
    unfold setAdd
    refine wpAny_holding ?_
    refine wpAny_bind ((kdS prog w).pyHash (k := ts.getD i Str.empty) (strKind_is _ _ _ _) ?_)
    refine wpAny_setAddHashed_of (knd := kdS prog w) (s := { s' with toks := s'.toks + 1 }) (strKind_is _ _ _ _) rfl so' (by omega) fun g sb so2 => ?_
    have so3 : g.SetOf (kdS prog w) S (amid ts (i + 1)) (i + 1) := SetOf_congr so2 nx (by rw [new]; rfl)
    refine wpAny_pure ⟨plainId_quiet PyProof.Rows.F.plain_set_update_loop _, ?_⟩
    refine ih (i + 1) _ (by omega) lt (W.frame _ s' _ _ st' (Nat.le_succ _) fun b hb o e => ?_) so3 fun s2 mv2 so4 => ?_
    · rw [sb.2 b fun z => hS (z ▸ hb)]
      exact e
    · refine k s2 (Moved.trans W.gtrans ((mv.mono up).then_heap (Nat.le_succ _) fun b o hb e => ?_) mv2) so4
      rw [sb.2 b fun z => hb (by rw [z]; exact List.mem_cons_self)]
      exact e
end
section
variable {prog : Program} {w : World} {A : Around} {E : Value →
      Shared → Prop} {s : Shared}
def set0 (led : Bool) : Obj := { cls := .type "set", dict := none, data := .set #[] 0 (.fresh 0 0 led) }
theorem call_setNd {l : Addr} {ys : Array Value} {ts : List Str} {Q : Value → Shared → Prop} (hnone : A.handled = none) (hL : s.heap.IsList l ys) (hT : PyProof.Rows.StrsAre ys.toList ts) (nd : ts.Nodup) (room : ts.length + 1 < scanBound)
    (k : ∀ (g : Heap) (tk : Nat), g.SetOf (kdS prog w) s.heap.objs.size (amid ts ts.length) ts.length → (∀ b o, b < s.heap.objs.size → s.heap.get? b = some o → g.get? b = some o) → Q (.ref s.heap.objs.size) { s with heap := g, toks := tk }) :
    wpAny (
          model prog w) A (call (.type "set") [.ref l]) Q E s := by
  obtain ⟨c0, tl0, mro⟩ := PySem.F.called_set.mro
  have made := PySem.F.called_set.made
  have isub := PySem.F.called_set.sub
  refine
        wpAny_call (codeAny_of_tree ?_)
  show wpAny _ _ (
        callAny (.type "set") _) _ _ _
  refine
        wpAny_pure ⟨Code.quiet_builtin _ (by decide +kernel), codeAny_builtin PySem.F.entry_type_call ?_⟩
  rw [
        Around.under_plain (weight_type_call_type "set" [.ref l] []) rfl]
  have q1 := PySem.F.called_set.notType
  have q2 := PySem.F.called_set.canCreate
  have q3 := PySem.F.typeCall_set_1 (.ref l)
  repeat (
        any_goals (first | assumption | wp_step))
  refine codeAny_mono (code_set_new_1 (.ref l) (E := E) (Q₁ := fun v s1 => ∃ led : Bool, v = .ref s.heap.objs.size ∧ s1 = { s with heap := s.heap.push (set0 led) }) fun led => ⟨led, rfl, rfl⟩) fun r s1 hr => ?_
  cases r with
  | error e => exact hr
  | ok fl =>
    cases fl with
    | ret v =>
      obtain ⟨led, rfl, rfl⟩ := hr
      have got : (s.heap.push (set0 led)).get? s.heap.objs.size = some (set0 led) := Heap.get?_push_size _ rfl
      have ty : Shared.TypeIs { s with heap := s.heap.push (set0 led) } (.ref s.heap.objs.size) "set" := ⟨_, got, rfl⟩
      have q4 := PySem.F.called_set.init.lookup
      have q5 := PySem.F.called_set.init.bind (.ref s.heap.objs.size)
      repeat (
            any_goals (first | assumption | wp_step))
      refine codeAny_mono (codeAny_call_builtin (R := wants (fun r s2 => r = .none ∧ ∃ g tk, s2 = { s with heap := g, toks := tk } ∧ g.SetOf (kdS prog w) s.heap.objs.size (amid ts ts.length) ts.length ∧
        (∀ b o, b < s.heap.objs.size → s.heap.get? b = some o → g.get? b = some o)) E) PySem.F.called_set.init.plain PySem.F.entry_set_init (check_set_init_1 ty ?_)) fun r2 s2 hr2 => ?_
      · obtain ⟨⟨ocls, odict, odata, oslots⟩, hol, hcl, nl, hdl⟩ := hL
        replace hcl : ocls = .type "list" := hcl
        replace hdl : odata = .seq ys nl := hdl
        subst hcl hdl
        have hol2 : (s.heap.push (set0 led)).get? l = some { cls := .type "list", dict := odict, data := .seq ys nl, slots := oslots } := Heap.get?_push_of_some _ hol
        unfold set0 at got ty hol2
        have n1 := PySem.F.sub_list_set
        have n2 := PySem.F.sub_list_frozenset
        have n3 : (Value.type "list" == Value.type "dict") = false := by decide
        have L1 : (s.heap.push { cls := .type "set", dict := none, data := .set #[] 0 (.fresh 0 0 led) }).IsList l ys := ⟨_, hol2, rfl, nl, rfl⟩
        unfold Builtin.«set.__init__» noKeywords Builtin.Frozenset.updateFrom set0
        generalize eIt : pyIter = It
        wp_walk
        subst eIt
        refine wpAny_pyIter_list L1 ?_
        refine
              wpAny_bind (wpAny_runValue ?_)
        have lS : l < s.heap.objs.size := Heap.lt_size hol
        have h3 : A.in1.in1.in1.handled = none := by simp [hnone]
        have szp : (s.heap.push (set0 led)).objs.size = s.heap.objs.size + 1 := Heap.size_push ..
        have ne : l ≠ (s.heap.push (set0 led)).objs.size := by
          rw [szp]
          exact Nat.ne_of_lt (Nat.lt_succ_of_lt lS)
        have out : s.heap.objs.size ∉ [(s.heap.push (set0 led)).objs.size, l] := fun q => by
          rw [szp] at q
          rcases List.mem_cons.mp q with q | q
          · exact Nat.ne_of_lt (Nat.lt_succ_self _) q
          · exact Nat.ne_of_gt lS (List.mem_singleton.mp q)
        have len : ts.length = ys.size := by rw [← StrsAre.len_eq hT, Array.length_toList]
        refine loopNd ((Walks.list h3 (s.heap.push (set0 led)).objs.size l ne ys).toS) out len nd (by omega) (fun i v hv => SS.strs_at hT i v (by rw [Array.getElem?_toList]; exact hv)) (fun _ => True) (ys.size - 0) 0 _ (by omega) (Nat.zero_le _)
          ⟨⟨_, Heap.get?_push_size _ rfl, rfl, rfl⟩, L1.push _⟩ ?start ?fin
        case start =>
          refine PyProof.Rows.SetOf_congr ((PyProof.Rows.setObjOf_fresh (knd := kdS prog w) led).setOf (Heap.get?_push_of_some _ got) (by unfold scanBound; omega)) (fun _ => rfl) rfl
        case fin =>
          intro s3 mv so
          obtain ⟨g, g', d', tk', os'⟩ := s3
          obtain rfl : g' = s.gens := mv.gens
          obtain rfl : d' = s.drawn := mv.drawn
          obtain rfl : os' = s.os := mv.os
          show wpAny _ _ _ _ _ _
          refine wpAny_pure ?_
          show wpAny _ _ (
                ret Value.none) _ _ _
          rw [← len] at so
          refine wpAny_pure ⟨rfl, g, tk', rfl, so, fun b o hb e => mv.heap b o (fun q => ?_) (Heap.get?_push_of_some _ (Heap.get?_push_of_some _ e))⟩
          rcases List.mem_cons.mp q with q | q
          · exact Nat.ne_of_lt hb q
          · have q2 := List.mem_singleton.mp q
            rw [szp] at q2
            exact Nat.ne_of_lt (Nat.lt_succ_of_lt hb) q2
      · cases r2 with
        | error e => exact hr2
        | ok fl2 =>
          cases fl2 with
          | ret r =>
            obtain ⟨rfl, g, tk, rfl, so, keep⟩ := hr2
            repeat (
                  any_goals (first | assumption | wp_step))
            exact k _ _ so keep
          | _ => exact hr2.elim
    | _ => exact hr.elim
end
section
variable {X : Cx}
/-- len(set(xs)), xs a list of texts that are apart -/
def tLenNd (K : PySem.W.Frag) (ta : TE) : TE := fun σ H Q => ta σ H fun x H1 => ∃ l, ∃ ts : List Str, x = .ref l ∧ SqL K H1 l (ts.map V.str) ∧ ts.Nodup ∧ ts.length + 1 < scanBound ∧ Q (.int ts.length) H1
theorem pe_lenNd {a : Expr} {ta : TE} {p p2 q pos : Pos} (hc : X.calm = true) (hg : Gl X "len") (hm : X.mg "len" = none) (hg2 : Gl X "set") (hm2 : X.mg "set" = none) (ha : PE X a ta)
    (na : starEach [a] X.env = (false, eval a X.env) :: starEach [] X.env := by rfl) : PE X (.Call (.Name "len" p) [.Call (.Name "set" p2) [a] [] q] [] pos) (tLenNd X.K ta) := by
  refine
        ⟨fun pins s σ H Q I h => ?_⟩
  have inner := ha.run pins s σ H _ I h
  refine Call_ (ld_blt I hg hm boot_len (PyProof.Rows.callWith_builtin1 (PyProof.Rows.args_cons (Call_ (ld_blt I hg2 hm2 boot_set ?_)) rfl) rfl rfl))
  refine PyProof.Rows.callWith_type1 (PyProof.Rows.args_cons (thn inner fun v s1 ⟨x, H1, I1, r1, q1⟩ => PyProof.Rows.args_nil ?_) na) na rfl
  obtain ⟨l, ts, rfl, hq, nd, room, q2⟩ := q1
  cases r1
  obtain ⟨
        its, r, pl, hz⟩ := I1.list hq
  refine call_setNd (I1.ok.hd hc) pl.isList (by simpa using strsAre_of r) nd room fun g tk so keep => PyProof.Rows.args_nil ?_
  obtain ⟨o, es, ep, t, ho, hex, hd, _, _, _, hf, hn⟩ := so
  have I2 : Inv X pins σ H1 { s1 with heap := g, toks := tk } := I1.kept fun b o e => keep b o (Heap.lt_size e) e
  exact call_len_set ho hex hd hf (by rw [hn]; unfold scanBound at room; omega) ⟨.int ts.length, H1, I2.tok _, ⟨_, by rw [hn]⟩, q2⟩
end
end U
end
noncomputable section
namespace U
open PySem PySem.Spec
open PyProof.Rows L2
abbrev ct (ρ : Rho) (K : PySem.W.Frag) (cl : Nat → Addr) : Ct := ⟨ρ, K, cl⟩
def scopeOf (e : Expr) : Scope := match e with
  | .ListComp _ _ s _ => s
  | _ => { kind :=
        .function, names := [], isGenerator := false, isCoroutine := false }
def stVal (s : Stmt) : Expr := match s with
  | .Assign _ v _ => v
  | _ => .Constant .none 0 ⟨0, 0, 0, 0⟩
theorem u65 {k : Nat} {A : Around} (r : Room k A) : A.units + 65 < cLine := by
  have := r.un
  omega
section
variable {c : Ct} {X : Cx} {e a b : Expr} {pos p : Pos} {f g : Ex}
def gNeg : Op1 := fun a cs => match a with
  | .int i => okI (-i) cs
  | _ => .err
theorem o_neg : UnR X (unaryOp .USub) (ev1 c gNeg) := fun pins s σ H x v Q I rx ⟨W, a, r, cs', hH, w, ra, hg, fin⟩ => by
  subst hH
  refine un_neg pins s σ W.H x v Q I rx ?_
  cases a with
  | int i =>
    obtain ⟨rfl, rfl⟩ := okI_ok hg
    exact ⟨i, rep_int ra, fin.here w (.int _)⟩
  | _ => cases hg
/-- list(reversed(x)) -/
def gRev : Op1 := fun a cs => match itL a cs with
  | some xs => okLst xs.reverse cs
  | none => .err
theorem reps_rev {W : Wd} : ∀ {as : List AV} {vs : List V}, Reps c W as vs → Reps c W as.reverse vs.reverse
  | _, _, .nil => .nil
  | a :: as, v :: vs, .cons r t => by
    rw [
          List.reverse_cons, List.reverse_cons]
    exact (reps_rev t).append (.cons r .nil)
theorem r_listRev {p2 pos2 : Pos} (hm : X.mg "list" = none) (hm2 : X.mg "reversed" = none) (he : PE X e (evE c f)) (hg : Gl X "list" := by rfl) (hg2 : Gl X "reversed" := by rfl) (hc : X.calm = true := by rfl)
    (hs : starEach [
          e] X.env = (false, eval e X.env) :: starEach [] X.env := by rfl)
    (hs2 : starEach [
          .Call (.Name "reversed" p2) [e] [] pos2] X.env = (false, eval (.Call (.Name "reversed" p2) [e] [] pos2) X.env) :: starEach [] X.env := by rfl) :
    PE X (.Call (.Name "list" p) [.Call (.Name "reversed" p2) [e] [] pos2] [] pos) (evE c (cUn gRev f)) := (pe_listRev hc hg hm hg2 hm2 he hs hs2).imp fun σ H Q ⟨W, sl, r, cs', hH, w, s, hf, k⟩ => by
  obtain ⟨a1, cs1, h1, h2⟩ := bind_ok hf
  refine ⟨W, sl, a1, cs1, hH, w, s, h1, fun v W1 w1 x1 e1 r1 => ?_⟩
  unfold gRev at h2
  rw [← e1] at h2
  cases e2 : itL a1 W1.cs with
  | none =>
    rw [e2] at h2
    cases h2
  | some xs =>
    rw [e2] at h2
    obtain ⟨p, vs, rfl, g1, g2⟩ := itL_ok w1 r1 e2
    exact ⟨p, vs, rfl, SqL.of g1, (fin_lst w1 (reps_rev g2) h2 (k.later x1)).2⟩
/-- len(set(x)) of texts that are apart -/
def ndS : List AV → Bool
  | [] => true
  | a :: r => match a with
    | .str n => (match ndS r with
      | true => r.all fun b => match b with
        | .str m => !Nat.beq n m
        | _ => false
      | false => false)
    | _ => false
def gLenSet : Op1 := fun a cs => match itL a cs with
  | some xs => (match ndS xs with
    | true => (match shr 100 xs with
      | true => okI (.ofNat (lenN xs)) cs
      | false => .err)
    | false => .err)
  | none => .err
theorem ndS_ok {W : Wd} : ∀ {as : List AV} {vs : List V}, Reps c W as vs → ndS as = true → ∃ ns : List Nat, as = ns.map AV.str ∧ vs = (ns.map tbl).map V.str ∧ ns.Nodup ∧ ∀ n ∈ ns, n < nStr
  | _, _, .nil, _ => ⟨[], rfl, rfl, .nil, fun _ h => nomatch h⟩
  | a :: as, v :: vs, .cons r t, h => by
    unfold ndS at h
    cases a with
    | str n =>
      simp only at h
      cases e : ndS as with
      | false =>
        rw [e] at h
        cases h
      | true =>
        rw [e] at h
        obtain ⟨ns, rfl, rfl, nd, lt⟩ := ndS_ok t e
        cases r with
        | str _ hn =>
          refine ⟨n :: ns, rfl, rfl, List.nodup_cons.mpr ⟨fun q => ?_, nd⟩, fun m hm => ?_⟩
          · have h' := List.all_eq_true.mp h (.str n) (List.mem_map_of_mem q)
            simp at h'
          · rcases List.mem_cons.mp hm with z | z
            · rw [z]
              exact hn
            · exact lt m z
    | _ => cases h
theorem nodup_tbl : ∀ {ns : List Nat}, ns.Nodup → (∀ n ∈ ns, n < nStr) → (ns.map tbl).Nodup
  | [], _, _ => .nil
  | n :: ns, nd, lt => by
    obtain ⟨h1, h2⟩ := List.nodup_cons.mp nd
    rw [List.map_cons]
    refine List.nodup_cons.mpr ⟨fun q => ?_, nodup_tbl h2 fun m hm => lt m (List.mem_cons_of_mem _ hm)⟩
    obtain ⟨m, hm, e⟩ := List.mem_map.mp q
    rw [tbl_inj (lt m (List.mem_cons_of_mem _ hm)) (lt n List.mem_cons_self) e] at hm
    exact h1 hm
theorem r_lenSet {p2 pos2 : Pos} (hm : X.mg "len" = none) (hm2 : X.mg "set" = none) (he : PE X e (evE c f)) (hg : Gl X "len" := by rfl) (hg2 : Gl X "set" := by rfl) (hc : X.calm = true := by rfl)
    (na : starEach [e] X.env = (false, eval e X.env) :: starEach [] X.env := by rfl) : PE X (.Call (.Name "len" p) [.Call (.Name "set" p2) [e] [] pos2] [] pos) (evE c (cUn gLenSet f)) := (pe_lenNd hc hg hm hg2 hm2 he na).imp fun σ H Q ⟨W, sl, r, cs', hH, w, s, hf, k⟩ => by
  obtain ⟨a1, cs1, h1, h2⟩ := bind_ok hf
  refine ⟨W, sl, a1, cs1, hH, w, s, h1, fun v W1 w1 x1 e1 r1 => ?_⟩
  unfold gLenSet at h2
  rw [← e1] at h2
  cases e2 : itL a1 W1.cs with
  | none =>
    rw [e2] at h2
    cases h2
  | some xs =>
    simp only [e2] at h2
    cases e3 : ndS xs with
    | false =>
      rw [e3] at h2
      cases h2
    | true =>
      rw [e3] at h2
      cases e4 : shr 100 xs with
      | false =>
        rw [e4] at h2
        cases h2
      | true =>
        rw [e4] at h2
        have sm := shr_le _ _ e4
        obtain ⟨rfl, rfl⟩ := okI_ok h2
        obtain ⟨p, vs, rfl, g1, g2⟩ := itL_ok w1 r1 e2
        obtain ⟨ns, rfl, rfl, nd, lt⟩ := ndS_ok g2 e3
        rw [List.length_map] at sm
        refine ⟨p, ns.map tbl, rfl, SqL.of g1, nodup_tbl nd lt, ?_, ?_⟩
        · rw [List.length_map]
          unfold scanBound
          omega
        · have el : ((ns.map tbl).length : Int) = Int.ofNat (lenN (ns.map AV.str)) := by rw [lenN_eq, List.length_map, List.length_map]; rfl
          rw [el]
          exact (k.later x1).here w1 (.int _)
def iET (f : Ex) : Its := fun sl cs => (f sl cs).bind fun a cs1 => match itT a with
  | some xs => .ok (enumL 0 xs) cs1
  | none => .err
theorem yields_enumT {W : Wd} {p : Addr} {xs : List AV} {vs : List V} (w : WOk c W) (r : Reps c W xs vs) (h : TupAt c W.H p vs) : Yields c (IteT c.K p vs.length) W (enumL 0 xs) := fun i W1 w1 x => by
  rw [enumL_get]
  have h' := (x.sees w |>.tupAt h).seq
  cases e : xs[i]? with
  | none => exact ⟨fun a z => (nomatch z), fun _ => ⟨by rw [← r.length]; exact List.getElem?_eq_none_iff.mp e, vs, h', rfl⟩⟩
  | some y =>
    obtain ⟨v, h1, h2⟩ := r.get e
    refine ⟨fun a ha => ⟨⟨(List.getElem?_eq_some_iff.mp h1).1, vs, v, h', rfl, h1⟩, fun z H' ⟨T, v', hz, hT, hH, hv⟩ => ?_⟩, fun z => nomatch z⟩
    subst hz
    have e2 : v' = v := Option.some.inj ((hv vs h').symm.trans h1)
    subst e2
    have ea : a = AV.tup [.int (.ofNat i), y] := by
      rw [Nat.zero_add] at ha
      exact (Option.some.inj ha).symm
    rw [ea]
    exact pair_new w1 hT hH (.int (Int.ofNat i)) (h2.map (x.sees w))
theorem i_enumT {elts : List Expr} {kk : Nat} {tpos : Pos} (hm : X.mg "enumerate" = none) (h : PE X e (evE c f)) (hg : Gl X "enumerate" := by rfl) (hK : X.K = c.K := by rfl) (hs : starEach [e] X.env = (false, eval e X.env) :: starEach [] X.env := by rfl) :
    PI X (.Tuple elts kk tpos) (.Call (.Name "enumerate" p) [e] [] pos) (evI c (iET f)) := (pi_enumT hg hm h hs).imp fun σ H R ⟨W, sl, xs, cs', hH, w, s, hf, k⟩ => by
  obtain ⟨a1, cs1, h1, h2⟩ := bind_ok hf
  refine ⟨W, sl, a1, cs1, hH, w, s, h1, fun v W1 w1 x1 e1 r1 => ?_⟩
  cases e2 : itT a1 with
  | none =>
    simp only [e2] at h2
    cases h2
  | some ys =>
    simp only [e2] at h2
    cases h2
    obtain ⟨p, vs, rfl, h3, h4⟩ := itT_at r1 e2
    rw [hK]
    exact ⟨p, vs, rfl, h3.seq, k _ W1 w1 x1 e1 (yields_enumT w1 h4 h3)⟩
def fMaxT : Fn := on1 fun a cs => match itT a with
  | some xs => (match maxL xs with
    | some z => okI z cs
    | none => .err)
  | none => .err
theorem k_maxT (hc : X.calm = true := by rfl) (hK : X.K = c.K := by rfl) : CallR X (.builtin "max") (evF c fMaxT) := cr_one (cr_maxT hc) fun W a v res cs' Q w ra hk fin => by
  cases e : itT a with
  | none =>
    simp only [e] at hk
    cases hk
  | some xs =>
    simp only [e] at hk
    cases e2 : maxL xs with
    | none =>
      rw [e2] at hk
      cases hk
    | some z =>
      rw [e2] at hk
      obtain ⟨rfl, rfl⟩ := okI_ok hk
      obtain ⟨p, vs, rfl, h1, h2⟩ := itT_ok ra e
      obtain ⟨ns, rfl, h3, h4, h5⟩ := maxL_ok h2 e2
      rw [hK]
      refine ⟨p, ns, rfl, h1, h3, fun m hm hle => ?_⟩
      have e3 : m = z := Int.le_antisymm (h4 m hm) (hle z h5)
      rw [e3]
      exact fin.here w (.int _)
end
/-! ## fractions: what the arithmetic yields -/
def Lin.add (l m : Lin) : Lin := ⟨l.c + m.c, l.c0 + m.c0, l.c1 + m.c1, l.c2 + m.c2, l.c3 + m.c3⟩
def Lin.neg (l : Lin) : Lin := ⟨-l.c, -l.c0, -l.c1, -l.c2, -l.c3⟩
def Lin.sub (l m : Lin) : Lin := l.add m.neg
def frLin (l : Lin) (k : Lin → Rs AV) : Rs AV := match l with
  | ⟨a, b, c, d, e⟩ => frI a fun a => frI b fun b => frI c fun c => frI d fun d => frI e fun e => k ⟨a, b, c, d, e⟩
def ratOf (a : AV) : Option Lin := match a with
  | .rat l => some l
  | .base i => (match Nat.blt i 4 with
    | true => some (unitL i)
    | false => none)
  | .tup xs => (match xs with
    | [x, y] => (match x with
      | .int p => (match y with
        | .int q => (match eqI q 1 with
          | true => some ⟨p, 0, 0, 0, 0⟩
          | false => none)
        | _ => none)
      | _ => none)
    | _ => none)
  | _ => none
/-- the sign of a value: 1, 0, -1 -/
def sgI (i : Int) : Int := match i with
  | .ofNat n => (match n with
    | 0 => 0
    | _ + 1 => 1)
  | .negSucc _ => -1
/-- all of one sign -/
def sg4 (a b c d : Int) : Option Int := match leI 0 a, leI 0 b, leI 0 c, leI 0 d with
  | true, true, true, true => (match eqI a 0, eqI b 0, eqI c 0, eqI d 0 with
    | true, true, true, true => some 0
    | _, _, _, _ => some 1)
  | _, _, _, _ => (match leI a 0, leI b 0, leI c 0, leI d 0 with
    | true, true, true, true => some (-1)
    | _, _, _, _ => none)
def sgL (l : Lin) : Option Int := match eqI (l.c0 + (l.c1 + (l.c2 + l.c3))) 0 with
  | true => sg4 l.c (l.c1 + (l.c2 + l.c3)) (l.c2 + l.c3) l.c3
  | false => none
def p2 (k : Lin → Lin → CS → Rs AV) : Fn := on2 fun a b cs => match ratOf a with
  | some l => (match ratOf b with
    | some m => k l m cs
    | none => .err)
  | none => .err
def F_add : Fn := p2 fun l m cs => frLin (l.add m) fun l => .ok (.rat l) cs
def F_subtract : Fn := p2 fun l m cs => frLin (l.sub m) fun l => .ok (.rat l) cs
def F_negate : Fn := on1 fun a cs => match ratOf a with
  | some l => frLin l.neg fun l => .ok (.rat l) cs
  | none => .err
/-- one of them is 0 or 1 -/
def isC (l : Lin) (k : Int) : Bool := match eqI l.c k, eqI l.c0 0, eqI l.c1 0, eqI l.c2 0, eqI l.c3 0 with
  | true, true, true, true, true => true
  | _, _, _, _, _ => false
def mulL (l m : Lin) : Option Lin := match isC l 0 with
  | true => some l
  | false => (match isC l 1 with
    | true => some m
    | false => (match isC m 0 with
      | true => some m
      | false => (match isC m 1 with
        | true => some l
        | false => none)))
def F_multiply : Fn := p2 fun l m cs => match mulL l m with
  | some n => .ok (.rat n) cs
  | none => .err
def F_compare : Fn := p2 fun l m cs => match sgL (l.sub m) with
  | some i => .ok (.int i) cs
  | none => .err
def F_is_name : Fn := on1 fun a cs => match a with
  | .str n => (match Nat.ble 2 n with
    | true => (match Nat.ble n 9 with
      | true => .ok (.bl true) cs
      | false => .err)
    | false => .err)
  | _ => .err
def F__law_add : Fn := F_add
def F__law_minus : Fn := F_subtract
def F__law_times : Fn := F_multiply
def F__law_order : Fn := F_compare
end U
end
noncomputable section
namespace U
open PySem PySem.Spec
open PyProof.Rows L2
/-! ## arithmetic on ints of any size, texts by letters -/
section
variable {c : Ct} {X : Cx} {e a b : Expr} {pos p : Pos} {f g : Ex}
def i64 (i : Int) : Prop := -(2 ^ 64) < i ∧ i < 2 ^ 64
instance (i : Int) : Decidable (i64 i) := inferInstanceAs (Decidable (_ ∧ _))
def gMulA : Op2 := on2I fun i j cs => if i64 i ∨ i64 j then okI (i * j) cs else .err
def gFdA : Op2 := on2I fun i j cs => if 0 < j ∧ j < 1073741824 then okI (i / j) cs else .err
def gModA : Op2 := on2I fun i j cs => if 0 < j then okI (i % j) cs else .err
def gPowA : Op2 := on2I fun i j cs => if 0 ≤ j ∧ j ≤ 100 ∧ i64 i then okI (i ^ j.toNat) cs else .err
theorem o_mulA : OpR X (binaryOp .Mult) (ev2 c gMulA) := o_int op_mul fun i j cs r cs' h => by
  by_cases q : i64 i ∨ i64 j
  · rw [if_pos q] at h
    obtain ⟨rfl, rfl⟩ := okI_ok h
    exact ⟨q, rfl, fun _ _ => .int _⟩
  · rw [if_neg q] at h
    cases h
theorem o_fdA : OpR X (binaryOp .FloorDiv) (ev2 c gFdA) := o_int op_fdiv fun i j cs r cs' h => by
  by_cases q : 0 < j ∧ j < 1073741824
  · rw [if_pos q] at h
    obtain ⟨rfl, rfl⟩ := okI_ok h
    exact ⟨q, rfl, fun _ _ => .int _⟩
  · rw [if_neg q] at h
    cases h
theorem o_modA : OpR X (binaryOp .Mod) (ev2 c gModA) := o_int op_mod fun i j cs r cs' h => by
  by_cases q : 0 < j
  · rw [if_pos q] at h
    obtain ⟨rfl, rfl⟩ := okI_ok h
    exact ⟨q, rfl, fun _ _ => .int _⟩
  · rw [if_neg q] at h
    cases h
theorem o_powA : OpR X (binaryOp .Pow) (ev2 c gPowA) := o_int op_pow fun i j cs r cs' h => by
  by_cases q : 0 ≤ j ∧ j ≤ 100 ∧ i64 i
  · rw [if_pos q] at h
    obtain ⟨rfl, rfl⟩ := okI_ok h
    have h1 := q.2.2.1
    have h2 := q.2.2.2
    exact ⟨⟨q.1, by omega, by omega⟩, rfl, fun _ _ => .int _⟩
  · rw [if_neg q] at h
    cases h
def absI (i : Int) : Int := if i < 0 then -i else i
def fAbs : Fn := on1 fun a cs => match a with
  | .int i => okI (absI i) cs
  | _ => .err
theorem k_abs : CallR X (.builtin "abs") (evF c fAbs) := cr_one call_abs fun W a v res cs' Q w ra hk fin => by
  cases a with
  | int i =>
    obtain ⟨rfl, rfl⟩ := okI_ok hk
    rw [rep_int ra]
    exact ⟨i, rfl, fin.here w (.int _)⟩
  | _ => cases hk
def fGcd : Fn := on2 fun a b cs => match a with
  | .int i => (match b with
    | .int j => okI (.ofNat (Nat.gcd i.natAbs j.natAbs)) cs
    | _ => .err)
  | _ => .err
theorem k_gcd : CallR X (.builtin "math.gcd") (evF c fGcd) := cr_gcd.ev fun vs H Q ⟨W, as, res, cs', hH, w, rs, hg, fin⟩ => by
  obtain ⟨a, b, rfl, hk⟩ := on2_ok hg
  obtain ⟨v, u, rfl, ra, rb⟩ := reps2 rs
  subst hH
  cases a with
  | int i => cases b with
    | int j =>
      obtain ⟨rfl, rfl⟩ := okI_ok hk
      rw [rep_int ra, rep_int rb]
      exact ⟨i, j, rfl, fin.here w (.int _)⟩
    | _ => cases hk
  | _ => cases hk
theorem r_callBf {g : Fn} {t : Exs} {x : Str} {es : List Expr} {id : String} (hc : CallR X (.builtin id) (evF c g)) (hm : X.mg x = some (.builtin id)) (ha : PA X (e :: es) (evA c t)) (hg : Gl X x := by rfl) (hdb : (x == ("__debug__" : Str)) = false := by decide)
    (he : starEach (e :: es) X.env = (false, eval e X.env) :: starEach es X.env := by rfl) (hpl : (backTo pos (starEach es X.env)).any (·.1) = false := by rfl) : PE X (.Call (.Name x p) (e :: es) [] pos) (evE c (cCall g t)) :=
  (pe_callBfun hc hg hm ha hdb he hpl).imp ev_cb
/-- the letters of a text of the table -/
def chS (n : Nat) : Option (List Nat) := match n with
  | 2 => some [34, 33, 7, 33, 9, 40]
  | 3 => some [33, 34, 35]
  | 4 => some [36, 37, 33]
  | 5 => some [36, 38, 39, 35, 35]
  | 6 => some [6]
  | 7 => some [7]
  | 8 => some [8]
  | 9 => some [9]
  | _ => none
def oneC (i : Nat) : Option Nat := match (tbl i).cps.toList with
  | [k] => some k
  | _ => none
def chK (n : Nat) : Bool := match chS n with
  | none => true
  | some ns => decide ((tbl n).cps.toList.map some = ns.map oneC) && ns.all fun i => decide (i < nStr)
theorem chK_all : ∀ n, n < nStr → chK n = true := by decide +kernel
theorem chS_ok {n : Nat} {ns : List Nat} (hn : n < nStr) (h : chS n = some ns) : (tbl n).cps.toList.map some = ns.map oneC ∧ ∀ i ∈ ns, i < nStr := by
  have q := chK_all n hn
  unfold chK at q
  rw [h] at q
  simp only [Bool.and_eq_true, decide_eq_true_eq, List.all_eq_true] at q
  exact q
theorem oneC_ok {i k : Nat} (h : oneC i = some k) : tbl i = ⟨#[k]⟩ := by
  unfold oneC at h
  split at h
  · rename_i z e
    cases h
    have : (tbl i).cps = #[k] := by
      rw [← Array.toArray_toList (xs := (tbl i).cps), e]
    cases hx : tbl i with
    | mk cps =>
      rw [hx] at this
      rw [show cps = #[k] from this]
  · cases h
def iS (f : Ex) : Its := fun sl cs => (f sl cs).bind fun a cs1 => match a with
  | .str n => (match chS n with
    | some ns => .ok (ns.map AV.str) cs1
    | none => .err)
  | _ => .err
theorem yields_str {W : Wd} {n : Nat} {ns : List Nat} (hn : n < nStr) (h : chS n = some ns) : Yields c (L2.Its (tbl n)) W (ns.map AV.str) := fun i W1 w1 x => by
  obtain ⟨h1, h2⟩ := chS_ok hn h
  have hl : ns.length = (tbl n).cps.size := by
    have q := congrArg List.length h1
    rw [List.length_map, List.length_map, Array.length_toList] at q
    exact q.symm
  rw [List.getElem?_map]
  cases e : ns[i]? with
  | none => exact ⟨fun a z => (nomatch z), fun _ => by show (tbl n).cps.size ≤ i; rw [← hl]; exact List.getElem?_eq_none_iff.mp e⟩
  | some j =>
    have hi := (List.getElem?_eq_some_iff.mp e).1
    have hj := h2 j (List.mem_of_getElem? e)
    refine ⟨fun a ha => ⟨by show i < (tbl n).cps.size; omega, fun z H' ⟨hH, k, hk, hz⟩ => ?_⟩, fun z => nomatch z⟩
    subst hz
    refine ⟨W1, hH.symm, rfl, w1, Ext.refl W1, ?_⟩
    have q := congrArg (fun l => l[i]?) h1
    simp only [List.getElem?_map, e, Option.map_some] at q
    rw [Array.getElem?_toList, hk, Option.map_some] at q
    rw [← oneC_ok (Option.some.inj q).symm, ← Option.some.inj ha]
    exact .str j hj
theorem i_str {tg : Expr} (h : PE X e (evE c f)) : PI X tg e (evI c (iS f)) := (pi_str h).imp fun σ H R ⟨W, sl, xs, cs', hH, w, s, hf, k⟩ => by
  obtain ⟨a1, cs1, h1, h2⟩ := bind_ok hf
  refine ⟨W, sl, a1, cs1, hH, w, s, h1, fun v W1 w1 x1 e1 r1 => ?_⟩
  cases a1 with
  | str n =>
    cases e2 : chS n with
    | none =>
      simp only [e2] at h2
      cases h2
    | some ns =>
      simp only [e2] at h2
      cases h2
      cases r1 with
      | str _ hn => exact ⟨_, rfl, k _ W1 w1 x1 e1 (yields_str hn e2)⟩
  | _ => cases h2
/-- a letter in a text -/
def gInS : Op2 := fun a b cs => match a with
  | .str i => (match b with
    | .str j => (match oneC i with
      | some k => okB (decide (k ∈ (tbl j).cps.toList)) cs
      | none => .err)
    | _ => .err)
  | _ => .err
theorem o_inS : OpR X (compareOp .In) (ev2 c gInS) := op_in_sign.ev fun x y H Q ⟨W, a, b, r, cs', hH, w, ra, rb, hg, fin⟩ => by
  subst hH
  cases a with
  | str i => cases b with
    | str j =>
      cases ra
      cases rb
      have hg' : (match oneC i with
        | some k => okB (decide (k ∈ (tbl j).cps.toList)) W.cs
        | none => .err) = .ok r cs' := hg
      cases e : oneC i with
      | none =>
        rw [e] at hg'
        cases hg'
      | some k =>
        rw [e] at hg'
        obtain ⟨rfl, rfl⟩ := okB_ok hg'
        rw [oneC_ok e]
        exact ⟨k, _, rfl, rfl, fin.here w (.bl _)⟩
    | _ => cases hg
  | _ => cases hg
def fLenS : Fn := on1 fun a cs => match a with
  | .str n => okI (.ofNat (tbl n).length) cs
  | _ => .err
theorem tbl_short : ∀ n, n < nStr → (tbl n).length ≤ 40 := by decide +kernel
theorem k_lenS : CallR X (.builtin "len") (evF c fLenS) := cr_one call_len fun W a v res cs' Q w ra hk fin => by
  cases a with
  | str n =>
    cases ra with
    | str _ hn =>
      obtain ⟨rfl, rfl⟩ := okI_ok hk
      exact ⟨_, _, rfl, ⟨Nat.le_trans (tbl_short n hn) (by rw [sizeLine_eq]; omega), rfl⟩, fin.here w (.int _)⟩
  | _ => cases hk
end
/-! ## what the defs on fractions promise -/
def nrm (p q : Int) : AV := .tup [.int (p / (Nat.gcd p.natAbs q.natAbs : Nat)), .int (q / (Nat.gcd p.natAbs q.natAbs : Nat))]
def onP (k : Int → Int → CS → Rs AV) : Op1 := fun a cs => match a with
  | .tup xs => (match xs with
    | [x, y] => (match x with
      | .int p => (match y with
        | .int q => k p q cs
        | _ => .err)
      | _ => .err)
    | _ => .err)
  | _ => .err
theorem onP_ok {k : Int → Int → CS → Rs AV} {a r : AV} {cs cs' : CS} (h : onP k a cs = .ok r cs') : ∃ p q, a = .tup [.int p, .int q] ∧ k p q cs = .ok r cs' := by
  unfold onP at h
  split at h
  · split at h
    · split at h
      · split at h
        · exact ⟨_, _, rfl, h⟩
        · cases h
      · cases h
    · cases h
  · cases h
def G_make : Fn := on2 fun a b cs => match a with
  | .int p => (match b with
    | .int q => if 0 < q ∧ q < 1073741824 then .ok (nrm p q) cs else .err
    | _ => .err)
  | _ => .err
def G__law_gcd : Fn := on2 fun a b cs => match a with
  | .int p => (match b with
    | .int q => if 0 ≤ p ∧ 0 ≤ q ∧ q ≤ 4096 then .ok (.int (Nat.gcd p.natAbs q.natAbs : Nat)) cs else .err
    | _ => .err)
  | _ => .err
def G__law_ratio : Fn := on2 fun a b cs => match a with
  | .int p => (match b with
    | .int q => if 0 < q ∧ q ≤ 4096 then .ok (nrm p q) cs else .err
    | _ => .err)
  | _ => .err
def inD (q : Int) : Prop := 0 < q ∧ q ≤ 64
instance (i : Int) : Decidable (inD i) := inferInstanceAs (Decidable (_ ∧ _))
def onPP (k : Int → Int → Int → Int → CS → Rs AV) : Fn := on2 fun a b cs => onP (fun p q cs => onP (fun p' q' cs => if inD q ∧ inD q' then k p q p' q' cs else .err) b cs) a cs
theorem onPP_ok {k : Int → Int → Int → Int → CS → Rs AV} {as : List AV} {r : AV} {cs cs' : CS} (h : onPP k as cs = .ok r cs') : ∃ p q p' q', as = [.tup [.int p, .int q], .tup [.int p', .int q']] ∧ inD q ∧ inD q' ∧ k p q p' q' cs = .ok r cs' := by
  obtain ⟨a, b, ea, h1⟩ := on2_ok h
  obtain ⟨p, q, eb, h2⟩ := onP_ok h1
  obtain ⟨p', q', ec, h3⟩ := onP_ok h2
  subst ea eb ec
  by_cases z : inD q ∧ inD q'
  · rw [if_pos z] at h3
    exact ⟨p, q, p', q', rfl, z.1, z.2, h3⟩
  · rw [if_neg z] at h3
    cases h3
def G_add : Fn := onPP fun p q p' q' cs => .ok (nrm (p * q' + p' * q) (q * q')) cs
def G__law_add : Fn := G_add
def G_multiply : Fn := onPP fun p q p' q' cs => if i64 p ∨ i64 p' then .ok (nrm (p * p') (q * q')) cs else .err
def sgZ (i : Int) : Int := (if 0 < i then 1 else 0) - (if i < 0 then 1 else 0)
def G_compare : Fn := onPP fun p q p' q' cs => .ok (.int (sgZ (p * q' - p' * q))) cs
def G_negate : Fn := on1 (onP fun p q cs => if inD q then .ok (.tup [.int (-p), .int q]) cs else .err)
def G_minus : Fn := onPP fun p q p' q' cs => .ok (nrm (p * q' + (-p') * q) (q * q')) cs
end U
end
noncomputable section
namespace U
open PySem PySem.Spec
open PyProof.Rows L2
section
variable {ρ : Rho} {P : Program} {w : World} {K : PySem.W.Frag} {cl : Nat → Addr} {mg : Str → Option Value} {base : Heap} (ok : ρ.Ok)
include ok
def N_make : List Str := ["p", "q", "divisor"]
omit ok in
theorem sc_make : FnScope N_make ["p", "q"] (defScope s_make) := ⟨rfl, rfl, rfl, by decide +kernel, rfl, by decide +kernel, by decide +kernel⟩
def B_make : Stm := sSeq (sIf (tOf (cBin gEq (cVar 1) (cK (.int 0)))) (sErr) (sNil)) (sSeq (sSet 2 (cCall fGcd (aCons (cVar 0) (aCons (cVar 1) (aNil))))) (sSeq (sIf (tOf (cBin gLt (cVar 1) (cK (.int 0)))) (sSet 2 (cUn gNeg (cVar 2))) (sNil)) (sRet (cTup (aCons (cBin gFdA (cVar 0) (cVar 2)) (aCons (cBin gFdA (cVar 1) (cVar 2)) (aNil)))))))
theorem b_make {f : Addr} (g_gcd : mg "gcd" = some (.builtin "math.gcd")) : Body (ct ρ K cl) P w K mg base 1 N_make "make" f (defScope s_make) (defBody s_make) B_make := fun cdv A outer s H E hr =>
  rs_cons (s_if (rt_cmp (o_eq ok hr.units) (r_var 1 (pv 1)) (r_int)) (ss_err) (rs_nil)) (rs_cons (s_set (ps_set (i := 2) sc_make.nd rfl (by first | exact .inl rfl | exact .inr rfl) (r_callBf k_gcd g_gcd (ra_cons (r_var 0 (pv 0)) (ra_cons (r_var 1 (pv 1)) (ra_nil)))))) (rs_cons (s_if (rt_cmp o_lt (r_var 1 (pv 1)) (r_int)) (rs_one (s_set (ps_set (i := 2) sc_make.nd rfl (by first | exact .inl rfl | exact .inr rfl) (r_un o_neg (r_var 2 (pv 2)))))) (rs_nil)) (rs_one (s_ret (r_tup (ra_cons (r_op o_fdA (r_var 0 (pv 0)) (r_var 2 (pv 2))) (ra_cons (r_op o_fdA (r_var 1 (pv 1)) (r_var 2 (pv 2))) (ra_nil))))))))
def N_add : List Str := ["a", "b"]
omit ok in
theorem sc_add : FnScope N_add ["a", "b"] (defScope s_add) := ⟨rfl, rfl, rfl, by decide +kernel, rfl, by decide +kernel, by decide +kernel⟩
def B_add : Stm := sRet (cFn 2 G_make (aCons (cBin gAdd (cBin gMulA (cBin gIx (cVar 0) (cK (.int 0))) (cBin gIx (cVar 1) (cK (.int 1)))) (cBin gMulA (cBin gIx (cVar 1) (cK (.int 0))) (cBin gIx (cVar 0) (cK (.int 1))))) (aCons (cBin gMulA (cBin gIx (cVar 0) (cK (.int 1))) (cBin gIx (cVar 1) (cK (.int 1)))) (aNil))))
theorem b_add {f : Addr} (h_make : Callee (ct ρ K cl) P w K mg base 2 "make" 2 G_make) : Body (ct ρ K cl) P w K mg base 2 N_add "add" f (defScope s_add) (defBody s_add) B_add := fun cdv A outer s H E hr =>
  rs_one (s_ret (r_call h_make (Room.mono hr (by decide)) (ra_cons (r_op o_add (r_op o_mulA (r_ix o_ix (r_var 0 (pv 0)) (r_int)) (r_ix o_ix (r_var 1 (pv 1)) (r_int))) (r_op o_mulA (r_ix o_ix (r_var 1 (pv 1)) (r_int)) (r_ix o_ix (r_var 0 (pv 0)) (r_int)))) (ra_cons (r_op o_mulA (r_ix o_ix (r_var 0 (pv 0)) (r_int)) (r_ix o_ix (r_var 1 (pv 1)) (r_int))) (ra_nil)))))
def N_negate : List Str := ["a"]
omit ok in
theorem sc_negate : FnScope N_negate ["a"] (defScope s_negate) := ⟨rfl, rfl, rfl, by decide +kernel, rfl, by decide +kernel, by decide +kernel⟩
def B_negate : Stm := sRet (cTup (aCons (cUn gNeg (cBin gIx (cVar 0) (cK (.int 0)))) (aCons (cBin gIx (cVar 0) (cK (.int 1))) (aNil))))
theorem b_negate {f : Addr}  : Body (ct ρ K cl) P w K mg base 0 N_negate "negate" f (defScope s_negate) (defBody s_negate) B_negate := fun cdv A outer s H E hr =>
  rs_one (s_ret (r_tup (ra_cons (r_un o_neg (r_ix o_ix (r_var 0 (pv 0)) (r_int))) (ra_cons (r_ix o_ix (r_var 0 (pv 0)) (r_int)) (ra_nil)))))
def N_subtract : List Str := ["a", "b"]
omit ok in
theorem sc_subtract : FnScope N_subtract ["a", "b"] (defScope s_subtract) := ⟨rfl, rfl, rfl, by decide +kernel, rfl, by decide +kernel, by decide +kernel⟩
def B_subtract : Stm := sRet (cFn 2 F_add (aCons (cVar 0) (aCons (cFn 1 F_negate (aCons (cVar 1) (aNil))) (aNil))))
theorem b_subtract {f : Addr} (h_negate : Callee (ct ρ K cl) P w K mg base 1 "negate" 1 F_negate) (h_add : Callee (ct ρ K cl) P w K mg base 3 "add" 2 F_add) : Body (ct ρ K cl) P w K mg base 3 N_subtract "subtract" f (defScope s_subtract) (defBody s_subtract) B_subtract := fun cdv A outer s H E hr =>
  rs_one (s_ret (r_call h_add (Room.mono hr (by decide)) (ra_cons (r_var 0 (pv 0)) (ra_cons (r_call h_negate (Room.mono hr (by decide)) (ra_cons (r_var 1 (pv 1)) (ra_nil))) (ra_nil)))))
def N_multiply : List Str := ["a", "b"]
omit ok in
theorem sc_multiply : FnScope N_multiply ["a", "b"] (defScope s_multiply) := ⟨rfl, rfl, rfl, by decide +kernel, rfl, by decide +kernel, by decide +kernel⟩
def B_multiply : Stm := sRet (cFn 2 G_make (aCons (cBin gMulA (cBin gIx (cVar 0) (cK (.int 0))) (cBin gIx (cVar 1) (cK (.int 0)))) (aCons (cBin gMulA (cBin gIx (cVar 0) (cK (.int 1))) (cBin gIx (cVar 1) (cK (.int 1)))) (aNil))))
theorem b_multiply {f : Addr} (h_make : Callee (ct ρ K cl) P w K mg base 2 "make" 2 G_make) : Body (ct ρ K cl) P w K mg base 2 N_multiply "multiply" f (defScope s_multiply) (defBody s_multiply) B_multiply := fun cdv A outer s H E hr =>
  rs_one (s_ret (r_call h_make (Room.mono hr (by decide)) (ra_cons (r_op o_mulA (r_ix o_ix (r_var 0 (pv 0)) (r_int)) (r_ix o_ix (r_var 1 (pv 1)) (r_int))) (ra_cons (r_op o_mulA (r_ix o_ix (r_var 0 (pv 0)) (r_int)) (r_ix o_ix (r_var 1 (pv 1)) (r_int))) (ra_nil)))))
def N_compare : List Str := ["a", "b", "difference"]
omit ok in
theorem sc_compare : FnScope N_compare ["a", "b"] (defScope s_compare) := ⟨rfl, rfl, rfl, by decide +kernel, rfl, by decide +kernel, by decide +kernel⟩
def B_compare : Stm := sSeq (sSet 2 (cBin gSub (cBin gMulA (cBin gIx (cVar 0) (cK (.int 0))) (cBin gIx (cVar 1) (cK (.int 1)))) (cBin gMulA (cBin gIx (cVar 1) (cK (.int 0))) (cBin gIx (cVar 0) (cK (.int 1)))))) (sRet (cBin gSub (cCall fInt (aCons (cBin gGt (cVar 2) (cK (.int 0))) (aNil))) (cCall fInt (aCons (cBin gLt (cVar 2) (cK (.int 0))) (aNil)))))
theorem b_compare {f : Addr} (m_int : mg "int" = none) : Body (ct ρ K cl) P w K mg base 0 N_compare "compare" f (defScope s_compare) (defBody s_compare) B_compare := fun cdv A outer s H E hr =>
  rs_cons (s_set (ps_set (i := 2) sc_compare.nd rfl (by first | exact .inl rfl | exact .inr rfl) (r_op o_sub (r_op o_mulA (r_ix o_ix (r_var 0 (pv 0)) (r_int)) (r_ix o_ix (r_var 1 (pv 1)) (r_int))) (r_op o_mulA (r_ix o_ix (r_var 1 (pv 1)) (r_int)) (r_ix o_ix (r_var 0 (pv 0)) (r_int)))))) (rs_one (s_ret (r_op o_sub (r_callTy k_int m_int (by decide +kernel) (ra_cons (r_cmp o_gt (r_var 2 (pv 2)) (r_int)) (ra_nil))) (r_callTy k_int m_int (by decide +kernel) (ra_cons (r_cmp o_lt (r_var 2 (pv 2)) (r_int)) (ra_nil))))))
def N_is_name : List Str := ["word", "letter"]
omit ok in
theorem sc_is_name : FnScope N_is_name ["word"] (defScope s_is_name) := ⟨rfl, rfl, rfl, by decide +kernel, rfl, by decide +kernel, by decide +kernel⟩
def B_is_name : Stm := sRet (cOfT (tAndB (tOf (cChain gLe gLe (cK (.int 1)) (cCall fLenS (aCons (cVar 0) (aNil))) (cK (.int 12)))) (tOf (cCall fAll (aCons (cLc (iS (cVar 0)) (tgN 1) [1] (tYesB) (cBin gInS (cVar 1) (cK (.str 29)))) (aNil))))))
theorem b_is_name {f : Addr} (m_len : mg "len" = none) (k_LETTERS : Konst (ct ρ K cl) mg "LETTERS" (.str 29)) (m_all : mg "all" = none) : Body (ct ρ K cl) P w K mg base 1 N_is_name "is_name" f (defScope s_is_name) (defBody s_is_name) B_is_name := fun cdv A outer s H E hr =>
  rs_one (s_ret (r_and (r_chain o_le o_le (r_int) (r_callB k_lenS m_len boot_len (ra_cons (r_var 0 (pv 0)) (ra_nil))) (r_int)) (r_one (r_callB k_all m_all (by decide +kernel) (ra_cons (r_lc [("letter", 1)] sc_is_name.nd (i_str (r_var 0 (pv 0))) N_is_name (defScope s_is_name) rfl rfl (by decide +kernel) (fun _ _ _ _ _ => g_name (pg_name (i := 1) sc_is_name.nd rfl (by first | exact .inl rfl | exact .inr rfl))) (fun _ _ _ _ _ => ts_nil) (fun _ _ _ _ _ => r_cmp o_inS (r_var 1 (pv 1)) (r_glob k_LETTERS))) (ra_nil))))))
def N__law_gcd : List Str := ["_law_a", "_law_b", "_law_k", "_law_rest"]
omit ok in
theorem sc__law_gcd : FnScope N__law_gcd ["_law_a", "_law_b"] (defScope s__law_gcd) := ⟨rfl, rfl, rfl, by decide +kernel, rfl, by decide +kernel, by decide +kernel⟩
def B__law_gcd : Stm := sSeq (sFor (iR1 (cK (.int 5000))) (tgN 2) (sSeq (sIf (tOf (cBin gEq (cVar 1) (cK (.int 0)))) (sRet (cVar 0)) (sNil)) (sSeq (sSet 3 (cBin gModA (cCall fInt (aCons (cVar 0) (aNil))) (cVar 1))) (sSeq (sSet 0 (cVar 1)) (sSet 1 (cVar 3)))))) (sRet (cVar 0))
theorem b__law_gcd {f : Addr} (m_range : mg "range" = none) (m_int : mg "int" = none) : Body (ct ρ K cl) P w K mg base 0 N__law_gcd "_law_gcd" f (defScope s__law_gcd) (defBody s__law_gcd) B__law_gcd := fun cdv A outer s H E hr =>
  rs_cons (s_for (i_range1 m_range (r_int)) (g_name (pg_name (i := 2) sc__law_gcd.nd rfl (by first | exact .inl rfl | exact .inr rfl))) (rs_cons (s_if (rt_cmp (o_eq ok hr.units) (r_var 1 (pv 1)) (r_int)) (rs_one (s_ret (r_var 0 (pv 0)))) (rs_nil)) (rs_cons (s_set (ps_set (i := 3) sc__law_gcd.nd rfl (by first | exact .inl rfl | exact .inr rfl) (r_op o_modA (r_callTy k_int m_int (by decide +kernel) (ra_cons (r_var 0 (pv 0)) (ra_nil))) (r_var 1 (pv 1))))) (rs_cons (s_set (ps_set (i := 0) sc__law_gcd.nd rfl (by first | exact .inl rfl | exact .inr rfl) (r_var 1 (pv 1)))) (rs_one (s_set (ps_set (i := 1) sc__law_gcd.nd rfl (by first | exact .inl rfl | exact .inr rfl) (r_var 3 (pv 3))))))))) (rs_one (s_ret (r_var 0 (pv 0))))
def N__law_ratio : List Str := ["_law_p", "_law_q", "_law_divisor"]
omit ok in
theorem sc__law_ratio : FnScope N__law_ratio ["_law_p", "_law_q"] (defScope s__law_ratio) := ⟨rfl, rfl, rfl, by decide +kernel, rfl, by decide +kernel, by decide +kernel⟩
def B__law_ratio : Stm := sSeq (sSet 2 (cFn 2 G__law_gcd (aCons (cCall fAbs (aCons (cVar 0) (aNil))) (aCons (cCall fAbs (aCons (cVar 1) (aNil))) (aNil))))) (sSeq (sIf (tOf (cBin gLt (cVar 1) (cK (.int 0)))) (sSet 2 (cUn gNeg (cVar 2))) (sNil)) (sRet (cTup (aCons (cBin gFdA (cVar 0) (cVar 2)) (aCons (cBin gFdA (cVar 1) (cVar 2)) (aNil))))))
theorem b__law_ratio {f : Addr} (m_abs : mg "abs" = none) (h__law_gcd : Callee (ct ρ K cl) P w K mg base 1 "_law_gcd" 2 G__law_gcd) : Body (ct ρ K cl) P w K mg base 1 N__law_ratio "_law_ratio" f (defScope s__law_ratio) (defBody s__law_ratio) B__law_ratio := fun cdv A outer s H E hr =>
  rs_cons (s_set (ps_set (i := 2) sc__law_ratio.nd rfl (by first | exact .inl rfl | exact .inr rfl) (r_call h__law_gcd (Room.mono hr (by decide)) (ra_cons (r_callB k_abs m_abs (by decide +kernel) (ra_cons (r_var 0 (pv 0)) (ra_nil))) (ra_cons (r_callB k_abs m_abs (by decide +kernel) (ra_cons (r_var 1 (pv 1)) (ra_nil))) (ra_nil)))))) (rs_cons (s_if (rt_cmp o_lt (r_var 1 (pv 1)) (r_int)) (rs_one (s_set (ps_set (i := 2) sc__law_ratio.nd rfl (by first | exact .inl rfl | exact .inr rfl) (r_un o_neg (r_var 2 (pv 2)))))) (rs_nil)) (rs_one (s_ret (r_tup (ra_cons (r_op o_fdA (r_var 0 (pv 0)) (r_var 2 (pv 2))) (ra_cons (r_op o_fdA (r_var 1 (pv 1)) (r_var 2 (pv 2))) (ra_nil)))))))
def N__law_add : List Str := ["_law_a", "_law_b"]
omit ok in
theorem sc__law_add : FnScope N__law_add ["_law_a", "_law_b"] (defScope s__law_add) := ⟨rfl, rfl, rfl, by decide +kernel, rfl, by decide +kernel, by decide +kernel⟩
def B__law_add : Stm := sRet (cFn 2 G__law_ratio (aCons (cBin gAdd (cBin gMulA (cBin gIx (cVar 0) (cK (.int 0))) (cBin gIx (cVar 1) (cK (.int 1)))) (cBin gMulA (cBin gIx (cVar 1) (cK (.int 0))) (cBin gIx (cVar 0) (cK (.int 1))))) (aCons (cBin gMulA (cBin gIx (cVar 0) (cK (.int 1))) (cBin gIx (cVar 1) (cK (.int 1)))) (aNil))))
theorem b__law_add {f : Addr} (h__law_ratio : Callee (ct ρ K cl) P w K mg base 2 "_law_ratio" 2 G__law_ratio) : Body (ct ρ K cl) P w K mg base 2 N__law_add "_law_add" f (defScope s__law_add) (defBody s__law_add) B__law_add := fun cdv A outer s H E hr =>
  rs_one (s_ret (r_call h__law_ratio (Room.mono hr (by decide)) (ra_cons (r_op o_add (r_op o_mulA (r_ix o_ix (r_var 0 (pv 0)) (r_int)) (r_ix o_ix (r_var 1 (pv 1)) (r_int))) (r_op o_mulA (r_ix o_ix (r_var 1 (pv 1)) (r_int)) (r_ix o_ix (r_var 0 (pv 0)) (r_int)))) (ra_cons (r_op o_mulA (r_ix o_ix (r_var 0 (pv 0)) (r_int)) (r_ix o_ix (r_var 1 (pv 1)) (r_int))) (ra_nil)))))
def N__law_times : List Str := ["_law_a", "_law_b"]
omit ok in
theorem sc__law_times : FnScope N__law_times ["_law_a", "_law_b"] (defScope s__law_times) := ⟨rfl, rfl, rfl, by decide +kernel, rfl, by decide +kernel, by decide +kernel⟩
def B__law_times : Stm := sRet (cFn 2 G__law_ratio (aCons (cBin gMulA (cBin gIx (cVar 0) (cK (.int 0))) (cBin gIx (cVar 1) (cK (.int 0)))) (aCons (cBin gMulA (cBin gIx (cVar 0) (cK (.int 1))) (cBin gIx (cVar 1) (cK (.int 1)))) (aNil))))
theorem b__law_times {f : Addr} (h__law_ratio : Callee (ct ρ K cl) P w K mg base 2 "_law_ratio" 2 G__law_ratio) : Body (ct ρ K cl) P w K mg base 2 N__law_times "_law_times" f (defScope s__law_times) (defBody s__law_times) B__law_times := fun cdv A outer s H E hr =>
  rs_one (s_ret (r_call h__law_ratio (Room.mono hr (by decide)) (ra_cons (r_op o_mulA (r_ix o_ix (r_var 0 (pv 0)) (r_int)) (r_ix o_ix (r_var 1 (pv 1)) (r_int))) (ra_cons (r_op o_mulA (r_ix o_ix (r_var 0 (pv 0)) (r_int)) (r_ix o_ix (r_var 1 (pv 1)) (r_int))) (ra_nil)))))
def N__law_minus : List Str := ["_law_a", "_law_b"]
omit ok in
theorem sc__law_minus : FnScope N__law_minus ["_law_a", "_law_b"] (defScope s__law_minus) := ⟨rfl, rfl, rfl, by decide +kernel, rfl, by decide +kernel, by decide +kernel⟩
def B__law_minus : Stm := sRet (cFn 2 G__law_add (aCons (cVar 0) (aCons (cTup (aCons (cUn gNeg (cBin gIx (cVar 1) (cK (.int 0)))) (aCons (cBin gIx (cVar 1) (cK (.int 1))) (aNil)))) (aNil))))
theorem b__law_minus {f : Addr} (h__law_add : Callee (ct ρ K cl) P w K mg base 3 "_law_add" 2 G__law_add) : Body (ct ρ K cl) P w K mg base 3 N__law_minus "_law_minus" f (defScope s__law_minus) (defBody s__law_minus) B__law_minus := fun cdv A outer s H E hr =>
  rs_one (s_ret (r_call h__law_add (Room.mono hr (by decide)) (ra_cons (r_var 0 (pv 0)) (ra_cons (r_tup (ra_cons (r_un o_neg (r_ix o_ix (r_var 1 (pv 1)) (r_int))) (ra_cons (r_ix o_ix (r_var 1 (pv 1)) (r_int)) (ra_nil)))) (ra_nil)))))
def N__law_order : List Str := ["_law_a", "_law_b", "_law_difference"]
omit ok in
theorem sc__law_order : FnScope N__law_order ["_law_a", "_law_b"] (defScope s__law_order) := ⟨rfl, rfl, rfl, by decide +kernel, rfl, by decide +kernel, by decide +kernel⟩
def B__law_order : Stm := sSeq (sSet 2 (cBin gSub (cBin gMulA (cBin gIx (cVar 0) (cK (.int 0))) (cBin gIx (cVar 1) (cK (.int 1)))) (cBin gMulA (cBin gIx (cVar 1) (cK (.int 0))) (cBin gIx (cVar 0) (cK (.int 1)))))) (sRet (cBin gSub (cCall fInt (aCons (cBin gGt (cVar 2) (cK (.int 0))) (aNil))) (cCall fInt (aCons (cBin gLt (cVar 2) (cK (.int 0))) (aNil)))))
theorem b__law_order {f : Addr} (m_int : mg "int" = none) : Body (ct ρ K cl) P w K mg base 0 N__law_order "_law_order" f (defScope s__law_order) (defBody s__law_order) B__law_order := fun cdv A outer s H E hr =>
  rs_cons (s_set (ps_set (i := 2) sc__law_order.nd rfl (by first | exact .inl rfl | exact .inr rfl) (r_op o_sub (r_op o_mulA (r_ix o_ix (r_var 0 (pv 0)) (r_int)) (r_ix o_ix (r_var 1 (pv 1)) (r_int))) (r_op o_mulA (r_ix o_ix (r_var 1 (pv 1)) (r_int)) (r_ix o_ix (r_var 0 (pv 0)) (r_int)))))) (rs_one (s_ret (r_op o_sub (r_callTy k_int m_int (by decide +kernel) (ra_cons (r_cmp o_gt (r_var 2 (pv 2)) (r_int)) (ra_nil))) (r_callTy k_int m_int (by decide +kernel) (ra_cons (r_cmp o_lt (r_var 2 (pv 2)) (r_int)) (ra_nil))))))
def N__law_deck : List Str := ["_law_script"]
omit ok in
theorem sc__law_deck : FnScope N__law_deck ["_law_script"] (defScope s__law_deck) := ⟨rfl, rfl, rfl, by decide +kernel, rfl, by decide +kernel, by decide +kernel⟩
def B__law_deck : Stm := sRet (cCel (aCons (cCall fListV (aCons (cVar 0) (aNil))) (aCons (cK (.int 0)) (aCons (cK (.int 0)) (aCons (cK (.int 7)) (aNil))))))
def F__law_deck : Fn := fnF 1 B__law_deck
theorem b__law_deck {f : Addr} (m_list : mg "list" = none) : Body (ct ρ K cl) P w K mg base 0 N__law_deck "_law_deck" f (defScope s__law_deck) (defBody s__law_deck) B__law_deck := fun cdv A outer s H E hr =>
  rs_one (s_ret (r_cel (ra_cons (r_callTy k_listV m_list boot_list (ra_cons (r_var 0 (pv 0)) (ra_nil))) (ra_cons (r_int) (ra_cons (r_int) (ra_cons (r_int) (ra_nil)))))))
def N__law_draw : List Str := ["_law_deck_here", "_law_most", "_law_value", "_law_cell"]
omit ok in
theorem sc__law_draw : FnScope N__law_draw ["_law_deck_here", "_law_most"] (defScope s__law_draw) := ⟨rfl, rfl, rfl, by decide +kernel, rfl, by decide +kernel, by decide +kernel⟩
def B__law_draw : Stm := sSeq (sIf (tOf (cBin gGe (cBin gIx (cVar 0) (cK (.int 2))) (cVar 1))) (sSeq (sSet 2 (cBin gModA (cCall fInt (aCons (cBin gIx (cVar 0) (cK (.int 2))) (aNil))) (cVar 1))) (sSeq (sIx (cBin gFdA (cBin gIx (cVar 0) (cK (.int 2))) (cVar 1)) (cVar 0) (cK (.int 2))) (sRet (cVar 2)))) (sNil)) (sSeq (sSet 3 (cK (.int 0))) (sSeq (sIf (tOf (cBin gLt (cBin gIx (cVar 0) (cK (.int 1))) (cCall fLen (aCons (cBin gIx (cVar 0) (cK (.int 0))) (aNil))))) (sSet 3 (cBin gIx (cBin gIx (cVar 0) (cK (.int 0))) (cBin gIx (cVar 0) (cK (.int 1))))) (sNil)) (sSeq (sIx (cBin gAdd (cBin gIx (cVar 0) (cK (.int 1))) (cK (.int 1))) (cVar 0) (cK (.int 1))) (sSeq (sIx (cK (.int 0)) (cVar 0) (cK (.int 2))) (sSeq (sIf (tOf (cBin gGe (cVar 3) (cBin gPowA (cK (.int 10)) (cK (.int 18))))) (sSeq (sIx (cBin gFdA (cVar 3) (cVar 1)) (cVar 0) (cK (.int 2))) (sRet (cBin gModA (cCall fInt (aCons (cVar 3) (aNil))) (cVar 1)))) (sNil)) (sSeq (sIx (cBin gModA (cCall fInt (aCons (cBin gAdd (cBin gAdd (cBin gMulA (cBin gIx (cVar 0) (cK (.int 3))) (cK (.int 48271))) (cBin gMulA (cVar 3) (cK (.int 69621)))) (cBin gMulA (cBin gIx (cVar 0) (cK (.int 1))) (cK (.int 911)))) (aNil))) (cK (.int 2147483647))) (cVar 0) (cK (.int 3))) (sSeq (sIx (cBin gModA (cCall fInt (aCons (cBin gAdd (cBin gMulA (cBin gIx (cVar 0) (cK (.int 3))) (cK (.int 48271))) (cK (.int 12345))) (aNil))) (cK (.int 2147483647))) (cVar 0) (cK (.int 3))) (sRet (cBin gModA (cCall fInt (aCons (cBin gFdA (cBin gIx (cVar 0) (cK (.int 3))) (cK (.int 64))) (aNil))) (cVar 1))))))))))
def F__law_draw : Fn := fnF 4 B__law_draw
theorem b__law_draw {f : Addr} (m_int : mg "int" = none) (m_len : mg "len" = none) : Body (ct ρ K cl) P w K mg base 0 N__law_draw "_law_draw" f (defScope s__law_draw) (defBody s__law_draw) B__law_draw := fun cdv A outer s H E hr =>
  rs_cons (s_if (rt_cmp o_ge (r_ix o_ix (r_var 0 (pv 0)) (r_int)) (r_var 1 (pv 1))) (rs_cons (s_set (ps_set (i := 2) sc__law_draw.nd rfl (by first | exact .inl rfl | exact .inr rfl) (r_op o_modA (r_callTy k_int m_int (by decide +kernel) (ra_cons (r_ix o_ix (r_var 0 (pv 0)) (r_int)) (ra_nil))) (r_var 1 (pv 1))))) (rs_cons (s_ix (r_op o_fdA (r_ix o_ix (r_var 0 (pv 0)) (r_int)) (r_var 1 (pv 1))) (r_var 0 (pv 0)) (r_int)) (rs_one (s_ret (r_var 2 (pv 2)))))) (rs_nil)) (rs_cons (s_set (ps_set (i := 3) sc__law_draw.nd rfl (by first | exact .inl rfl | exact .inr rfl) (r_int))) (rs_cons (s_if (rt_cmp o_lt (r_ix o_ix (r_var 0 (pv 0)) (r_int)) (r_callB k_len m_len boot_len (ra_cons (r_ix o_ix (r_var 0 (pv 0)) (r_int)) (ra_nil)))) (rs_one (s_set (ps_set (i := 3) sc__law_draw.nd rfl (by first | exact .inl rfl | exact .inr rfl) (r_ix o_ix (r_ix o_ix (r_var 0 (pv 0)) (r_int)) (r_ix o_ix (r_var 0 (pv 0)) (r_int)))))) (rs_nil)) (rs_cons (s_ix (r_op o_add (r_ix o_ix (r_var 0 (pv 0)) (r_int)) (r_int)) (r_var 0 (pv 0)) (r_int)) (rs_cons (s_ix (r_int) (r_var 0 (pv 0)) (r_int)) (rs_cons (s_if (rt_cmp o_ge (r_var 3 (pv 3)) (r_op o_powA (r_int) (r_int))) (rs_cons (s_ix (r_op o_fdA (r_var 3 (pv 3)) (r_var 1 (pv 1))) (r_var 0 (pv 0)) (r_int)) (rs_one (s_ret (r_op o_modA (r_callTy k_int m_int (by decide +kernel) (ra_cons (r_var 3 (pv 3)) (ra_nil))) (r_var 1 (pv 1)))))) (rs_nil)) (rs_cons (s_ix (r_op o_modA (r_callTy k_int m_int (by decide +kernel) (ra_cons (r_op o_add (r_op o_add (r_op o_mulA (r_ix o_ix (r_var 0 (pv 0)) (r_int)) (r_int)) (r_op o_mulA (r_var 3 (pv 3)) (r_int))) (r_op o_mulA (r_ix o_ix (r_var 0 (pv 0)) (r_int)) (r_int))) (ra_nil))) (r_int)) (r_var 0 (pv 0)) (r_int)) (rs_cons (s_ix (r_op o_modA (r_callTy k_int m_int (by decide +kernel) (ra_cons (r_op o_add (r_op o_mulA (r_ix o_ix (r_var 0 (pv 0)) (r_int)) (r_int)) (r_int)) (ra_nil))) (r_int)) (r_var 0 (pv 0)) (r_int)) (rs_one (s_ret (r_op o_modA (r_callTy k_int m_int (by decide +kernel) (ra_cons (r_op o_fdA (r_ix o_ix (r_var 0 (pv 0)) (r_int)) (r_int)) (ra_nil))) (r_var 1 (pv 1))))))))))))
def N__law_small : List Str := ["_law_deck_here"]
omit ok in
theorem sc__law_small : FnScope N__law_small ["_law_deck_here"] (defScope s__law_small) := ⟨rfl, rfl, rfl, by decide +kernel, rfl, by decide +kernel, by decide +kernel⟩
def B__law_small : Stm := sSeq (sIf (tOf (cBin gGt (cFn 2 F__law_draw (aCons (cVar 0) (aCons (cK (.int 4)) (aNil)))) (cK (.int 0)))) (sRet (cTup (aCons (cBin gSub (cFn 2 F__law_draw (aCons (cVar 0) (aCons (cK (.int 6)) (aNil)))) (cK (.int 2))) (aCons (cK (.int 1)) (aNil))))) (sNil)) (sRet (cFn 2 G__law_ratio (aCons (cBin gSub (cFn 2 F__law_draw (aCons (cVar 0) (aCons (cK (.int 9)) (aNil)))) (cK (.int 4))) (aCons (cBin gAdd (cK (.int 1)) (cFn 2 F__law_draw (aCons (cVar 0) (aCons (cK (.int 4)) (aNil))))) (aNil)))))
def F__law_small : Fn := fnF 1 B__law_small
theorem b__law_small {f : Addr} (h__law_draw : Callee (ct ρ K cl) P w K mg base 1 "_law_draw" 2 F__law_draw) (h__law_ratio : Callee (ct ρ K cl) P w K mg base 2 "_law_ratio" 2 G__law_ratio) : Body (ct ρ K cl) P w K mg base 3 N__law_small "_law_small" f (defScope s__law_small) (defBody s__law_small) B__law_small := fun cdv A outer s H E hr =>
  rs_cons (s_if (rt_cmp o_gt (r_call h__law_draw (Room.mono hr (by decide)) (ra_cons (r_var 0 (pv 0)) (ra_cons (r_int) (ra_nil)))) (r_int)) (rs_one (s_ret (r_tup (ra_cons (r_op o_sub (r_call h__law_draw (Room.mono hr (by decide)) (ra_cons (r_var 0 (pv 0)) (ra_cons (r_int) (ra_nil)))) (r_int)) (ra_cons (r_int) (ra_nil)))))) (rs_nil)) (rs_one (s_ret (r_call h__law_ratio (Room.mono hr (by decide)) (ra_cons (r_op o_sub (r_call h__law_draw (Room.mono hr (by decide)) (ra_cons (r_var 0 (pv 0)) (ra_cons (r_int) (ra_nil)))) (r_int)) (ra_cons (r_op o_add (r_int) (r_call h__law_draw (Room.mono hr (by decide)) (ra_cons (r_var 0 (pv 0)) (ra_cons (r_int) (ra_nil))))) (ra_nil))))))
def N__law_values : List Str := ["_law_deck_here", "_law_many", "_law_values_here", "_law_k", "_law_step"]
omit ok in
theorem sc__law_values : FnScope N__law_values ["_law_deck_here", "_law_many"] (defScope s__law_values) := ⟨rfl, rfl, rfl, by decide +kernel, rfl, by decide +kernel, by decide +kernel⟩
def B__law_values : Stm := sSeq (sSet 2 (cCel (aCons (cFn 1 F__law_small (aCons (cVar 0) (aNil))) (aNil)))) (sSeq (sFor (iR1 (cBin gSub (cVar 1) (cK (.int 1)))) (tgN 3) (sSeq (sSet 4 (cFn 2 G__law_ratio (aCons (cBin gAdd (cK (.int 1)) (cFn 2 F__law_draw (aCons (cVar 0) (aCons (cK (.int 6)) (aNil))))) (aCons (cBin gAdd (cK (.int 1)) (cFn 2 F__law_draw (aCons (cVar 0) (aCons (cK (.int 3)) (aNil))))) (aNil))))) (sExpr (cMeth gApp (cVar 2) (aCons (cFn 2 G__law_add (aCons (cBin gIx (cVar 2) (cVar 3)) (aCons (cVar 4) (aNil)))) (aNil)))))) (sRet (cVar 2)))
def F__law_values : Fn := fnF 5 B__law_values
theorem b__law_values {f : Addr} (h__law_small : Callee (ct ρ K cl) P w K mg base 4 "_law_small" 1 F__law_small) (m_range : mg "range" = none) (h__law_draw : Callee (ct ρ K cl) P w K mg base 1 "_law_draw" 2 F__law_draw) (h__law_ratio : Callee (ct ρ K cl) P w K mg base 2 "_law_ratio" 2 G__law_ratio) (h__law_add : Callee (ct ρ K cl) P w K mg base 3 "_law_add" 2 G__law_add) : Body (ct ρ K cl) P w K mg base 4 N__law_values "_law_values" f (defScope s__law_values) (defBody s__law_values) B__law_values := fun cdv A outer s H E hr =>
  rs_cons (s_set (ps_set (i := 2) sc__law_values.nd rfl (by first | exact .inl rfl | exact .inr rfl) (r_cel (ra_cons (r_call h__law_small (Room.mono hr (by decide)) (ra_cons (r_var 0 (pv 0)) (ra_nil))) (ra_nil))))) (rs_cons (s_for (i_range1 m_range (r_op o_sub (r_var 1 (pv 1)) (r_int))) (g_name (pg_name (i := 3) sc__law_values.nd rfl (by first | exact .inl rfl | exact .inr rfl))) (rs_cons (s_set (ps_set (i := 4) sc__law_values.nd rfl (by first | exact .inl rfl | exact .inr rfl) (r_call h__law_ratio (Room.mono hr (by decide)) (ra_cons (r_op o_add (r_int) (r_call h__law_draw (Room.mono hr (by decide)) (ra_cons (r_var 0 (pv 0)) (ra_cons (r_int) (ra_nil))))) (ra_cons (r_op o_add (r_int) (r_call h__law_draw (Room.mono hr (by decide)) (ra_cons (r_var 0 (pv 0)) (ra_cons (r_int) (ra_nil))))) (ra_nil)))))) (rs_one (s_expr (r_bm PySem.F.slot_list_append PySem.F.type_list_append m_append (r_var 2 (pv 2)) (ra_cons (r_call h__law_add (Room.mono hr (by decide)) (ra_cons (r_ix o_ix (r_var 2 (pv 2)) (r_var 3 (pv 3))) (ra_cons (r_var 4 (pv 4)) (ra_nil)))) (ra_nil))))))) (rs_one (s_ret (r_var 2 (pv 2)))))
end
end U
end
noncomputable section
namespace U
open PySem PySem.Spec
open PyProof.Rows L2
/-! ## runs, by rewriting -/
theorem getS_zero (a : AV) (l : Sl) : getS (a :: l) 0 = a := rfl
theorem getS_succ (a : AV) (l : Sl) (n : Nat) : getS (a :: l) (n + 1) = getS l n := rfl
theorem setS_zero (a v : AV) (l : Sl) : setS (a :: l) 0 v = v :: l := rfl
theorem setS_succ (a v : AV) (l : Sl) (n : Nat) : setS (a :: l) (n + 1) v = a :: setS l n v := rfl
theorem okI_eq (i : Int) (cs : CS) : okI i cs = .ok (.int i) cs := frI_eq i fun k => Rs.ok (AV.int k) cs
theorem okB_eq (b : Bool) (cs : CS) : okB b cs = .ok (.bl b) cs := by cases b <;> rfl
theorem okTup2 (a b : AV) (cs : CS) : okTup [a, b] cs = .ok (.tup [a, b]) cs := rfl
theorem lenN_nil {α : Type} : lenN ([] : List α) = 0 := rfl
theorem lenN_cons {α : Type} (a : α) (l : List α) : lenN (a :: l) = lenN l + 1 := rfl
theorem ok_bind {α β : Type} (a : α) (cs : CS) (k : α → CS → Rs β) : (Rs.ok a cs).bind k = k a cs := rfl
theorem ok_go {α : Type} (a : α) (cs : CS) (k : α → CS → Ro) : (Rs.ok a cs).go k = k a cs := rfl
theorem pad1 (a : AV) (n : Nat) : padS (n + 1) [a] = a :: undS n := rfl
theorem undS_zero : undS 0 = [] := rfl
theorem undS_succ (n : Nat) : undS (n + 1) = .und :: undS n := rfl
theorem ix_tup0 (p q : AV) (cs : CS) : gIx (.tup [p, q]) (.int 0) cs = okV p cs := rfl
theorem ix_tup1 (p q : AV) (cs : CS) : gIx (.tup [p, q]) (.int 1) cs = okV q cs := rfl
theorem okV_int (i : Int) (cs : CS) : okV (.int i) cs = .ok (.int i) cs := rfl
theorem okV_tup (l : List AV) (cs : CS) : okV (.tup l) cs = .ok (.tup l) cs := rfl
theorem okV_cell (n : Nat) (cs : CS) : okV (.cell n) cs = .ok (.cell n) cs := rfl
theorem okV_lst (l : List AV) (cs : CS) : okV (.lst l) cs = .ok (.lst l) cs := rfl

theorem i64_D {q : Int} (h : inD q) : i64 q := ⟨by have := h.1; omega, by have := h.2; omega⟩
theorem mulD {q q' : Int} (h1 : inD q) (h2 : inD q') : 0 < q * q' ∧ q * q' ≤ 4096 := by
  have m := Int.mul_le_mul h1.2 h2.2 (Int.le_of_lt h2.1) (by omega)
  exact ⟨Int.mul_pos h1.1 h2.1, by omega⟩
theorem run_negate (p q : Int) (cs : CS) : fnF 1 B_negate [.tup [.int p, .int q]] cs = .ok (.tup [.int (-p), .int q]) cs := by
  have e : padS 1 [.tup [.int p, .int q]] = [.tup [.int p, .int q]] := rfl
  simp only [e, B_negate, fnF, sRet, sSet, sSeq, sIf, sNil, sExpr, cFn, cCall, aCons, aNil, cBin, cUn, cTup, cVar, cK, tOf, getS_zero, getS_succ, setS_zero, setS_succ, okV_tup, okV_int, okV_cell, okV_lst, ok_bind, ok_go, okI_eq, okB_eq, okTup2, on2I, on1, on2, lenN_cons, lenN_nil, Nat.zero_add, Nat.beq_refl, ix_tup0, ix_tup1, gNeg, gAdd, gSub, gMulA, gFdA, gModA, gLt, gGt, gGe, gEq, eqT, leI_eq, ltI_eq, eqI_eq, fInt, fAbs, fGcd, decide_true, decide_false]
theorem run_add (p q p' q' : Int) (cs : CS) (h1 : inD q) (h2 : inD q') : fnF 2 B_add [.tup [.int p, .int q], .tup [.int p', .int q']] cs = .ok (nrm (p * q' + p' * q) (q * q')) cs := by
  have e : padS 2 [.tup [.int p, .int q], .tup [.int p', .int q']] = [.tup [.int p, .int q], .tup [.int p', .int q']] := rfl
  obtain ⟨m1, m2⟩ := mulD h1 h2
  have m5 : 0 < q * q' ∧ q * q' < 1073741824 := ⟨m1, by omega⟩
  simp only [e, B_add, fnF, sRet, sSet, sSeq, sIf, sNil, sExpr, cFn, cCall, aCons, aNil, cBin, cUn, cTup, cVar, cK, tOf, getS_zero, getS_succ, setS_zero, setS_succ, okV_tup, okV_int, okV_cell, okV_lst, ok_bind, ok_go, okI_eq, okB_eq, okTup2, on2I, on1, on2, lenN_cons, lenN_nil, Nat.zero_add, Nat.beq_refl, ix_tup0, ix_tup1, gNeg, gAdd, gSub, gMulA, gFdA, gModA, gLt, gGt, gGe, gEq, eqT, leI_eq, ltI_eq, eqI_eq, fInt, fAbs, fGcd, decide_true, decide_false, i64_D h1, i64_D h2, or_true, true_or, if_true, G_make, if_pos m5]
theorem run_ladd (p q p' q' : Int) (cs : CS) (h1 : inD q) (h2 : inD q') : fnF 2 B__law_add [.tup [.int p, .int q], .tup [.int p', .int q']] cs = .ok (nrm (p * q' + p' * q) (q * q')) cs := by
  have e : padS 2 [.tup [.int p, .int q], .tup [.int p', .int q']] = [.tup [.int p, .int q], .tup [.int p', .int q']] := rfl
  have m5 := mulD h1 h2
  simp only [e, B__law_add, fnF, sRet, sSet, sSeq, sIf, sNil, sExpr, cFn, cCall, aCons, aNil, cBin, cUn, cTup, cVar, cK, tOf, getS_zero, getS_succ, setS_zero, setS_succ, okV_tup, okV_int, okV_cell, okV_lst, ok_bind, ok_go, okI_eq, okB_eq, okTup2, on2I, on1, on2, lenN_cons, lenN_nil, Nat.zero_add, Nat.beq_refl, ix_tup0, ix_tup1, gNeg, gAdd, gSub, gMulA, gFdA, gModA, gLt, gGt, gGe, gEq, eqT, leI_eq, ltI_eq, eqI_eq, fInt, fAbs, fGcd, decide_true, decide_false, i64_D h1, i64_D h2, or_true, true_or, if_true, G__law_ratio, if_pos m5]
theorem run_mul (p q p' q' : Int) (cs : CS) (h1 : inD q) (h2 : inD q') (h3 : i64 p ∨ i64 p') : fnF 2 B_multiply [.tup [.int p, .int q], .tup [.int p', .int q']] cs = .ok (nrm (p * p') (q * q')) cs := by
  have e : padS 2 [.tup [.int p, .int q], .tup [.int p', .int q']] = [.tup [.int p, .int q], .tup [.int p', .int q']] := rfl
  obtain ⟨m1, m2⟩ := mulD h1 h2
  have m5 : 0 < q * q' ∧ q * q' < 1073741824 := ⟨m1, by omega⟩
  simp only [e, B_multiply, fnF, sRet, sSet, sSeq, sIf, sNil, sExpr, cFn, cCall, aCons, aNil, cBin, cUn, cTup, cVar, cK, tOf, getS_zero, getS_succ, setS_zero, setS_succ, okV_tup, okV_int, okV_cell, okV_lst, ok_bind, ok_go, okI_eq, okB_eq, okTup2, on2I, on1, on2, lenN_cons, lenN_nil, Nat.zero_add, Nat.beq_refl, ix_tup0, ix_tup1, gNeg, gAdd, gSub, gMulA, gFdA, gModA, gLt, gGt, gGe, gEq, eqT, leI_eq, ltI_eq, eqI_eq, fInt, fAbs, fGcd, decide_true, decide_false, i64_D h1, i64_D h2, or_true, true_or, if_true, G_make, if_pos m5, if_pos h3]
theorem run_ltimes (p q p' q' : Int) (cs : CS) (h1 : inD q) (h2 : inD q') (h3 : i64 p ∨ i64 p') : fnF 2 B__law_times [.tup [.int p, .int q], .tup [.int p', .int q']] cs = .ok (nrm (p * p') (q * q')) cs := by
  have e : padS 2 [.tup [.int p, .int q], .tup [.int p', .int q']] = [.tup [.int p, .int q], .tup [.int p', .int q']] := rfl
  have m5 := mulD h1 h2
  simp only [e, B__law_times, fnF, sRet, sSet, sSeq, sIf, sNil, sExpr, cFn, cCall, aCons, aNil, cBin, cUn, cTup, cVar, cK, tOf, getS_zero, getS_succ, setS_zero, setS_succ, okV_tup, okV_int, okV_cell, okV_lst, ok_bind, ok_go, okI_eq, okB_eq, okTup2, on2I, on1, on2, lenN_cons, lenN_nil, Nat.zero_add, Nat.beq_refl, ix_tup0, ix_tup1, gNeg, gAdd, gSub, gMulA, gFdA, gModA, gLt, gGt, gGe, gEq, eqT, leI_eq, ltI_eq, eqI_eq, fInt, fAbs, fGcd, decide_true, decide_false, i64_D h1, i64_D h2, or_true, true_or, if_true, G__law_ratio, if_pos m5, if_pos h3]
theorem run_lminus (p q p' q' : Int) (cs : CS) (h1 : inD q) (h2 : inD q') : fnF 2 B__law_minus [.tup [.int p, .int q], .tup [.int p', .int q']] cs = .ok (nrm (p * q' + (-p') * q) (q * q')) cs := by
  have e : padS 2 [.tup [.int p, .int q], .tup [.int p', .int q']] = [.tup [.int p, .int q], .tup [.int p', .int q']] := rfl
  simp only [e, B__law_minus, fnF, sRet, sSet, sSeq, sIf, sNil, sExpr, cFn, cCall, aCons, aNil, cBin, cUn, cTup, cVar, cK, tOf, getS_zero, getS_succ, setS_zero, setS_succ, okV_tup, okV_int, okV_cell, okV_lst, ok_bind, ok_go, okI_eq, okB_eq, okTup2, on2I, on1, on2, lenN_cons, lenN_nil, Nat.zero_add, Nat.beq_refl, ix_tup0, ix_tup1, gNeg, gAdd, gSub, gMulA, gFdA, gModA, gLt, gGt, gGe, gEq, eqT, leI_eq, ltI_eq, eqI_eq, fInt, fAbs, fGcd, decide_true, decide_false, G__law_add, G_add, onPP, onP, if_pos (And.intro h1 h2)]
theorem run_make (p q : Int) (cs : CS) (h : 0 < q ∧ q < 1073741824) : fnF 3 B_make [.int p, .int q] cs = .ok (nrm p q) cs := by
  have e : padS 3 [.int p, .int q] = [.int p, .int q, .und] := rfl
  have n0 : (q == 0) = false := beq_eq_false_iff_ne.mpr (by omega)
  have n1 : ¬ q < 0 := by omega
  have gq : Nat.gcd p.natAbs q.natAbs ≤ q.natAbs := Nat.gcd_le_right _ (by omega)
  have g0 : 0 < Nat.gcd p.natAbs q.natAbs := Nat.gcd_pos_of_pos_right _ (by omega)
  have gg : (0 : Int) < Int.ofNat (Nat.gcd p.natAbs q.natAbs) ∧ Int.ofNat (Nat.gcd p.natAbs q.natAbs) < 1073741824 := by
    rw [Int.ofNat_eq_natCast]
    exact ⟨by omega, by omega⟩
  simp only [e, B_make, fnF, sRet, sSet, sSeq, sIf, sNil, sExpr, cFn, cCall, aCons, aNil, cBin, cUn, cTup, cVar, cK, tOf, getS_zero, getS_succ, setS_zero, setS_succ, okV_tup, okV_int, okV_cell, okV_lst, ok_bind, ok_go, okI_eq, okB_eq, okTup2, on2I, on1, on2, lenN_cons, lenN_nil, Nat.zero_add, Nat.beq_refl, ix_tup0, ix_tup1, gNeg, gAdd, gSub, gMulA, gFdA, gModA, gLt, gGt, gGe, gEq, eqT, leI_eq, ltI_eq, eqI_eq, fInt, fAbs, fGcd, decide_true, decide_false, n0, n1, if_pos gg]
  rfl
theorem run_ratio (p q : Int) (cs : CS) (h : 0 < q ∧ q ≤ 4096) : fnF 3 B__law_ratio [.int p, .int q] cs = .ok (nrm p q) cs := by
  have e : padS 3 [.int p, .int q] = [.int p, .int q, .und] := rfl
  have n1 : ¬ q < 0 := by omega
  have aq : absI q = q := if_neg n1
  have ap : 0 ≤ absI p := by unfold absI; split <;> omega
  have an : (absI p).natAbs = p.natAbs := by unfold absI; split <;> omega
  have gq : Nat.gcd p.natAbs q.natAbs ≤ q.natAbs := Nat.gcd_le_right _ (by omega)
  have g0 : 0 < Nat.gcd p.natAbs q.natAbs := Nat.gcd_pos_of_pos_right _ (by omega)
  have gg : (0 : Int) < (Nat.gcd p.natAbs q.natAbs : Nat) ∧ ((Nat.gcd p.natAbs q.natAbs : Nat) : Int) < 1073741824 := ⟨by omega, by omega⟩
  have hc : 0 ≤ absI p ∧ 0 ≤ q ∧ q ≤ 4096 := ⟨ap, by omega, h.2⟩
  simp only [e, B__law_ratio, fnF, sRet, sSet, sSeq, sIf, sNil, sExpr, cFn, cCall, aCons, aNil, cBin, cUn, cTup, cVar, cK, tOf, getS_zero, getS_succ, setS_zero, setS_succ, okV_tup, okV_int, okV_cell, okV_lst, ok_bind, ok_go, okI_eq, okB_eq, okTup2, on2I, on1, on2, lenN_cons, lenN_nil, Nat.zero_add, Nat.beq_refl, ix_tup0, ix_tup1, gNeg, gAdd, gSub, gMulA, gFdA, gModA, gLt, gGt, gGe, gEq, eqT, leI_eq, ltI_eq, eqI_eq, fInt, fAbs, fGcd, decide_true, decide_false, aq, n1, G__law_gcd, if_pos hc, an, if_pos gg]
  rfl
theorem run_cmp (p q p' q' : Int) (cs : CS) (h1 : inD q) (h2 : inD q') : fnF 3 B_compare [.tup [.int p, .int q], .tup [.int p', .int q']] cs = .ok (.int (sgZ (p * q' - p' * q))) cs := by
  have e : padS 3 [.tup [.int p, .int q], .tup [.int p', .int q']] = [.tup [.int p, .int q], .tup [.int p', .int q'], .und] := rfl
  unfold sgZ
  by_cases a : 0 < p * q' - p' * q
  · have b : ¬ p * q' - p' * q < 0 := by omega
    simp only [e, B_compare, fnF, sRet, sSet, sSeq, sIf, sNil, sExpr, cFn, cCall, aCons, aNil, cBin, cUn, cTup, cVar, cK, tOf, getS_zero, getS_succ, setS_zero, setS_succ, okV_tup, okV_int, okV_cell, okV_lst, ok_bind, ok_go, okI_eq, okB_eq, okTup2, on2I, on1, on2, lenN_cons, lenN_nil, Nat.zero_add, Nat.beq_refl, ix_tup0, ix_tup1, gNeg, gAdd, gSub, gMulA, gFdA, gModA, gLt, gGt, gGe, gEq, eqT, leI_eq, ltI_eq, eqI_eq, fInt, fAbs, fGcd, decide_true, decide_false, i64_D h1, i64_D h2, or_true, true_or, if_true, a, b, if_false]
  · by_cases b : p * q' - p' * q < 0
    · simp only [e, B_compare, fnF, sRet, sSet, sSeq, sIf, sNil, sExpr, cFn, cCall, aCons, aNil, cBin, cUn, cTup, cVar, cK, tOf, getS_zero, getS_succ, setS_zero, setS_succ, okV_tup, okV_int, okV_cell, okV_lst, ok_bind, ok_go, okI_eq, okB_eq, okTup2, on2I, on1, on2, lenN_cons, lenN_nil, Nat.zero_add, Nat.beq_refl, ix_tup0, ix_tup1, gNeg, gAdd, gSub, gMulA, gFdA, gModA, gLt, gGt, gGe, gEq, eqT, leI_eq, ltI_eq, eqI_eq, fInt, fAbs, fGcd, decide_true, decide_false, i64_D h1, i64_D h2, or_true, true_or, if_true, a, b, if_false]
    · simp only [e, B_compare, fnF, sRet, sSet, sSeq, sIf, sNil, sExpr, cFn, cCall, aCons, aNil, cBin, cUn, cTup, cVar, cK, tOf, getS_zero, getS_succ, setS_zero, setS_succ, okV_tup, okV_int, okV_cell, okV_lst, ok_bind, ok_go, okI_eq, okB_eq, okTup2, on2I, on1, on2, lenN_cons, lenN_nil, Nat.zero_add, Nat.beq_refl, ix_tup0, ix_tup1, gNeg, gAdd, gSub, gMulA, gFdA, gModA, gLt, gGt, gGe, gEq, eqT, leI_eq, ltI_eq, eqI_eq, fInt, fAbs, fGcd, decide_true, decide_false, i64_D h1, i64_D h2, or_true, true_or, if_true, a, b, if_false]
theorem run_order (p q p' q' : Int) (cs : CS) (h1 : inD q) (h2 : inD q') : fnF 3 B__law_order [.tup [.int p, .int q], .tup [.int p', .int q']] cs = .ok (.int (sgZ (p * q' - p' * q))) cs := run_cmp p q p' q' cs h1 h2
/-- Euclid's steps -/
def gcdB : Stm := sSeq (sIf (tOf (cBin gEq (cVar 1) (cK (.int 0)))) (sRet (cVar 0)) (sNil)) (sSeq (sSet 3 (cBin gModA (cCall fInt (aCons (cVar 0) (aNil))) (cVar 1))) (sSeq (sSet 0 (cVar 1)) (sSet 1 (cVar 3))))
theorem gcdB_z (p : Int) (k r : AV) (cs : CS) : gcdB [.int p, .int 0, k, r] cs = .rt (.int p) cs := by
  have e0 : ((0 : Int) == 0) = true := rfl
  simp only [gcdB, fnF, sRet, sSet, sSeq, sIf, sNil, sExpr, cFn, cCall, aCons, aNil, cBin, cUn, cTup, cVar, cK, tOf, getS_zero, getS_succ, setS_zero, setS_succ, okV_tup, okV_int, okV_cell, okV_lst, ok_bind, ok_go, okI_eq, okB_eq, okTup2, on2I, on1, on2, lenN_cons, lenN_nil, Nat.zero_add, Nat.beq_refl, ix_tup0, ix_tup1, gNeg, gAdd, gSub, gMulA, gFdA, gModA, gLt, gGt, gGe, gEq, eqT, leI_eq, ltI_eq, eqI_eq, fInt, fAbs, fGcd, decide_true, decide_false, e0]
theorem gcdB_p (p q : Int) (k r : AV) (cs : CS) (h : 0 < q) : gcdB [.int p, .int q, k, r] cs = .nx [.int q, .int (p % q), k, .int (p % q)] cs := by
  have n0 : (q == 0) = false := beq_eq_false_iff_ne.mpr (by omega)
  simp only [gcdB, fnF, sRet, sSet, sSeq, sIf, sNil, sExpr, cFn, cCall, aCons, aNil, cBin, cUn, cTup, cVar, cK, tOf, getS_zero, getS_succ, setS_zero, setS_succ, okV_tup, okV_int, okV_cell, okV_lst, ok_bind, ok_go, okI_eq, okB_eq, okTup2, on2I, on1, on2, lenN_cons, lenN_nil, Nat.zero_add, Nat.beq_refl, ix_tup0, ix_tup1, gNeg, gAdd, gSub, gMulA, gFdA, gModA, gLt, gGt, gGe, gEq, eqT, leI_eq, ltI_eq, eqI_eq, fInt, fAbs, fGcd, decide_true, decide_false, n0, if_pos h]
theorem gcd_loop : ∀ (xs : List AV) (a b k r : AV) (p q : Int) (cs : CS), a = .int p → b = .int q → 0 ≤ p → 0 ≤ q → q.natAbs < xs.length → forL (tgN 2) gcdB xs [a, b, k, r] cs = .rt (.int (Nat.gcd p.natAbs q.natAbs : Nat)) cs
  | [], _, _, _, _, _, q, _, _, _, _, _, h => by cases h
  | x :: xs, _, _, k, r, p, q, cs, rfl, rfl, hp, hq, h => by
    rw [forL_cons]
    by_cases z : q = 0
    · subst z
      have eg : ((Nat.gcd p.natAbs (0 : Int).natAbs : Nat) : Int) = p := by
        rw [Int.natAbs_zero, Nat.gcd_zero_right]
        omega
      rw [eg]
      simp only [for1, tgN, setS_zero, setS_succ, gcdB_z]
    · have pq : 0 < q := by omega
      have m0 := Int.emod_nonneg p z
      have m1 := Int.emod_lt_of_pos p pq
      have ih := gcd_loop xs (.int q) (.int (p % q)) x (.int (p % q)) q (p % q) cs rfl rfl hq m0 (by rw [List.length_cons] at h; omega)
      have eg : Nat.gcd q.natAbs (p % q).natAbs = Nat.gcd p.natAbs q.natAbs := by
        have e1 : (p % q).natAbs = p.natAbs % q.natAbs := by
          obtain ⟨m, rfl⟩ := Int.eq_ofNat_of_zero_le hp
          obtain ⟨n, rfl⟩ := Int.eq_ofNat_of_zero_le hq
          rw [← Int.natCast_emod]
          rfl
        rw [e1, Nat.gcd_comm q.natAbs, ← Nat.gcd_rec, Nat.gcd_comm]
      rw [eg] at ih
      simp only [for1, tgN, setS_zero, setS_succ, gcdB_p _ _ _ _ _ pq]
      exact ih
theorem run_gcd (p q : Int) (cs : CS) (h : 0 ≤ p ∧ 0 ≤ q ∧ q ≤ 4096) : fnF 4 B__law_gcd [.int p, .int q] cs = .ok (.int (Nat.gcd p.natAbs q.natAbs : Nat)) cs := by
  have e : padS 4 [.int p, .int q] = [.int p, .int q, .und, .und] := rfl
  have l := gcd_loop (rgN 0 5000) _ _ .und .und p q cs rfl rfl h.1 h.2.1 (by rw [rgN_len]; omega)
  have r : iR1 (cK (.int 5000)) [.int p, .int q, .und, .und] cs = .ok (rgN 0 5000) cs := rfl
  have b : B__law_gcd = sSeq (sFor (iR1 (cK (.int 5000))) (tgN 2) gcdB) (sRet (cVar 0)) := rfl
  simp only [e, b, fnF, sSeq, sFor, r, l]
/-! ### from the runs to the promises -/
theorem ref_make {as : List AV} {r : AV} {cs cs' : CS} (h : G_make as cs = .ok r cs') : fnF 3 B_make as cs = .ok r cs' := by
  obtain ⟨a, b, rfl, h⟩ := on2_ok h
  cases a with
  | int p => cases b with
    | int q =>
      have h' : (if 0 < q ∧ q < 1073741824 then Rs.ok (nrm p q) cs else .err) = .ok r cs' := h
      by_cases z : 0 < q ∧ q < 1073741824
      · rw [if_pos z] at h'
        rw [run_make p q cs z]
        exact h'
      · rw [if_neg z] at h'
        cases h'
    | _ => cases h
  | _ => cases h
theorem ref_ratio {as : List AV} {r : AV} {cs cs' : CS} (h : G__law_ratio as cs = .ok r cs') : fnF 3 B__law_ratio as cs = .ok r cs' := by
  obtain ⟨a, b, rfl, h⟩ := on2_ok h
  cases a with
  | int p => cases b with
    | int q =>
      have h' : (if 0 < q ∧ q ≤ 4096 then Rs.ok (nrm p q) cs else .err) = .ok r cs' := h
      by_cases z : 0 < q ∧ q ≤ 4096
      · rw [if_pos z] at h'
        rw [run_ratio p q cs z]
        exact h'
      · rw [if_neg z] at h'
        cases h'
    | _ => cases h
  | _ => cases h
theorem ref_gcd {as : List AV} {r : AV} {cs cs' : CS} (h : G__law_gcd as cs = .ok r cs') : fnF 4 B__law_gcd as cs = .ok r cs' := by
  obtain ⟨a, b, rfl, h⟩ := on2_ok h
  cases a with
  | int p => cases b with
    | int q =>
      have h' : (if 0 ≤ p ∧ 0 ≤ q ∧ q ≤ 4096 then Rs.ok (AV.int (Nat.gcd p.natAbs q.natAbs : Nat)) cs else .err) = .ok r cs' := h
      by_cases z : 0 ≤ p ∧ 0 ≤ q ∧ q ≤ 4096
      · rw [if_pos z] at h'
        rw [run_gcd p q cs z]
        exact h'
      · rw [if_neg z] at h'
        cases h'
    | _ => cases h
  | _ => cases h
theorem ref_add {as : List AV} {r : AV} {cs cs' : CS} (h : G_add as cs = .ok r cs') : fnF 2 B_add as cs = .ok r cs' := by
  obtain ⟨p, q, p', q', rfl, h1, h2, h3⟩ := onPP_ok h
  rw [run_add p q p' q' cs h1 h2]
  exact h3
theorem ref_ladd {as : List AV} {r : AV} {cs cs' : CS} (h : G__law_add as cs = .ok r cs') : fnF 2 B__law_add as cs = .ok r cs' := by
  obtain ⟨p, q, p', q', rfl, h1, h2, h3⟩ := onPP_ok (show G_add as cs = .ok r cs' from h)
  rw [run_ladd p q p' q' cs h1 h2]
  exact h3
theorem ref_lminus {as : List AV} {r : AV} {cs cs' : CS} (h : G_minus as cs = .ok r cs') : fnF 2 B__law_minus as cs = .ok r cs' := by
  obtain ⟨p, q, p', q', rfl, h1, h2, h3⟩ := onPP_ok h
  rw [run_lminus p q p' q' cs h1 h2]
  exact h3
theorem ref_mul {as : List AV} {r : AV} {cs cs' : CS} (h : G_multiply as cs = .ok r cs') : fnF 2 B_multiply as cs = .ok r cs' ∧ fnF 2 B__law_times as cs = .ok r cs' := by
  obtain ⟨p, q, p', q', rfl, h1, h2, h3⟩ := onPP_ok h
  by_cases z : i64 p ∨ i64 p'
  · rw [if_pos z] at h3
    rw [run_mul p q p' q' cs h1 h2 z, run_ltimes p q p' q' cs h1 h2 z]
    exact ⟨h3, h3⟩
  · rw [if_neg z] at h3
    cases h3
theorem ref_cmp {as : List AV} {r : AV} {cs cs' : CS} (h : G_compare as cs = .ok r cs') : fnF 3 B_compare as cs = .ok r cs' ∧ fnF 3 B__law_order as cs = .ok r cs' := by
  obtain ⟨p, q, p', q', rfl, h1, h2, h3⟩ := onPP_ok h
  rw [run_cmp p q p' q' cs h1 h2, run_order p q p' q' cs h1 h2]
  exact ⟨h3, h3⟩
theorem ref_negate {as : List AV} {r : AV} {cs cs' : CS} (h : G_negate as cs = .ok r cs') : fnF 1 B_negate as cs = .ok r cs' := by
  obtain ⟨a, ea, h1⟩ := on1_ok (show on1 (onP fun p q cs => if inD q then .ok (.tup [.int (-p), .int q]) cs else .err) as cs = .ok r cs' from h)
  obtain ⟨p, q, eb, h2⟩ := onP_ok h1
  subst ea eb
  by_cases z : inD q
  · rw [if_pos z] at h2
    rw [run_negate]
    exact h2
  · rw [if_neg z] at h2
    cases h2
theorem ratOf_und {a : AV} {l : Lin} (h : ratOf a = some l) (cs : CS) : okV a cs = .ok a cs := by
  cases a with
  | und => cases h
  | _ => rfl
theorem ref_subtract {as : List AV} {r : AV} {cs cs' : CS} (h : F_subtract as cs = .ok r cs') : fnF 2 B_subtract as cs = .ok r cs' := by
  obtain ⟨a, b, e0, g⟩ := on2_ok (show on2 (fun a b cs => match ratOf a with
    | some l => (match ratOf b with
      | some m => (frLin (l.sub m) fun l => Rs.ok (.rat l) cs)
      | none => .err)
    | none => .err) as cs = .ok r cs' from h)
  subst e0
  clear h
  have h := g
  cases ea : ratOf a with
  | none =>
    rw [ea] at h
    cases h
  | some l =>
    rw [ea] at h
    cases eb : ratOf b with
    | none =>
      rw [eb] at h
      cases h
    | some m =>
      rw [eb] at h
      have h' : (frLin (l.add m.neg) fun l => Rs.ok (.rat l) cs) = .ok r cs' := h
      have fl : ∀ (l : Lin) (k : Lin → Rs AV), frLin l k = k l := fun l k => by
        unfold frLin
        simp only [frI_eq]
      rw [fl] at h'
      have e : padS 2 [a, b] = [a, b] := rfl
      have e2 : ∀ l, ratOf (.rat l) = some l := fun _ => rfl
      simp only [e, B_subtract, fnF, sRet, sSet, sSeq, sIf, sNil, sExpr, cFn, cCall, aCons, aNil, cBin, cUn, cTup, cVar, cK, tOf, getS_zero, getS_succ, setS_zero, setS_succ, okV_tup, okV_int, okV_cell, okV_lst, ok_bind, ok_go, okI_eq, okB_eq, okTup2, on2I, on1, on2, lenN_cons, lenN_nil, Nat.zero_add, Nat.beq_refl, ix_tup0, ix_tup1, gNeg, gAdd, gSub, gMulA, gFdA, gModA, gLt, gGt, gGe, gEq, eqT, leI_eq, ltI_eq, eqI_eq, fInt, fAbs, fGcd, decide_true, decide_false, ratOf_und ea, ratOf_und eb, F_negate, F_add, p2, ea, eb, e2, fl]
      exact h'
theorem ref_is_name {as : List AV} {r : AV} {cs cs' : CS} (h : F_is_name as cs = .ok r cs') : fnF 2 B_is_name as cs = .ok r cs' := by
  obtain ⟨a, rfl, h⟩ := on1_ok h
  cases a with
  | str n =>
    have h' : (match Nat.ble 2 n with
      | true => (match Nat.ble n 9 with
        | true => Rs.ok (AV.bl true) cs
        | false => .err)
      | false => .err) = .ok r cs' := h
    cases e1 : Nat.ble 2 n with
    | false =>
      rw [e1] at h'
      cases h'
    | true =>
      rw [e1] at h'
      cases e2 : Nat.ble n 9 with
      | false =>
        rw [e2] at h'
        cases h'
      | true =>
        rw [e2] at h'
        rw [← h']
        have l1 := Nat.le_of_ble_eq_true e1
        have l2 := Nat.le_of_ble_eq_true e2
        match n, l1, l2 with
        | 2, _, _ => kernel_rfl
        | 3, _, _ => kernel_rfl
        | 4, _, _ => kernel_rfl
        | 5, _, _ => kernel_rfl
        | 6, _, _ => kernel_rfl
        | 7, _, _ => kernel_rfl
        | 8, _, _ => kernel_rfl
        | 9, _, _ => kernel_rfl
        | n + 10, _, h => omega
  | _ => cases h
end U
end
noncomputable section
namespace U
open PySem PySem.Spec
open PyProof.Rows L2
/-! ## values by linear forms -/
section
variable {c : Ct} {W : Wd}
theorem ev_add (ρ : Rho) (l m : Lin) : ρ.ev (l.add m) = ρ.ev l + ρ.ev m := by
  simp only [Rho.ev, Lin.add, Int.add_mul]
  omega
theorem ev_neg (ρ : Rho) (l : Lin) : ρ.ev l.neg = -ρ.ev l := by
  simp only [Rho.ev, Lin.neg, Int.neg_mul]
  omega
theorem ev_sub (ρ : Rho) (l m : Lin) : ρ.ev (l.sub m) = ρ.ev l - ρ.ev m := by
  unfold Lin.sub
  rw [ev_add, ev_neg]
  omega
theorem frLin_eq (l : Lin) (k : Lin → Rs AV) : frLin l k = k l := by
  unfold frLin
  simp only [frI_eq]
theorem tup2_at {x y : Int} {v : V} (r : Rep c W (.tup [.int x, .int y]) v) : ∃ a, v = .ref a ∧ TupAt c W.H a [.int x, .int y] := by
  cases r with
  | tup ht rs =>
    obtain ⟨u, z, rfl, r1, r2⟩ := reps2 rs
    rw [rep_int r1, rep_int r2] at ht
    exact ⟨_, rfl, ht⟩
theorem tup2_rep {x y : Int} {a : Addr} (h : TupAt c W.H a [.int x, .int y]) : Rep c W (.tup [.int x, .int y]) (.ref a) := .tup h (.cons (.int x) (.cons (.int y) .nil))
theorem rat_rep (ok : c.ρ.Ok) {a : AV} {v : V} {l : Lin} (r : Rep c W a v) (h : ratOf a = some l) : ∃ p q, c.ρ.Is l p q ∧ Rep c W (.tup [.int p, .int q]) v := by
  cases r with
  | rat ht hr =>
    cases h
    exact ⟨_, _, hr, tup2_rep ht⟩
  | base i hi ht =>
    have h' : (match Nat.blt i 4 with
      | true => some (unitL i)
      | false => none) = some l := h
    split at h'
    · cases h'
      exact ⟨_, _, ok.base i hi, tup2_rep ht⟩
    · cases h'
  | @tup a xs as ht rs =>
    match as, rs, h with
    | [x, y], rs, h =>
      cases x with
      | int p => cases y with
        | int q =>
          have h' : (match eqI q 1 with
            | true => some (⟨p, 0, 0, 0, 0⟩ : Lin)
            | false => none) = some l := h
          rw [eqI_eq] at h'
          by_cases e : q = 1
          · subst e
            rw [show ((1 : Int) == 1) = true from rfl] at h'
            cases h'
            refine ⟨p, 1, ⟨by omega, by simp, ?_⟩, .tup ht rs⟩
            simp [Rho.ev]
          · rw [show (q == 1) = false from beq_eq_false_iff_ne.mpr e] at h'
            cases h'
        | _ => cases h
      | _ => cases h
    | [], _, h => cases h
    | [_], _, h => cases h
    | _ :: _ :: _ :: _, _, h => cases h
  | _ => cases h
theorem is_D {ρ : Rho} (ok : ρ.Ok) {l : Lin} {p q : Int} (h : ρ.Is l p q) : inD q := by
  obtain ⟨h1, h2, h3⟩ := h
  have d : q ∣ p * ρ.D := ⟨ρ.ev l, h3⟩
  have d1 : q.natAbs ∣ p.natAbs * ρ.D.natAbs := by
    rw [← Int.natAbs_mul]
    exact Int.natAbs_dvd_natAbs.mpr d
  have co : Nat.Coprime q.natAbs p.natAbs := by
    show Nat.gcd _ _ = 1
    rw [Nat.gcd_comm]
    exact h2
  have d2 : q ∣ ρ.D := Int.natAbs_dvd_natAbs.mp (co.dvd_of_dvd_mul_left d1)
  exact ⟨h1, Int.le_trans (Int.le_of_dvd ok.D d2) ok.D2⟩
theorem nrm_is {ρ : Rho} {l : Lin} {p q : Int} (hq : 0 < q) (h : p * ρ.D = q * ρ.ev l) : ρ.Is l (p / (Nat.gcd p.natAbs q.natAbs : Nat)) (q / (Nat.gcd p.natAbs q.natAbs : Nat)) := by
  have g0 : 0 < Nat.gcd p.natAbs q.natAbs := Nat.gcd_pos_of_pos_right _ (by omega)
  have gi : ((Nat.gcd p.natAbs q.natAbs : Nat) : Int) = (Int.gcd p q : Int) := rfl
  rw [gi]
  have gp : (0 : Int) < (Int.gcd p q : Int) := by
    rw [← gi]
    omega
  obtain ⟨p1, hp⟩ := Int.gcd_dvd_left (a := p) (b := q)
  obtain ⟨q1, hq1⟩ := Int.gcd_dvd_right (a := p) (b := q)
  have ep : p / (Int.gcd p q : Int) = p1 := Int.ediv_eq_of_eq_mul_right (Int.ne_of_gt gp) hp
  have eq : q / (Int.gcd p q : Int) = q1 := Int.ediv_eq_of_eq_mul_right (Int.ne_of_gt gp) hq1
  have qp : 0 < q / (Int.gcd p q : Int) := Int.ediv_pos_of_pos_of_dvd hq (Int.le_of_lt gp) ⟨q1, hq1⟩
  have gc : Int.gcd (p / (Int.gcd p q : Int)) (q / (Int.gcd p q : Int)) = 1 := Int.gcd_ediv_gcd_ediv_gcd (by have : 0 < Int.gcd p q := g0; omega)
  rw [ep, eq] at gc
  rw [eq] at qp
  rw [ep, eq]
  refine ⟨qp, gc, ?_⟩
  · have h2 : (Int.gcd p q : Int) * (p1 * ρ.D) = (Int.gcd p q : Int) * (q1 * ρ.ev l) := by
      rw [← Int.mul_assoc, ← Int.mul_assoc, ← hp, ← hq1]
      exact h
    exact Int.eq_of_mul_eq_mul_left (by omega) h2
theorem nrm_rep {l : Lin} {p q : Int} {v : V} (hq : 0 < q) (h : p * c.ρ.D = q * c.ρ.ev l) (r : Rep c W (nrm p q) v) : Rep c W (.rat l) v := by
  obtain ⟨a, rfl, ht⟩ := tup2_at r
  exact .rat ht (nrm_is hq h)
/-! ### signs -/
theorem sgZ_pos {i : Int} (h : 0 < i) : sgZ i = 1 := by
  unfold sgZ
  rw [if_pos h, if_neg (by omega)]
  rfl
theorem sgZ_neg {i : Int} (h : i < 0) : sgZ i = -1 := by
  unfold sgZ
  rw [if_pos h, if_neg (by omega)]
  rfl
theorem sgZ_zero : sgZ 0 = 0 := rfl
theorem sgZ_mul {k i j : Int} (hk : 0 < k) (e : i * k = j) : sgZ i = sgZ j := by
  subst e
  rcases Int.lt_trichotomy i 0 with h | h | h
  · rw [sgZ_neg h, sgZ_neg (Int.mul_neg_of_neg_of_pos h hk)]
  · subst h
    rw [Int.zero_mul]
  · rw [sgZ_pos h, sgZ_pos (Int.mul_pos h hk)]
theorem sg4_ok {a b x y i : Int} (h : sg4 a b x y = some i) {A B X Y : Int} (hA : 0 < A) (hB : 0 < B) (hX : 0 < X) (hY : 0 < Y) : i = sgZ (a * A + (b * B + (x * X + y * Y))) := by
  unfold sg4 at h
  simp only [leI_eq, eqI_eq] at h
  have nn : ∀ {s S : Int}, 0 ≤ s → 0 < S → 0 ≤ s * S := fun h1 h2 => Int.mul_nonneg h1 (Int.le_of_lt h2)
  have np : ∀ {s S : Int}, s ≤ 0 → 0 < S → s * S ≤ 0 := fun h1 h2 => Int.mul_nonpos_of_nonpos_of_nonneg h1 (Int.le_of_lt h2)
  have pp : ∀ {s S : Int}, 0 < s → 0 < S → 0 < s * S := fun h1 h2 => Int.mul_pos h1 h2
  have nq : ∀ {s S : Int}, s < 0 → 0 < S → s * S < 0 := fun h1 h2 => Int.mul_neg_of_neg_of_pos h1 h2
  split at h
  · rename_i e1 e2 e3 e4
    simp only [decide_eq_true_eq] at e1 e2 e3 e4
    have a1 := nn e1 hA
    have a2 := nn e2 hB
    have a3 := nn e3 hX
    have a4 := nn e4 hY
    split at h
    · rename_i f1 f2 f3 f4
      simp only [beq_iff_eq] at f1 f2 f3 f4
      subst f1 f2 f3 f4
      cases h
      simp [sgZ_zero]
    · rename_i f
      cases h
      have some1 : 0 < a ∨ 0 < b ∨ 0 < x ∨ 0 < y := by
        by_cases z : a = 0 ∧ b = 0 ∧ x = 0 ∧ y = 0
        · obtain ⟨z1, z2, z3, z4⟩ := z
          subst z1 z2 z3 z4
          exact absurd rfl (f rfl rfl rfl)
        · omega
      rw [sgZ_pos]
      rcases some1 with z | z | z | z
      · have := pp z hA
        omega
      · have := pp z hB
        omega
      · have := pp z hX
        omega
      · have := pp z hY
        omega
  · rename_i e
    split at h
    · rename_i e1 e2 e3 e4
      simp only [decide_eq_true_eq] at e1 e2 e3 e4
      cases h
      have a1 := np e1 hA
      have a2 := np e2 hB
      have a3 := np e3 hX
      have a4 := np e4 hY
      have some1 : a < 0 ∨ b < 0 ∨ x < 0 ∨ y < 0 := by
        by_cases z : 0 ≤ a ∧ 0 ≤ b ∧ 0 ≤ x ∧ 0 ≤ y
        · exact absurd (decide_eq_true z.2.2.2) (e (decide_eq_true z.1) (decide_eq_true z.2.1) (decide_eq_true z.2.2.1))
        · omega
      rw [sgZ_neg]
      rcases some1 with z | z | z | z
      · have := nq z hA
        omega
      · have := nq z hB
        omega
      · have := nq z hX
        omega
      · have := nq z hY
        omega
    · cases h
theorem sgL_ok {ρ : Rho} (ok : ρ.Ok) {l : Lin} {i : Int} (h : sgL l = some i) : i = sgZ (ρ.ev l) := by
  unfold sgL at h
  rw [eqI_eq] at h
  by_cases z : l.c0 + (l.c1 + (l.c2 + l.c3)) = 0
  · rw [show (l.c0 + (l.c1 + (l.c2 + l.c3)) == 0) = true from beq_iff_eq.mpr z] at h
    have a0 := ok.a0
    have a1 := ok.a1
    have a2 := ok.a2
    have q := sg4_ok h ok.D (show 0 < ρ.n1 - ρ.n0 by omega) (show 0 < ρ.n2 - ρ.n1 by omega) (show 0 < ρ.n3 - ρ.n2 by omega)
    rw [q]
    congr 1
    unfold Rho.ev
    have e0 : l.c0 = -(l.c1 + (l.c2 + l.c3)) := by omega
    rw [e0]
    simp only [Int.mul_sub, Int.add_mul, Int.neg_mul]
    omega
  · rw [show (l.c0 + (l.c1 + (l.c2 + l.c3)) == 0) = false from beq_eq_false_iff_ne.mpr z] at h
    cases h
theorem isC_ok {l : Lin} {k : Int} (h : isC l k = true) : l = ⟨k, 0, 0, 0, 0⟩ := by
  unfold isC at h
  simp only [eqI_eq] at h
  split at h
  · rename_i e1 e2 e3 e4 e5
    simp only [beq_iff_eq] at e1 e2 e3 e4 e5
    cases l
    simp_all
  · cases h
/-! ### the promises by linear forms -/
theorem p2_ok {k : Lin → Lin → CS → Rs AV} {as : List AV} {r : AV} {cs cs' : CS} (h : p2 k as cs = .ok r cs') : ∃ a b l m, as = [a, b] ∧ ratOf a = some l ∧ ratOf b = some m ∧ k l m cs = .ok r cs' := by
  obtain ⟨a, b, ea, h1⟩ := on2_ok (show on2 (fun a b cs => match ratOf a with
    | some l => (match ratOf b with
      | some m => k l m cs
      | none => .err)
    | none => .err) as cs = .ok r cs' from h)
  cases e1 : ratOf a with
  | none =>
    rw [e1] at h1
    cases h1
  | some l =>
    rw [e1] at h1
    cases e2 : ratOf b with
    | none =>
      rw [e2] at h1
      cases h1
    | some m =>
      rw [e2] at h1
      exact ⟨a, b, l, m, ea, e1, e2, h1⟩
/-- from the pairs' promise to the forms' -/
theorem lift2 (ok : c.ρ.Ok) {F : Lin → Lin → CS → Rs AV} {G : Int → Int → Int → Int → CS → Rs AV}
    (hG : ∀ l m p q p' q' cs r cs', c.ρ.Is l p q → c.ρ.Is m p' q' → F l m cs = .ok r cs' → ∃ r', G p q p' q' cs = .ok r' cs' ∧ ∀ W v, Rep c W r' v → Rep c W r v)
    (vs : List V) (H : Hp) (Q : VK) (h : evF c (p2 F) vs H Q) : evF c (onPP G) vs H Q := by
  obtain ⟨W, as, r, cs', hH, w, rs, hg, fin⟩ := h
  obtain ⟨a, b, l, m, rfl, ea, eb, hk⟩ := p2_ok hg
  obtain ⟨v, u, rfl, ra, rb⟩ := reps2 rs
  obtain ⟨p, q, i1, ra'⟩ := rat_rep ok ra ea
  obtain ⟨p', q', i2, rb'⟩ := rat_rep ok rb eb
  obtain ⟨r', h1, h2⟩ := hG l m p q p' q' _ _ _ i1 i2 hk
  refine ⟨W, [.tup [.int p, .int q], .tup [.int p', .int q']], r', cs', hH, w, .cons ra' (.cons rb' .nil), ?_, fun v W' w' x e rv => fin v W' w' x e (h2 W' v rv)⟩
  show (if inD q ∧ inD q' then G p q p' q' W.cs else .err) = _
  rw [if_pos ⟨is_D ok i1, is_D ok i2⟩]
  exact h1
theorem lift_add (ok : c.ρ.Ok) (vs : List V) (H : Hp) (Q : VK) (h : evF c F_add vs H Q) : evF c G_add vs H Q := lift2 ok (fun l m p q p' q' cs r cs' i1 i2 hk => by
  rw [frLin_eq] at hk
  cases hk
  refine ⟨_, rfl, fun W v rv => nrm_rep (Int.mul_pos i1.1 i2.1) ?_ rv⟩
  rw [ev_add, Int.add_mul, Int.mul_add]
  have e1 : p * q' * c.ρ.D = q * q' * c.ρ.ev l := by rw [Int.mul_right_comm, i1.2.2, Int.mul_right_comm]
  have e2 : p' * q * c.ρ.D = q * q' * c.ρ.ev m := by rw [Int.mul_right_comm, i2.2.2, Int.mul_comm q q', Int.mul_right_comm]
  rw [e1, e2]) vs H Q h
theorem lift_minus (ok : c.ρ.Ok) (vs : List V) (H : Hp) (Q : VK) (h : evF c F__law_minus vs H Q) : evF c G_minus vs H Q := lift2 ok (fun l m p q p' q' cs r cs' i1 i2 hk => by
  rw [frLin_eq] at hk
  cases hk
  refine ⟨_, rfl, fun W v rv => nrm_rep (Int.mul_pos i1.1 i2.1) ?_ rv⟩
  rw [ev_sub, Int.add_mul, Int.mul_sub]
  have e1 : p * q' * c.ρ.D = q * q' * c.ρ.ev l := by rw [Int.mul_right_comm, i1.2.2, Int.mul_right_comm]
  have e2 : p' * q * c.ρ.D = q * q' * c.ρ.ev m := by rw [Int.mul_right_comm, i2.2.2, Int.mul_comm q q', Int.mul_right_comm]
  rw [Int.neg_mul, Int.neg_mul, e1, e2]
  omega) vs H Q h
theorem lift_cmp (ok : c.ρ.Ok) (vs : List V) (H : Hp) (Q : VK) (h : evF c F_compare vs H Q) : evF c G_compare vs H Q := lift2 ok (fun l m p q p' q' cs r cs' i1 i2 hk => by
  have hk' : (match sgL (l.sub m) with
    | some i => Rs.ok (AV.int i) cs
    | none => .err) = .ok r cs' := hk
  cases e : sgL (l.sub m) with
  | none =>
    rw [e] at hk'
    cases hk'
  | some i =>
    rw [e] at hk'
    cases hk'
    refine ⟨_, rfl, fun W v rv => ?_⟩
    have q1 := sgL_ok ok e
    have e1 : p * q' * c.ρ.D = q * q' * c.ρ.ev l := by rw [Int.mul_right_comm, i1.2.2, Int.mul_right_comm]
    have e2 : p' * q * c.ρ.D = q * q' * c.ρ.ev m := by rw [Int.mul_right_comm, i2.2.2, Int.mul_comm q q', Int.mul_right_comm]
    have e3 : (p * q' - p' * q) * c.ρ.D = c.ρ.ev (l.sub m) * (q * q') := by rw [Int.sub_mul, e1, e2, ev_sub, Int.mul_comm (_ - _), Int.mul_sub]
    have q2 : sgZ (p * q' - p' * q) = i := by
      rw [q1, sgZ_mul ok.D e3]
      exact (sgZ_mul (Int.mul_pos i1.1 i2.1) rfl).symm
    rw [q2] at rv
    exact rv) vs H Q h
theorem lift_mul (ok : c.ρ.Ok) (vs : List V) (H : Hp) (Q : VK) (h : evF c F_multiply vs H Q) : evF c G_multiply vs H Q := lift2 ok (fun l m p q p' q' cs r cs' i1 i2 hk => by
  have c0 : ∀ {l : Lin} {p q : Int}, c.ρ.Is l p q → isC l 0 = true → p = 0 := fun {l p q} i e => by
    obtain ⟨h1, h2, h3⟩ := i
    rw [isC_ok e] at h3
    simp only [Rho.ev, Int.zero_mul, Int.add_zero, Int.mul_zero] at h3
    rcases Int.mul_eq_zero.mp h3 with z | z
    · exact z
    · have := ok.D
      omega
  have c1 : ∀ {l : Lin} {p q : Int}, c.ρ.Is l p q → isC l 1 = true → p = q := fun {l p q} i e => by
    obtain ⟨h1, h2, h3⟩ := i
    rw [isC_ok e] at h3
    simp only [Rho.ev, Int.zero_mul, Int.add_zero, Int.one_mul] at h3
    have := ok.D
    exact Int.eq_of_mul_eq_mul_right (by omega) h3
  have small : i64 (0 : Int) := ⟨by omega, by omega⟩
  have fin : ∀ n : Lin, (i64 p ∨ i64 p') → p * p' * c.ρ.D = q * q' * c.ρ.ev n → Rs.ok (AV.rat n) cs = .ok r cs' → ∃ r', (if i64 p ∨ i64 p' then Rs.ok (nrm (p * p') (q * q')) cs else .err) = .ok r' cs' ∧ ∀ W v, Rep c W r' v → Rep c W r v := fun n hs he hr => by
    cases hr
    exact ⟨_, if_pos hs, fun W v rv => nrm_rep (Int.mul_pos i1.1 i2.1) he rv⟩
  have hk' : (match mulL l m with
    | some n => Rs.ok (AV.rat n) cs
    | none => .err) = .ok r cs' := hk
  cases e : mulL l m with
  | none =>
    rw [e] at hk'
    cases hk'
  | some n =>
    rw [e] at hk'
    unfold mulL at e
    cases e1 : isC l 0 with
    | true =>
      rw [e1] at e
      cases e
      have z := c0 i1 e1
      refine fin l (.inl (z ▸ small)) ?_ hk'
      rw [isC_ok e1, z]
      simp [Rho.ev]
    | false =>
      rw [e1] at e
      cases e2 : isC l 1 with
      | true =>
        rw [e2] at e
        cases e
        have z := c1 i1 e2
        refine fin m (.inl (z ▸ i64_D (is_D ok i1))) ?_ hk'
        rw [z, Int.mul_assoc, i2.2.2, Int.mul_assoc]
      | false =>
        rw [e2] at e
        cases e3 : isC m 0 with
        | true =>
          rw [e3] at e
          cases e
          have z := c0 i2 e3
          refine fin m (.inr (z ▸ small)) ?_ hk'
          rw [isC_ok e3, z]
          simp [Rho.ev]
        | false =>
          rw [e3] at e
          cases e4 : isC m 1 with
          | true =>
            rw [e4] at e
            cases e
            have z := c1 i2 e4
            refine fin l (.inr (z ▸ i64_D (is_D ok i2))) ?_ hk'
            rw [z, Int.mul_right_comm, i1.2.2, Int.mul_right_comm]
          | false =>
            rw [e4] at e
            cases e) vs H Q h
theorem lift_negate (ok : c.ρ.Ok) (vs : List V) (H : Hp) (Q : VK) (h : evF c F_negate vs H Q) : evF c G_negate vs H Q := by
  obtain ⟨W, as, r, cs', hH, w, rs, hg, fin⟩ := h
  obtain ⟨a, ea, hk⟩ := on1_ok (show on1 (fun a cs => match ratOf a with
    | some l => (frLin l.neg fun l => Rs.ok (.rat l) cs)
    | none => .err) as W.cs = .ok r cs' from hg)
  subst ea
  obtain ⟨v, rfl, ra⟩ := reps1 rs
  cases e : ratOf a with
  | none =>
    rw [e] at hk
    cases hk
  | some l =>
    rw [e] at hk
    have hk2 : (frLin l.neg fun l => Rs.ok (.rat l) W.cs) = .ok r cs' := hk
    rw [frLin_eq] at hk2
    cases hk2
    obtain ⟨p, q, i1, ra'⟩ := rat_rep ok ra e
    refine ⟨W, [.tup [.int p, .int q]], .tup [.int (-p), .int q], _, hH, w, .cons ra' .nil, ?_, fun v W' w' x e rv => fin v W' w' x e ?_⟩
    · show (if inD q then _ else _) = _
      rw [if_pos (is_D ok i1)]
    · obtain ⟨a, rfl, ht⟩ := tup2_at rv
      refine .rat ht ⟨i1.1, ?_, ?_⟩
      · rw [Int.neg_gcd]
        exact i1.2.1
      · rw [ev_neg, Int.neg_mul, i1.2.2, Int.mul_neg]
end
/-! ### promises of defs -/
section
variable {c : Ct} {P : Program} {w : World} {K : PySem.W.Frag} {mg : Str → Option Value} {base : Heap}
theorem Callee.imp {k n : Nat} {x : Str} {F G : Fn} (C : Callee c P w K mg base k x n F) (h : ∀ vs H Q, evF c G vs H Q → evF c F vs H Q) : Callee c P w K mg base k x n G := by
  obtain ⟨f, fd, ps, hn, G', hm, hk, hb⟩ := C
  exact ⟨f, fd, ps, hn, G'.imp fun vs H Q E q => ⟨q.1, h vs H Q q.2⟩, hm, hk, hb⟩
theorem ref_ev {F G : Fn} (h : ∀ as cs r cs', G as cs = .ok r cs' → F as cs = .ok r cs') (vs : List V) (H : Hp) (Q : VK) (q : evF c G vs H Q) : evF c F vs H Q := by
  obtain ⟨W, as, r, cs', hH, w, rs, hg, fin⟩ := q
  exact ⟨W, as, r, cs', hH, w, rs, h _ _ _ _ hg, fin⟩
theorem Callee.ref {k n : Nat} {x : Str} {F G : Fn} (C : Callee c P w K mg base k x n F) (h : ∀ as cs r cs', G as cs = .ok r cs' → F as cs = .ok r cs') : Callee c P w K mg base k x n G := C.imp (ref_ev h)
end
end U
end
noncomputable section
namespace U
open PySem PySem.Spec
open PyProof.Rows L2
/-! ## the draws -/
theorem get_set_same {cs : CS} {i : Nat} {x c : CO} (h : cs.get i = some x) : (cs.set i c).get i = some c := find_put_self _ _ _ _ h
theorem get_set_ne {cs : CS} {i k : Nat} {c : CO} (h : k ≠ i) : (cs.set i c).get k = cs.get k := find_put_ne _ _ _ _ h
def Fr (i : Nat) (cs cs' : CS) : Prop := cs'.n = cs.n ∧ ∀ k, k ≠ i → cs'.get k = cs.get k
theorem Fr.refl (i : Nat) (cs : CS) : Fr i cs cs := ⟨rfl, fun _ _ => rfl⟩
theorem Fr.trans {i : Nat} {a b c : CS} (x : Fr i a b) (y : Fr i b c) : Fr i a c := ⟨y.1.trans x.1, fun k h => (y.2 k h).trans (x.2 k h)⟩
theorem Fr.set (i : Nat) (cs : CS) (c : CO) : Fr i cs (cs.set i c) := ⟨rfl, fun _ h => get_set_ne h⟩
def deckC (ns : List Int) (j : Nat) (x y : Int) : CO := .lst false [.lst (ns.map AV.int), .int (Int.ofNat j), .int x, .int y]
def Dk (ns : List Int) (i : Nat) (cs : CS) : Prop := ∃ j x y, cs.get i = some (deckC ns j x y)
theorem itL_cell {cs : CS} {i : Nat} {fz : Bool} {xs : List AV} (h : cs.get i = some (.lst fz xs)) : itL (.cell i) cs = some xs := by
  show (match cs.get i with
    | some (.lst _ xs) => some xs
    | _ => none) = _
  rw [h]
theorem mutC_cell {cs : CS} {i : Nat} {xs : List AV} (h : cs.get i = some (.lst false xs)) : mutC (.cell i) cs = some (i, xs) := by
  show (match cs.get i with
    | some (.lst false xs) => some (i, xs)
    | _ => none) = _
  rw [h]
section
variable {ns : List Int} {i j : Nat} {x y m : Int} {cs : CS}
theorem ix_d0 (h : cs.get i = some (deckC ns j x y)) : gIx (.cell i) (.int 0) cs = .ok (.lst (ns.map AV.int)) cs := by
  show (match itL (.cell i) cs with
    | some xs => okV (getS xs 0) cs
    | none => (match itT (.cell i) with
      | some xs => okV (getS xs 0) cs
      | none => .err)) = _
  rw [itL_cell h]
  rfl
theorem ix_d1 (h : cs.get i = some (deckC ns j x y)) : gIx (.cell i) (.int 1) cs = .ok (.int (Int.ofNat j)) cs := by
  show (match itL (.cell i) cs with
    | some xs => okV (getS xs 1) cs
    | none => (match itT (.cell i) with
      | some xs => okV (getS xs 1) cs
      | none => .err)) = _
  rw [itL_cell h]
  rfl
theorem ix_d2 (h : cs.get i = some (deckC ns j x y)) : gIx (.cell i) (.int 2) cs = .ok (.int x) cs := by
  show (match itL (.cell i) cs with
    | some xs => okV (getS xs 2) cs
    | none => (match itT (.cell i) with
      | some xs => okV (getS xs 2) cs
      | none => .err)) = _
  rw [itL_cell h]
  rfl
theorem ix_d3 (h : cs.get i = some (deckC ns j x y)) : gIx (.cell i) (.int 3) cs = .ok (.int y) cs := by
  show (match itL (.cell i) cs with
    | some xs => okV (getS xs 3) cs
    | none => (match itT (.cell i) with
      | some xs => okV (getS xs 3) cs
      | none => .err)) = _
  rw [itL_cell h]
  rfl
theorem st_d (h : cs.get i = some (deckC ns j x y)) (k : Nat) (hk : k < 4) (v : AV) : setIx (.cell i) (.int (Int.ofNat k)) v cs = some (cs.set i (.lst false ([.lst (ns.map AV.int), .int (Int.ofNat j), .int x, .int y].set k v))) := by
  show (match mutC (.cell i) cs with
    | some (n, xs) => (match Nat.blt k (lenN xs) with
      | true => some (cs.set n (.lst false (xs.set k v)))
      | false => none)
    | none => none) = _
  rw [mutC_cell h]
  show (match Nat.blt k 4 with
      | true => some (cs.set i (.lst false (([AV.lst (ns.map AV.int), AV.int (Int.ofNat j), AV.int x, AV.int y] : List AV).set k v)))
      | false => none) = _
  rw [show Nat.blt k 4 = true from Nat.ble_eq_true_of_le hk]
theorem st_d1 (h : cs.get i = some (deckC ns j x y)) : setIx (.cell i) (.int 1) (.int (Int.ofNat j + 1)) cs = some (cs.set i (deckC ns (j + 1) x y)) := st_d h 1 (by omega) _
theorem st_d2 (h : cs.get i = some (deckC ns j x y)) (z : Int) : setIx (.cell i) (.int 2) (.int z) cs = some (cs.set i (deckC ns j z y)) := st_d h 2 (by omega) _
theorem st_d3 (h : cs.get i = some (deckC ns j x y)) (z : Int) : setIx (.cell i) (.int 3) (.int z) cs = some (cs.set i (deckC ns j x z)) := st_d h 3 (by omega) _
def dA : Stm := sIf (tOf (cBin gGe (cBin gIx (cVar 0) (cK (.int 2))) (cVar 1))) (sSeq (sSet 2 (cBin gModA (cCall fInt (aCons (cBin gIx (cVar 0) (cK (.int 2))) (aNil))) (cVar 1))) (sSeq (sIx (cBin gFdA (cBin gIx (cVar 0) (cK (.int 2))) (cVar 1)) (cVar 0) (cK (.int 2))) (sRet (cVar 2)))) (sNil)
def dC : Stm := sIf (tOf (cBin gLt (cBin gIx (cVar 0) (cK (.int 1))) (cCall fLen (aCons (cBin gIx (cVar 0) (cK (.int 0))) (aNil))))) (sSet 3 (cBin gIx (cBin gIx (cVar 0) (cK (.int 0))) (cBin gIx (cVar 0) (cK (.int 1))))) (sNil)
def dD : Stm := sIx (cBin gAdd (cBin gIx (cVar 0) (cK (.int 1))) (cK (.int 1))) (cVar 0) (cK (.int 1))
def dE : Stm := sIx (cK (.int 0)) (cVar 0) (cK (.int 2))
def dF : Stm := sIf (tOf (cBin gGe (cVar 3) (cBin gPowA (cK (.int 10)) (cK (.int 18))))) (sSeq (sIx (cBin gFdA (cVar 3) (cVar 1)) (cVar 0) (cK (.int 2))) (sRet (cBin gModA (cCall fInt (aCons (cVar 3) (aNil))) (cVar 1)))) (sNil)
def dG : Stm := sIx (cBin gModA (cCall fInt (aCons (cBin gAdd (cBin gAdd (cBin gMulA (cBin gIx (cVar 0) (cK (.int 3))) (cK (.int 48271))) (cBin gMulA (cVar 3) (cK (.int 69621)))) (cBin gMulA (cBin gIx (cVar 0) (cK (.int 1))) (cK (.int 911)))) (aNil))) (cK (.int 2147483647))) (cVar 0) (cK (.int 3))
def dH : Stm := sIx (cBin gModA (cCall fInt (aCons (cBin gAdd (cBin gMulA (cBin gIx (cVar 0) (cK (.int 3))) (cK (.int 48271))) (cK (.int 12345))) (aNil))) (cK (.int 2147483647))) (cVar 0) (cK (.int 3))
def dI : Stm := sRet (cBin gModA (cCall fInt (aCons (cBin gFdA (cBin gIx (cVar 0) (cK (.int 3))) (cK (.int 64))) (aNil))) (cVar 1))
theorem draw_parts : B__law_draw = sSeq dA (sSeq (sSet 3 (cK (.int 0))) (sSeq dC (sSeq dD (sSeq dE (sSeq dF (sSeq dG (sSeq dH dI))))))) := rfl
variable {a b : AV} {z : Int}
theorem dA_t (h : cs.get i = some (deckC ns j x y)) (hm : 1 ≤ m ∧ m ≤ 9) (hx : m ≤ x) : dA [.cell i, .int m, a, b] cs = .rt (.int (x % m)) (cs.set i (deckC ns j (x / m) y)) := by
  have m1 : 0 < m := by omega
  have m2 : 0 < m ∧ m < 1073741824 := by omega
  simp only [dA, fnF, sRet, sSet, sSeq, sIf, sNil, sExpr, sIx, cFn, cCall, aCons, aNil, cBin, cUn, cTup, cVar, cK, tOf, getS_zero, getS_succ, setS_zero, setS_succ, okV_tup, okV_int, okV_cell, okV_lst, ok_bind, ok_go, okI_eq, okB_eq, okTup2, on2I, on1, on2, lenN_cons, lenN_nil, Nat.zero_add, Nat.beq_refl, ix_tup0, ix_tup1, gNeg, gAdd, gSub, gMulA, gFdA, gModA, gLt, gGt, gGe, gEq, eqT, leI_eq, ltI_eq, eqI_eq, fInt, fAbs, fGcd, decide_true, decide_false, ix_d2 h, hx, if_pos m1, if_pos m2, st_d2 h]
theorem dA_f (h : cs.get i = some (deckC ns j x y)) (hx : ¬ m ≤ x) : dA [.cell i, .int m, a, b] cs = .nx [.cell i, .int m, a, b] cs := by
  simp only [dA, fnF, sRet, sSet, sSeq, sIf, sNil, sExpr, sIx, cFn, cCall, aCons, aNil, cBin, cUn, cTup, cVar, cK, tOf, getS_zero, getS_succ, setS_zero, setS_succ, okV_tup, okV_int, okV_cell, okV_lst, ok_bind, ok_go, okI_eq, okB_eq, okTup2, on2I, on1, on2, lenN_cons, lenN_nil, Nat.zero_add, Nat.beq_refl, ix_tup0, ix_tup1, gNeg, gAdd, gSub, gMulA, gFdA, gModA, gLt, gGt, gGe, gEq, eqT, leI_eq, ltI_eq, eqI_eq, fInt, fAbs, fGcd, decide_true, decide_false, ix_d2 h, hx]
theorem dC_ex (h : cs.get i = some (deckC ns j x y)) : ∃ z, dC [.cell i, .int m, a, .int 0] cs = .nx [.cell i, .int m, a, .int z] cs := by
  have el : lenN (ns.map AV.int) = ns.length := by rw [lenN_eq, List.length_map]
  have eL : fLen [.lst (ns.map AV.int)] cs = .ok (.int (Int.ofNat ns.length)) cs := by
    rw [← el]
    show okI (.ofNat (lenN (ns.map AV.int))) cs = _
    exact okI_eq _ _
  by_cases c : Int.ofNat j < Int.ofNat ns.length
  · have cj : j < ns.length := by simpa using c
    refine ⟨ns[j], ?_⟩
    have eg : gIx (.lst (ns.map AV.int)) (.int (Int.ofNat j)) cs = .ok (.int ns[j]) cs := by
      have gi : ∀ (l : List AV) (k : Nat) (v : AV), l[k]? = some v → getS l k = v := fun l => by
        induction l with
        | nil => intro k v h; simp at h
        | cons q r ih =>
          intro k v h
          cases k with
          | zero => exact Option.some.inj h
          | succ k => exact ih k v (by simpa using h)
      show okV (getS (ns.map AV.int) j) cs = _
      rw [gi _ j (.int ns[j]) (by rw [List.getElem?_map, List.getElem?_eq_getElem cj]; rfl)]
      rfl
    simp only [dC, fnF, sRet, sSet, sSeq, sIf, sNil, sExpr, sIx, cFn, cCall, aCons, aNil, cBin, cUn, cTup, cVar, cK, tOf, getS_zero, getS_succ, setS_zero, setS_succ, okV_tup, okV_int, okV_cell, okV_lst, ok_bind, ok_go, okI_eq, okB_eq, okTup2, on2I, on1, on2, lenN_cons, lenN_nil, Nat.zero_add, Nat.beq_refl, ix_tup0, ix_tup1, gNeg, gAdd, gSub, gMulA, gFdA, gModA, gLt, gGt, gGe, gEq, eqT, leI_eq, ltI_eq, eqI_eq, fInt, fAbs, fGcd, decide_true, decide_false, ix_d0 h, ix_d1 h, eL, eg, c]
  · refine ⟨0, ?_⟩
    simp only [dC, fnF, sRet, sSet, sSeq, sIf, sNil, sExpr, sIx, cFn, cCall, aCons, aNil, cBin, cUn, cTup, cVar, cK, tOf, getS_zero, getS_succ, setS_zero, setS_succ, okV_tup, okV_int, okV_cell, okV_lst, ok_bind, ok_go, okI_eq, okB_eq, okTup2, on2I, on1, on2, lenN_cons, lenN_nil, Nat.zero_add, Nat.beq_refl, ix_tup0, ix_tup1, gNeg, gAdd, gSub, gMulA, gFdA, gModA, gLt, gGt, gGe, gEq, eqT, leI_eq, ltI_eq, eqI_eq, fInt, fAbs, fGcd, decide_true, decide_false, ix_d0 h, ix_d1 h, eL, c]
theorem dD_e (h : cs.get i = some (deckC ns j x y)) : dD [.cell i, .int m, a, b] cs = .nx [.cell i, .int m, a, b] (cs.set i (deckC ns (j + 1) x y)) := by
  simp only [dD, fnF, sRet, sSet, sSeq, sIf, sNil, sExpr, sIx, cFn, cCall, aCons, aNil, cBin, cUn, cTup, cVar, cK, tOf, getS_zero, getS_succ, setS_zero, setS_succ, okV_tup, okV_int, okV_cell, okV_lst, ok_bind, ok_go, okI_eq, okB_eq, okTup2, on2I, on1, on2, lenN_cons, lenN_nil, Nat.zero_add, Nat.beq_refl, ix_tup0, ix_tup1, gNeg, gAdd, gSub, gMulA, gFdA, gModA, gLt, gGt, gGe, gEq, eqT, leI_eq, ltI_eq, eqI_eq, fInt, fAbs, fGcd, decide_true, decide_false, ix_d1 h, st_d1 h]
theorem dE_e (h : cs.get i = some (deckC ns j x y)) : dE [.cell i, .int m, a, b] cs = .nx [.cell i, .int m, a, b] (cs.set i (deckC ns j 0 y)) := by
  simp only [dE, fnF, sRet, sSet, sSeq, sIf, sNil, sExpr, sIx, cFn, cCall, aCons, aNil, cBin, cUn, cTup, cVar, cK, tOf, getS_zero, getS_succ, setS_zero, setS_succ, okV_tup, okV_int, okV_cell, okV_lst, ok_bind, ok_go, okI_eq, okB_eq, okTup2, on2I, on1, on2, lenN_cons, lenN_nil, Nat.zero_add, Nat.beq_refl, ix_tup0, ix_tup1, gNeg, gAdd, gSub, gMulA, gFdA, gModA, gLt, gGt, gGe, gEq, eqT, leI_eq, ltI_eq, eqI_eq, fInt, fAbs, fGcd, decide_true, decide_false, st_d2 h]
theorem pow18 : gPowA (.int 10) (.int 18) cs = .ok (.int 1000000000000000000) cs := by
  have c : (0 : Int) ≤ 18 ∧ (18 : Int) ≤ 100 ∧ i64 10 := ⟨by omega, by omega, by omega, by omega⟩
  simp only [gPowA, on2I, if_pos c, okI_eq]
  rfl
theorem dF_t (h : cs.get i = some (deckC ns j x y)) (hm : 1 ≤ m ∧ m ≤ 9) (hz : 1000000000000000000 ≤ z) : dF [.cell i, .int m, a, .int z] cs = .rt (.int (z % m)) (cs.set i (deckC ns j (z / m) y)) := by
  have m1 : 0 < m := by omega
  have m2 : 0 < m ∧ m < 1073741824 := by omega
  simp only [dF, fnF, sRet, sSet, sSeq, sIf, sNil, sExpr, sIx, cFn, cCall, aCons, aNil, cBin, cUn, cTup, cVar, cK, tOf, getS_zero, getS_succ, setS_zero, setS_succ, okV_tup, okV_int, okV_cell, okV_lst, ok_bind, ok_go, okI_eq, okB_eq, okTup2, on2I, on1, on2, lenN_cons, lenN_nil, Nat.zero_add, Nat.beq_refl, ix_tup0, ix_tup1, gNeg, gAdd, gSub, gMulA, gFdA, gModA, gLt, gGt, gGe, gEq, eqT, leI_eq, ltI_eq, eqI_eq, fInt, fAbs, fGcd, decide_true, decide_false, pow18, hz, if_pos m1, if_pos m2, st_d2 h]
theorem dF_f (hz : ¬ 1000000000000000000 ≤ z) : dF [.cell i, .int m, a, .int z] cs = .nx [.cell i, .int m, a, .int z] cs := by
  simp only [dF, fnF, sRet, sSet, sSeq, sIf, sNil, sExpr, sIx, cFn, cCall, aCons, aNil, cBin, cUn, cTup, cVar, cK, tOf, getS_zero, getS_succ, setS_zero, setS_succ, okV_tup, okV_int, okV_cell, okV_lst, ok_bind, ok_go, okI_eq, okB_eq, okTup2, on2I, on1, on2, lenN_cons, lenN_nil, Nat.zero_add, Nat.beq_refl, ix_tup0, ix_tup1, gNeg, gAdd, gSub, gMulA, gFdA, gModA, gLt, gGt, gGe, gEq, eqT, leI_eq, ltI_eq, eqI_eq, fInt, fAbs, fGcd, decide_true, decide_false, pow18, hz]
theorem dG_ex (h : cs.get i = some (deckC ns j x y)) : ∃ y', dG [.cell i, .int m, a, .int z] cs = .nx [.cell i, .int m, a, .int z] (cs.set i (deckC ns j x y')) := by
  have s1 : i64 48271 := ⟨by omega, by omega⟩
  have s2 : i64 69621 := ⟨by omega, by omega⟩
  have s3 : i64 911 := ⟨by omega, by omega⟩
  have s4 : (0 : Int) < 2147483647 := by omega
  refine ⟨(y * 48271 + z * 69621 + Int.ofNat j * 911) % 2147483647, ?_⟩
  simp only [dG, fnF, sRet, sSet, sSeq, sIf, sNil, sExpr, sIx, cFn, cCall, aCons, aNil, cBin, cUn, cTup, cVar, cK, tOf, getS_zero, getS_succ, setS_zero, setS_succ, okV_tup, okV_int, okV_cell, okV_lst, ok_bind, ok_go, okI_eq, okB_eq, okTup2, on2I, on1, on2, lenN_cons, lenN_nil, Nat.zero_add, Nat.beq_refl, ix_tup0, ix_tup1, gNeg, gAdd, gSub, gMulA, gFdA, gModA, gLt, gGt, gGe, gEq, eqT, leI_eq, ltI_eq, eqI_eq, fInt, fAbs, fGcd, decide_true, decide_false, ix_d3 h, ix_d1 h, s1, s2, s3, or_true, if_true, if_pos s4, st_d3 h]
theorem dH_ex (h : cs.get i = some (deckC ns j x y)) : ∃ y', dH [.cell i, .int m, a, .int z] cs = .nx [.cell i, .int m, a, .int z] (cs.set i (deckC ns j x y')) := by
  have s1 : i64 48271 := ⟨by omega, by omega⟩
  have s4 : (0 : Int) < 2147483647 := by omega
  refine ⟨(y * 48271 + 12345) % 2147483647, ?_⟩
  simp only [dH, fnF, sRet, sSet, sSeq, sIf, sNil, sExpr, sIx, cFn, cCall, aCons, aNil, cBin, cUn, cTup, cVar, cK, tOf, getS_zero, getS_succ, setS_zero, setS_succ, okV_tup, okV_int, okV_cell, okV_lst, ok_bind, ok_go, okI_eq, okB_eq, okTup2, on2I, on1, on2, lenN_cons, lenN_nil, Nat.zero_add, Nat.beq_refl, ix_tup0, ix_tup1, gNeg, gAdd, gSub, gMulA, gFdA, gModA, gLt, gGt, gGe, gEq, eqT, leI_eq, ltI_eq, eqI_eq, fInt, fAbs, fGcd, decide_true, decide_false, ix_d3 h, s1, or_true, if_true, if_pos s4, st_d3 h]
theorem dI_e (h : cs.get i = some (deckC ns j x y)) (hm : 1 ≤ m ∧ m ≤ 9) : dI [.cell i, .int m, a, .int z] cs = .rt (.int (y / 64 % m)) cs := by
  have m1 : 0 < m := by omega
  have s4 : (0 : Int) < 64 ∧ (64 : Int) < 1073741824 := by omega
  simp only [dI, fnF, sRet, sSet, sSeq, sIf, sNil, sExpr, sIx, cFn, cCall, aCons, aNil, cBin, cUn, cTup, cVar, cK, tOf, getS_zero, getS_succ, setS_zero, setS_succ, okV_tup, okV_int, okV_cell, okV_lst, ok_bind, ok_go, okI_eq, okB_eq, okTup2, on2I, on1, on2, lenN_cons, lenN_nil, Nat.zero_add, Nat.beq_refl, ix_tup0, ix_tup1, gNeg, gAdd, gSub, gMulA, gFdA, gModA, gLt, gGt, gGe, gEq, eqT, leI_eq, ltI_eq, eqI_eq, fInt, fAbs, fGcd, decide_true, decide_false, ix_d3 h, if_pos m1, if_pos s4]
theorem draw_ex (hm : 1 ≤ m ∧ m ≤ 9) (hd : Dk ns i cs) : ∃ r cs', F__law_draw [.cell i, .int m] cs = .ok (.int r) cs' ∧ 0 ≤ r ∧ r < m ∧ Dk ns i cs' ∧ Fr i cs cs' := by
  obtain ⟨j, x, y, h⟩ := hd
  have e : padS 4 [.cell i, .int m] = [.cell i, .int m, .und, .und] := rfl
  have md : ∀ t : Int, 0 ≤ t % m ∧ t % m < m := fun t => ⟨Int.emod_nonneg t (by omega), Int.emod_lt_of_pos t (by omega)⟩
  by_cases hx : m ≤ x
  · refine ⟨x % m, _, ?_, (md x).1, (md x).2, ⟨j, x / m, y, get_set_same h⟩, .set i cs _⟩
    simp only [F__law_draw, fnF, e, draw_parts, sSeq, dA_t h hm hx]
  · obtain ⟨z, hz⟩ := dC_ex (m := m) (a := .und) h
    have h1 : (cs.set i (deckC ns (j + 1) x y)).get i = some (deckC ns (j + 1) x y) := get_set_same h
    have h2 : ((cs.set i (deckC ns (j + 1) x y)).set i (deckC ns (j + 1) 0 y)).get i = some (deckC ns (j + 1) 0 y) := get_set_same h1
    have f2 := (Fr.set i cs (deckC ns (j + 1) x y)).trans (Fr.set i _ (deckC ns (j + 1) 0 y))
    by_cases big : 1000000000000000000 ≤ z
    · refine ⟨z % m, _, ?_, (md z).1, (md z).2, ⟨j + 1, z / m, y, get_set_same h2⟩, f2.trans (.set i _ _)⟩
      simp only [F__law_draw, fnF, e, draw_parts, sSeq, dA_f h hx, sSet, cK, ok_go, setS_zero, setS_succ, hz, dD_e h, dE_e h1, dF_t h2 hm big]
    · obtain ⟨y1, g1⟩ := dG_ex (m := m) (a := .und) (z := z) h2
      have h3 := get_set_same (c := deckC ns (j + 1) 0 y1) h2
      obtain ⟨y2, g2⟩ := dH_ex (m := m) (a := .und) (z := z) h3
      have h4 := get_set_same (c := deckC ns (j + 1) 0 y2) h3
      refine ⟨y2 / 64 % m, _, ?_, (md _).1, (md _).2, ⟨j + 1, 0, y2, h4⟩, (f2.trans (.set i _ _)).trans (.set i _ _)⟩
      simp only [F__law_draw, fnF, e, draw_parts, sSeq, dA_f h hx, sSet, cK, ok_go, setS_zero, setS_succ, hz, dD_e h, dE_e h1, dF_f big, g1, g2, dI_e h4 hm]
end
/-! ### drawn values -/
/-- p / q, in lowest terms, is n / 12 -/
def VV (p q n : Int) : Prop := 0 < q ∧ Int.gcd p q = 1 ∧ p * 12 = q * n
def rho0 (n : Int) : Rho := ⟨12, n, n, n, n, fun _ => 0, fun _ => 1⟩
theorem vv_nrm {p q n : Int} (hq : 0 < q) (h : p * 12 = q * n) : VV (p / (Nat.gcd p.natAbs q.natAbs : Nat)) (q / (Nat.gcd p.natAbs q.natAbs : Nat)) n := by
  have e : (rho0 n).ev (unitL 0) = n := ev_unit (rho0 n) 0
  have r := nrm_is (ρ := rho0 n) (l := unitL 0) hq (by rw [e]; exact h)
  refine ⟨r.1, r.2.1, ?_⟩
  have := r.2.2
  rw [e] at this
  exact this
theorem vv_D {p q n : Int} (h : VV p q n) : inD q := by
  obtain ⟨h1, h2, h3⟩ := h
  have d : q ∣ p * 12 := ⟨n, h3⟩
  have d1 : q.natAbs ∣ p.natAbs * (12 : Int).natAbs := by
    rw [← Int.natAbs_mul]
    exact Int.natAbs_dvd_natAbs.mpr d
  have co : Nat.Coprime q.natAbs p.natAbs := by
    show Nat.gcd _ _ = 1
    rw [Nat.gcd_comm]
    exact h2
  have d2 : q ∣ 12 := Int.natAbs_dvd_natAbs.mp (co.dvd_of_dvd_mul_left d1)
  exact ⟨h1, Int.le_trans (Int.le_of_dvd (by omega) d2) (by omega)⟩
theorem ratio_ex {p q : Int} (h1 : 1 ≤ q) (h4 : q ≤ 4) (cs : CS) : ∃ p' q' n, G__law_ratio [.int p, .int q] cs = .ok (.tup [.int p', .int q']) cs ∧ VV p' q' n ∧ (0 < p → 0 < n) := by
  have c : 0 < q ∧ q ≤ 4096 := by omega
  have e : G__law_ratio [.int p, .int q] cs = .ok (nrm p q) cs := by
    show (if 0 < q ∧ q ≤ 4096 then Rs.ok (nrm p q) cs else .err) = _
    rw [if_pos c]
  have n : ∃ n : Int, p * 12 = q * n ∧ (0 < p → 0 < n) := by
    have q4 : q = 1 ∨ q = 2 ∨ q = 3 ∨ q = 4 := by omega
    rcases q4 with z | z | z | z
    · exact ⟨p * 12, by rw [z]; omega, fun _ => by omega⟩
    · exact ⟨p * 6, by rw [z]; omega, fun _ => by omega⟩
    · exact ⟨p * 4, by rw [z]; omega, fun _ => by omega⟩
    · exact ⟨p * 3, by rw [z]; omega, fun _ => by omega⟩
  obtain ⟨n, hn, hp⟩ := n
  exact ⟨_, _, n, e, vv_nrm c.1 hn, hp⟩
section
variable {ns : List Int} {i : Nat} {cs : CS}
theorem small_ex (hd : Dk ns i cs) : ∃ p q n cs', F__law_small [.cell i] cs = .ok (.tup [.int p, .int q]) cs' ∧ VV p q n ∧ Dk ns i cs' ∧ Fr i cs cs' := by
  have e : padS 1 [.cell i] = [.cell i] := rfl
  obtain ⟨r1, cs1, e1, l1, u1, d1, f1⟩ := draw_ex (m := 4) (by omega) hd
  by_cases c : 0 < r1
  · obtain ⟨r2, cs2, e2, l2, u2, d2, f2⟩ := draw_ex (m := 6) (by omega) d1
    refine ⟨r2 - 2, 1, (r2 - 2) * 12, cs2, ?_, ⟨by omega, by simp, by omega⟩, d2, f1.trans f2⟩
    simp only [F__law_small, fnF, e, B__law_small, fnF, sRet, sSet, sSeq, sIf, sNil, sExpr, sIx, cFn, cCall, aCons, aNil, cBin, cUn, cTup, cVar, cK, tOf, getS_zero, getS_succ, setS_zero, setS_succ, okV_tup, okV_int, okV_cell, okV_lst, ok_bind, ok_go, okI_eq, okB_eq, okTup2, on2I, on1, on2, lenN_cons, lenN_nil, Nat.zero_add, Nat.beq_refl, ix_tup0, ix_tup1, gNeg, gAdd, gSub, gMulA, gFdA, gModA, gLt, gGt, gGe, gEq, eqT, leI_eq, ltI_eq, eqI_eq, fInt, fAbs, fGcd, decide_true, decide_false, e1, e2, c]
  · obtain ⟨r2, cs2, e2, l2, u2, d2, f2⟩ := draw_ex (m := 9) (by omega) d1
    obtain ⟨r3, cs3, e3, l3, u3, d3, f3⟩ := draw_ex (m := 4) (by omega) d2
    obtain ⟨p, q, n, e4, v, _⟩ := ratio_ex (p := r2 - 4) (q := 1 + r3) (by omega) (by omega) cs3
    refine ⟨p, q, n, cs3, ?_, v, d3, (f1.trans f2).trans f3⟩
    simp only [F__law_small, fnF, e, B__law_small, fnF, sRet, sSet, sSeq, sIf, sNil, sExpr, sIx, cFn, cCall, aCons, aNil, cBin, cUn, cTup, cVar, cK, tOf, getS_zero, getS_succ, setS_zero, setS_succ, okV_tup, okV_int, okV_cell, okV_lst, ok_bind, ok_go, okI_eq, okB_eq, okTup2, on2I, on1, on2, lenN_cons, lenN_nil, Nat.zero_add, Nat.beq_refl, ix_tup0, ix_tup1, gNeg, gAdd, gSub, gMulA, gFdA, gModA, gLt, gGt, gGe, gEq, eqT, leI_eq, ltI_eq, eqI_eq, fInt, fAbs, fGcd, decide_true, decide_false, e1, e2, e3, e4, c]
def vB : Stm := sSeq (sSet 4 (cFn 2 G__law_ratio (aCons (cBin gAdd (cK (.int 1)) (cFn 2 F__law_draw (aCons (cVar 0) (aCons (cK (.int 6)) (aNil))))) (aCons (cBin gAdd (cK (.int 1)) (cFn 2 F__law_draw (aCons (cVar 0) (aCons (cK (.int 3)) (aNil))))) (aNil))))) (sExpr (cMeth gApp (cVar 2) (aCons (cFn 2 G__law_add (aCons (cBin gIx (cVar 2) (cVar 3)) (aCons (cVar 4) (aNil)))) (aNil))))
theorem values_parts : B__law_values = sSeq (sSet 2 (cCel (aCons (cFn 1 F__law_small (aCons (cVar 0) (aNil))) (aNil)))) (sSeq (sFor (iR1 (cBin gSub (cVar 1) (cK (.int 1)))) (tgN 3) vB) (sRet (cVar 2))) := rfl
theorem vB_ex {k b : AV} {c t : Nat} {xs : List AV} {p q n : Int} (hd : Dk ns i cs) (hc : c ≠ i) (hg : cs.get c = some (.lst false xs)) (hx : getS xs t = .tup [.int p, .int q]) (hl : xs.length ≤ 10) (hv : VV p q n) :
    ∃ b' cs' p' q' n', vB [.cell i, k, .cell c, .int (Int.ofNat t), b] cs = .nx [.cell i, k, .cell c, .int (Int.ofNat t), b'] cs' ∧ Dk ns i cs' ∧ cs'.get c = some (.lst false (xs ++ [.tup [.int p', .int q']])) ∧ VV p' q' n' ∧ n < n' ∧ cs'.n = cs.n ∧ ∀ k, k ≠ i → k ≠ c → cs'.get k = cs.get k := by
  obtain ⟨r1, cs1, e1, l1, u1, d1, f1⟩ := draw_ex (m := 6) (by omega) hd
  obtain ⟨r2, cs2, e2, l2, u2, d2, f2⟩ := draw_ex (m := 3) (by omega) d1
  obtain ⟨p1, q1, n1, e3, v1, pos⟩ := ratio_ex (p := 1 + r1) (q := 1 + r2) (by omega) (by omega) cs2
  have n1p := pos (by omega)
  have f12 := f1.trans f2
  have hg2 : cs2.get c = some (.lst false xs) := (f12.2 c hc).trans hg
  have eS : vB [.cell i, k, .cell c, .int (Int.ofNat t), b] cs = (sExpr (cMeth gApp (cVar 2) (aCons (cFn 2 G__law_add (aCons (cBin gIx (cVar 2) (cVar 3)) (aCons (cVar 4) (aNil)))) (aNil)))) [.cell i, k, .cell c, .int (Int.ofNat t), .tup [.int p1, .int q1]] cs2 := by
    unfold vB sSeq
    have e5 : (sSet 4 (cFn 2 G__law_ratio (aCons (cBin gAdd (cK (.int 1)) (cFn 2 F__law_draw (aCons (cVar 0) (aCons (cK (.int 6)) (aNil))))) (aCons (cBin gAdd (cK (.int 1)) (cFn 2 F__law_draw (aCons (cVar 0) (aCons (cK (.int 3)) (aNil))))) (aNil))))) [.cell i, k, .cell c, .int (Int.ofNat t), b] cs = .nx [.cell i, k, .cell c, .int (Int.ofNat t), .tup [.int p1, .int q1]] cs2 := by
      simp only [fnF, sRet, sSet, sSeq, sIf, sNil, sExpr, sIx, cFn, cCall, aCons, aNil, cBin, cUn, cTup, cVar, cK, tOf, getS_zero, getS_succ, setS_zero, setS_succ, okV_tup, okV_int, okV_cell, okV_lst, ok_bind, ok_go, okI_eq, okB_eq, okTup2, on2I, on1, on2, lenN_cons, lenN_nil, Nat.zero_add, Nat.beq_refl, ix_tup0, ix_tup1, gNeg, gAdd, gSub, gMulA, gFdA, gModA, gLt, gGt, gGe, gEq, eqT, leI_eq, ltI_eq, eqI_eq, fInt, fAbs, fGcd, decide_true, decide_false, e1, e2, e3]
    rw [e5]
  have dd := mulD (vv_D hv) (vv_D v1)
  have ea : G__law_add [.tup [.int p, .int q], .tup [.int p1, .int q1]] cs2 = .ok (nrm (p * q1 + p1 * q) (q * q1)) cs2 := by
    show (if inD q ∧ inD q1 then _ else _) = _
    rw [if_pos ⟨vv_D hv, vv_D v1⟩]
  have ei : gIx (.cell c) (.int (Int.ofNat t)) cs2 = .ok (.tup [.int p, .int q]) cs2 := by
    show (match itL (.cell c) cs2 with
      | some xs => okV (getS xs t) cs2
      | none => (match itT (.cell c) with
        | some xs => okV (getS xs t) cs2
        | none => .err)) = _
    rw [itL_cell hg2]
    show okV (getS xs t) cs2 = _
    rw [hx]
    rfl
  have el : itL (.cell c) cs2 = some xs := itL_cell hg2
  have sh : ∀ (n : Nat) (l : List AV), l.length ≤ n → shr n l = true := fun n => by
    induction n with
    | zero =>
      intro l h
      cases l with
      | nil => rfl
      | cons _ _ => simp at h
    | succ n ih =>
      intro l h
      cases l with
      | nil => rfl
      | cons _ r => exact ih r (by simpa using h)
  have ep : ∀ v, gApp (.cell c) [v] cs2 = .ok .non (cs2.set c (.lst false (xs ++ [v]))) := fun v => by
    show (match mutC (.cell c) cs2 with
      | some (n, xs) => (match shr lim xs with
        | true => Rs.ok AV.non (cs2.set n (.lst false (appS xs [v])))
        | false => .err)
      | none => .err) = _
    rw [mutC_cell hg2]
    show (match shr lim xs with
        | true => Rs.ok AV.non (cs2.set c (.lst false (appS xs [v])))
        | false => .err) = _
    rw [sh lim xs (Nat.le_trans hl (by decide)), appS_eq]
  have v2 : VV ((p * q1 + p1 * q) / (Nat.gcd (p * q1 + p1 * q).natAbs (q * q1).natAbs : Nat)) ((q * q1) / (Nat.gcd (p * q1 + p1 * q).natAbs (q * q1).natAbs : Nat)) (n + n1) := by
    refine vv_nrm dd.1 ?_
    rw [Int.add_mul, Int.mul_add]
    have a1 : p * q1 * 12 = q * q1 * n := by rw [Int.mul_right_comm, hv.2.2, Int.mul_right_comm]
    have a2 : p1 * q * 12 = q * q1 * n1 := by rw [Int.mul_right_comm, v1.2.2, Int.mul_comm q q1, Int.mul_right_comm]
    rw [a1, a2]
  refine ⟨.tup [.int p1, .int q1], _, _, _, n + n1, ?_, ?_, get_set_same hg2, v2, (by omega), f12.1, fun k h1 h2 => (get_set_ne h2).trans (f12.2 k h1)⟩
  · rw [eS]
    simp only [fnF, sRet, sSet, sSeq, sIf, sNil, sExpr, sIx, cFn, cCall, aCons, aNil, cBin, cUn, cTup, cVar, cK, tOf, getS_zero, getS_succ, setS_zero, setS_succ, okV_tup, okV_int, okV_cell, okV_lst, ok_bind, ok_go, okI_eq, okB_eq, okTup2, on2I, on1, on2, lenN_cons, lenN_nil, Nat.zero_add, Nat.beq_refl, ix_tup0, ix_tup1, gNeg, gAdd, gSub, gMulA, gFdA, gModA, gLt, gGt, gGe, gEq, eqT, leI_eq, ltI_eq, eqI_eq, fInt, fAbs, fGcd, decide_true, decide_false, cMeth, el, ei, ea, nrm, ep]
  · obtain ⟨j, x, y, h⟩ := d2
    exact ⟨j, x, y, (get_set_ne (Ne.symm hc)).trans h⟩
end
end U
end
noncomputable section
namespace U
open PySem PySem.Spec
open PyProof.Rows L2
/-! ## cells and slots that are not looked at any more -/
def stiff (co : CO) : Bool := match co with
  | .lst true _ => true
  | _ => false
def mayFg (k : Nat) (cs : CS) : Nat → Bool
  | 0 => true
  | j + 1 => match Nat.beq j k with
    | true => mayFg k cs j
    | false => (match cs.get j with
      | some co => (match stiff co with
        | true => false
        | false => mayFg k cs j)
      | none => mayFg k cs j)
def sFg (is : List Nat) (k : Nat) (B : Stm) : Stm := fun sl cs => match mayFg k cs cs.n with
  | true => (match cs.get k with
    | some co => B (wipeS sl is) ⟨cs.n, [(k, co)]⟩
    | none => .err)
  | false => .err
theorem mayFg_ok {k : Nat} {cs : CS} : ∀ n, mayFg k cs n = true → ∀ i xs, i < n → cs.get i = some (.lst true xs) → i = k
  | 0, _, i, xs, h, _ => by cases h
  | j + 1, hm, i, xs, hi, h => by
    unfold mayFg at hm
    cases e : Nat.beq j k with
    | true =>
      rw [e] at hm
      have ej := Nat.eq_of_beq_eq_true e
      by_cases c : i = j
      · exact c.trans ej
      · exact mayFg_ok j hm i xs (by omega) h
    | false =>
      rw [e] at hm
      by_cases c : i = j
      · subst c
        rw [h] at hm
        cases hm
      · cases e2 : cs.get j with
        | none =>
          rw [e2] at hm
          exact mayFg_ok j hm i xs (by omega) h
        | some co =>
          rw [e2] at hm
          cases es : stiff co with
          | true =>
            simp only [es] at hm
            cases hm
          | false =>
            simp only [es] at hm
            exact mayFg_ok j hm i xs (by omega) h
section
variable {c : Ct} {X : Cx}
theorem SlOk.less {W : Wd} {sl : Sl} {σ : L2.St} {i : Nat} (s : SlOk c W sl σ) : SlOk c W (setS sl i .und) σ := by
  rw [setS_eq]
  refine ⟨by rw [List.length_set]; exact s.len, fun j b h => ?_⟩
  by_cases hj : i = j
  · subst hj
    by_cases hi : i < sl.length
    · rw [List.getElem?_set_self hi] at h
      cases h
      exact .inl rfl
    · rw [List.getElem?_eq_none (by rw [List.length_set]; omega)] at h
      cases h
  · rw [List.getElem?_set_ne hj] at h
    exact s.at_ j b h
theorem SlOk.lessAll {W : Wd} {sl : Sl} {σ : L2.St} (s : SlOk c W sl σ) : ∀ is : List Nat, SlOk c W (wipeS sl is) σ
  | [] => s
  | i :: is => (SlOk.lessAll s is).less
theorem rs_fg {is : List Nat} {k : Nat} {B : Stm} {ss : List Stmt} (h : PSs X ss (evS c B)) : PSs X ss (evS c (sFg is k B)) := h.imp fun D σ H ⟨W, sl, hH, w, s, q⟩ => by
  unfold sFg at q
  cases e1 : mayFg k W.cs W.cs.n with
  | false =>
    rw [e1] at q
    exact q.elim
  | true =>
    rw [e1] at q
    cases e2 : W.cs.get k with
    | none =>
      rw [e2] at q
      exact q.elim
    | some co =>
      rw [e2] at q
      have fk : CS.find [(k, co)] k = some co := by rw [find_cons, if_pos rfl]
      have fo : ∀ i o, CS.find [(k, co)] i = some o → i = k ∧ o = co := fun i o h => by
        rw [find_cons] at h
        by_cases z : k = i
        · rw [if_pos z] at h
          exact ⟨z.symm, (Option.some.inj h).symm⟩
        · rw [if_neg z] at h
          split at h <;> cases h
      have se : Sees W (W.only [(k, co)]) := ⟨fun _ _ h => h, fun _ _ h n => ⟨h, n⟩, fun _ h => ⟨h, rfl⟩⟩
      have w' : WOk c (W.only [(k, co)]) := ⟨w.inj, w.kind, fun i o h => by
        obtain ⟨rfl, rfl⟩ := fo i o h
        obtain ⟨h1, h2⟩ := w.ok i o e2
        exact ⟨h1, COk.map (W := W) (W' := W.only [(i, o)]) ⟨fun _ _ h => h, fun _ _ h n => ⟨h, n⟩, fun _ h => ⟨h, rfl⟩⟩ h2 rfl⟩, w.hd⟩
      have x : Ext W (W.only [(k, co)]) := ⟨Nat.le_refl _, fun _ _ => rfl, fun _ _ h n => ⟨h, n⟩, fun i xs hi h => by
        obtain rfl := mayFg_ok _ e1 i xs hi h
        have z : co = .lst true xs := by
          have h' : W.cs.get i = some (.lst true xs) := h
          rw [e2] at h'
          exact Option.some.inj h'
        subst z
        exact ⟨fk, rfl⟩, fun _ h => h, fun _ _ => rfl⟩
      exact ⟨W.only [(k, co)], wipeS sl is, hH, w', (s.lessAll is).map se, q.later x⟩
end
/-! ## the values, as the base of the forms -/
def bases : Nat → Nat → List AV
  | _, 0 => []
  | i, n + 1 => .base i :: bases (i + 1) n
def rawB (ρ : Rho) : Nat → Nat → List AV
  | _, 0 => []
  | i, n + 1 => .tup [.int (ρ.p i), .int (ρ.q i)] :: rawB ρ (i + 1) n
theorem raw_base {c : Ct} {W : Wd} : ∀ (n i : Nat) {vs : List V}, i + n ≤ 4 → Reps c W (rawB c.ρ i n) vs → Reps c W (bases i n) vs
  | 0, i, _, _, r => by
    cases r
    exact .nil
  | n + 1, i, _, h, r => by
    cases r with
    | cons r t =>
      obtain ⟨a, rfl, ht⟩ := tup2_at r
      exact .cons (.base i (by omega) ht) (raw_base n (i + 1) (by omega) t)
open Classical in
def G_values (ρ : Rho) : Fn := fun as cs => match F__law_values as cs with
  | .ok a cs' => (match a with
    | .cell n => (match cs'.get n with
      | some (.lst false xs) => if xs = rawB ρ 0 xs.length ∧ xs.length ≤ 4 then .ok (.cell n) (cs'.set n (.lst false (bases 0 xs.length))) else .err
      | _ => .err)
    | _ => .err)
  | .err => .err
theorem WOk.view {c : Ct} {W : Wd} (w : WOk c W) {k : Nat} {xs ys : List AV} (hg : W.cs.get k = some (.lst false xs)) (hr : ∀ vs, Reps c W xs vs → Reps c W ys vs) : WOk c ⟨W.γ, W.H, W.cs.set k (.lst false ys), W.hid⟩ ∧ Ext W ⟨W.γ, W.H, W.cs.set k (.lst false ys), W.hid⟩ := by
  have x : Ext W ⟨W.γ, W.H, W.cs.set k (.lst false ys), W.hid⟩ := by
    refine ⟨Nat.le_refl _, fun _ _ => rfl, fun b u e n => ⟨e, n⟩, fun i zs hi e => ⟨?_, rfl⟩, fun _ h => h, fun _ _ => rfl⟩
    have ik : i ≠ k := fun z => by
      subst z
      rw [hg] at e
      cases e
    exact (find_put_ne _ _ _ _ ik).trans e
  refine ⟨⟨w.inj, w.kind, fun i kk e => ?_, w.hd⟩, x⟩
  rcases find_put _ _ _ _ _ e with ⟨h1, h2, _⟩ | ⟨h1, h2⟩
  · subst h1 h2
    obtain ⟨hi, vs, h3, h4⟩ := w.ok _ _ hg
    exact ⟨hi, vs, h3, (hr vs h4).mono w x⟩
  · obtain ⟨hi, h3⟩ := w.ok i kk h2
    exact ⟨hi, h3.mono w x rfl⟩
theorem lift_values {c : Ct} (vs : List V) (H : Hp) (Q : VK) (h : evF c (G_values c.ρ) vs H Q) : evF c F__law_values vs H Q := by
  obtain ⟨W, as, r, cs', hH, w, rs, hg, fin⟩ := h
  unfold G_values at hg
  cases e : F__law_values as W.cs with
  | err =>
    rw [e] at hg
    cases hg
  | ok a cs1 =>
    rw [e] at hg
    cases a with
    | cell n =>
      simp only at hg
      split at hg
      · rename_i xs e2
        split at hg
        · rename_i z
          cases hg
          refine ⟨W, as, .cell n, cs1, hH, w, rs, e, fun v W' w' x ec rv => ?_⟩
          subst ec
          obtain ⟨w2, x2⟩ := w'.view e2 fun vs r => raw_base (c := c) xs.length 0 (by omega) (by rw [← z.1]; exact r)
          have q := fin v ⟨W'.γ, W'.H, W'.cs.set n (.lst false (bases 0 xs.length)), W'.hid⟩ w2 (x.trans x2) rfl (rv.mono w' x2)
          exact q
        · cases hg
      · cases hg
    | _ => cases hg
end U
end
noncomputable section
namespace U
open PySem PySem.Spec
open PyProof.Rows L2
/-! ## the values' run -/
structure Tr where
  p : Int
  q : Int
  n : Int
def Tr.av (t : Tr) : AV := .tup [.int t.p, .int t.q]
def Tr.ok (t : Tr) : Prop := VV t.p t.q t.n
/-- a value that stands above n -/
def over (n : Int) : Tr := ⟨n.natAbs + 1, 1, (n.natAbs + 1) * 12⟩
theorem over_ok (n : Int) : (over n).ok := ⟨by show (0 : Int) < 1; omega, by simp [over], by show ((n.natAbs : Int) + 1) * 12 = 1 * (((n.natAbs : Int) + 1) * 12); omega⟩
theorem over_lt (n : Int) : n < (over n).n := by
  show n < ((n.natAbs : Int) + 1) * 12
  omega
structure Four where
  t0 : Tr
  t1 : Tr
  t2 : Tr
  t3 : Tr
structure Four.Ok (f : Four) : Prop where
  o0 : f.t0.ok
  o1 : f.t1.ok
  o2 : f.t2.ok
  o3 : f.t3.ok
  l0 : f.t0.n < f.t1.n
  l1 : f.t1.n < f.t2.n
  l2 : f.t2.n < f.t3.n
def Four.at_ (f : Four) (i : Nat) : Tr := match i with
  | 0 => f.t0
  | 1 => f.t1
  | 2 => f.t2
  | _ => f.t3
def Four.rho (f : Four) : Rho := ⟨12, f.t0.n, f.t1.n, f.t2.n, f.t3.n, fun i => (f.at_ i).p, fun i => (f.at_ i).q⟩
theorem Four.rho_ok {f : Four} (h : f.Ok) : f.rho.Ok where
  D := by show (0 : Int) < 12; omega
  D2 := by show (12 : Int) ≤ 64; omega
  a0 := h.l0
  a1 := h.l1
  a2 := h.l2
  base := fun i hi => by
    have e : f.rho.ev (unitL i) = f.rho.nn i := ev_unit _ _
    have z : ∀ t : Tr, t.ok → t.n = f.rho.nn i → f.rho.p i = t.p → f.rho.q i = t.q → f.rho.Is (unitL i) (f.rho.p i) (f.rho.q i) := fun t ht hn hp hq => by
      rw [hp, hq]
      refine ⟨ht.1, ht.2.1, ?_⟩
      rw [e, ← hn]
      exact ht.2.2
    match i, hi with
    | 0, _ => exact z f.t0 h.o0 rfl rfl rfl
    | 1, _ => exact z f.t1 h.o1 rfl rfl rfl
    | 2, _ => exact z f.t2 h.o2 rfl rfl rfl
    | 3, _ => exact z f.t3 h.o3 rfl rfl rfl
section
variable {ns : List Int} {i : Nat} {cs : CS}
/-- one more value -/
theorem loop_ex {k a b : AV} {c t : Nat} {xs : List AV} {r : List AV} {v : Tr} (hd : Dk ns i cs) (hc : c ≠ i) (hg : cs.get c = some (.lst false xs)) (hx : getS xs t = v.av) (hl : xs.length ≤ 10) (hv : v.ok) :
    ∃ b' cs' v', forL (tgN 3) vB (.int (Int.ofNat t) :: r) [.cell i, k, .cell c, a, b] cs = forL (tgN 3) vB r [.cell i, k, .cell c, .int (Int.ofNat t), b'] cs' ∧ Dk ns i cs' ∧ cs'.get c = some (.lst false (xs ++ [Tr.av v'])) ∧ v'.ok ∧ v.n < v'.n ∧ cs'.n = cs.n ∧ ∀ k, k ≠ i → k ≠ c → cs'.get k = cs.get k := by
  obtain ⟨b', cs', p', q', n', e, d, g, w, l, en, fr⟩ := vB_ex (k := k) (b := b) hd hc hg hx hl hv
  refine ⟨b', cs', ⟨p', q', n'⟩, ?_, d, g, w, l, en, fr⟩
  rw [forL_cons]
  unfold for1
  have et : tgN 3 (.int (Int.ofNat t)) [.cell i, k, .cell c, a, b] = some [.cell i, k, .cell c, .int (Int.ofNat t), b] := rfl
  rw [et]
  simp only [e]
theorem first_ex {k : AV} (hi : i < cs.n) (hd : Dk ns i cs) : ∃ cs2 v, sSet 2 (cCel (aCons (cFn 1 F__law_small (aCons (cVar 0) (aNil))) (aNil))) [.cell i, k, .und, .und, .und] cs = .nx [.cell i, k, .cell cs.n, .und, .und] cs2 ∧ Dk ns i cs2 ∧ cs2.get cs.n = some (.lst false [Tr.av v]) ∧ v.ok ∧ cs2.n = cs.n + 1 ∧ ∀ k, k ≠ i → k < cs.n → cs2.get k = cs.get k := by
  obtain ⟨p, q, n, cs1, e1, v, d, f⟩ := small_ex hd
  obtain ⟨f1, f2⟩ := f
  refine ⟨⟨cs1.n + 1, (cs1.n, .lst false [.tup [.int p, .int q]]) :: cs1.l⟩, ⟨p, q, n⟩, ?_, ?_, ?_, v, by show cs1.n + 1 = _; rw [f1], fun k h1 h2 => ?_⟩
  · have ec : okCell [.tup [.int p, .int q]] cs1 = .ok (.cell cs1.n) ⟨cs1.n + 1, (cs1.n, .lst false [.tup [.int p, .int q]]) :: cs1.l⟩ := frN_eq cs1.n fun n => Rs.ok (AV.cell n) ⟨n + 1, (n, .lst false [.tup [.int p, .int q]]) :: cs1.l⟩
    simp only [sSet, cCel, aCons, aNil, cFn, cCall, cVar, getS_zero, okV_cell, ok_bind, lenN_cons, lenN_nil, Nat.zero_add, Nat.beq_refl, e1, ec, ok_go, setS_zero, setS_succ, f1]
  · obtain ⟨j, x, y, h⟩ := d
    refine ⟨j, x, y, ?_⟩
    show CS.find ((cs1.n, _) :: cs1.l) i = _
    rw [find_cons, if_neg (by omega), if_neg (by omega)]
    exact h
  · show CS.find ((cs1.n, _) :: cs1.l) cs.n = _
    rw [find_cons, if_pos f1]
    rfl
  · show CS.find ((cs1.n, _) :: cs1.l) k = _
    rw [find_cons, if_neg (by omega), if_neg (by omega)]
    exact f2 k h1
theorem pad5 (a b : AV) : padS 5 [a, b] = [a, b, .und, .und, .und] := rfl
/-- k values, ascending; the rest of the four stands above -/
theorem values_ex (hi : i < cs.n) (hd : Dk ns i cs) (k : Nat) (hk : k = 1 ∨ k = 2 ∨ k = 3 ∨ k = 4) :
    ∃ (f : Four) (cs' : CS), f.Ok ∧ F__law_values [.cell i, .int (Int.ofNat k)] cs = .ok (.cell cs.n) cs' ∧ cs'.get cs.n = some (.lst false (rawB f.rho 0 k)) ∧ cs'.n = cs.n + 1 ∧ Dk ns i cs' ∧ ∀ k, k ≠ i → k < cs.n → cs'.get k = cs.get k := by
  obtain ⟨c1, v0, e1, d1, g1, o0, n1, r1⟩ := first_ex (k := .int (Int.ofNat k)) hi hd
  have ne : cs.n ≠ i := by omega
  have run : ∀ (r : List AV) (sl : Sl) (c : CS), iR1 (cBin gSub (cVar 1) (cK (.int 1))) [.cell i, .int (Int.ofNat k), .cell cs.n, .und, .und] c1 = .ok r c1 → forL (tgN 3) vB r [.cell i, .int (Int.ofNat k), .cell cs.n, .und, .und] c1 = .nx (.cell i :: .int (Int.ofNat k) :: .cell cs.n :: sl) c → F__law_values [.cell i, .int (Int.ofNat k)] cs = .ok (.cell cs.n) c := fun r sl c h1 h2 => by
    simp only [F__law_values, fnF, pad5, values_parts, sSeq, e1, sFor, h1, h2, sRet, cVar, getS_zero, getS_succ, okV_cell, ok_go]
  rcases hk with rfl | rfl | rfl | rfl
  · refine ⟨⟨v0, over v0.n, over (over v0.n).n, over (over (over v0.n).n).n⟩, c1, ⟨o0, over_ok _, over_ok _, over_ok _, over_lt _, over_lt _, over_lt _⟩, run [] [.und, .und] c1 rfl rfl, g1, n1, d1, r1⟩
  · obtain ⟨b2, c2, v1, e2, d2, g2, o1, l1, n2, r2⟩ := loop_ex (k := .int (Int.ofNat 2)) (a := .und) (b := .und) (t := 0) (r := []) d1 ne g1 rfl (by simp) o0
    exact ⟨⟨v0, v1, over v1.n, over (over v1.n).n⟩, c2, ⟨o0, o1, over_ok _, over_ok _, l1, over_lt _, over_lt _⟩, run [.int (Int.ofNat 0)] _ c2 rfl e2, g2, n2.trans n1, d2, fun k h1 h2 => (r2 k h1 (by omega)).trans (r1 k h1 h2)⟩
  · obtain ⟨b2, c2, v1, e2, d2, g2, o1, l1, n2, r2⟩ := loop_ex (k := .int (Int.ofNat 3)) (a := .und) (b := .und) (t := 0) (r := [.int (Int.ofNat 1)]) d1 ne g1 rfl (by simp) o0
    obtain ⟨b3, c3, v2, e3, d3, g3, o2, l2, n3, r3⟩ := loop_ex (k := .int (Int.ofNat 3)) (a := .int (Int.ofNat 0)) (b := b2) (t := 1) (r := []) d2 ne g2 rfl (by simp) o1
    exact ⟨⟨v0, v1, v2, over v2.n⟩, c3, ⟨o0, o1, o2, over_ok _, l1, l2, over_lt _⟩, run [.int (Int.ofNat 0), .int (Int.ofNat 1)] _ c3 rfl (e2.trans e3), g3, n3.trans (n2.trans n1), d3, fun k h1 h2 => (r3 k h1 (by omega)).trans ((r2 k h1 (by omega)).trans (r1 k h1 h2))⟩
  · obtain ⟨b2, c2, v1, e2, d2, g2, o1, l1, n2, r2⟩ := loop_ex (k := .int (Int.ofNat 4)) (a := .und) (b := .und) (t := 0) (r := [.int (Int.ofNat 1), .int (Int.ofNat 2)]) d1 ne g1 rfl (by simp) o0
    obtain ⟨b3, c3, v2, e3, d3, g3, o2, l2, n3, r3⟩ := loop_ex (k := .int (Int.ofNat 4)) (a := .int (Int.ofNat 0)) (b := b2) (t := 1) (r := [.int (Int.ofNat 2)]) d2 ne g2 rfl (by simp) o1
    obtain ⟨b4, c4, v3, e4, d4, g4, o3, l3, n4, r4⟩ := loop_ex (k := .int (Int.ofNat 4)) (a := .int (Int.ofNat 1)) (b := b3) (t := 2) (r := []) d3 ne g3 rfl (by simp) o2
    exact ⟨⟨v0, v1, v2, v3⟩, c4, ⟨o0, o1, o2, o3, l1, l2, l3⟩, run [.int (Int.ofNat 0), .int (Int.ofNat 1), .int (Int.ofNat 2)] _ c4 rfl (e2.trans (e3.trans e4)), g4, n4.trans (n3.trans (n2.trans n1)), d4, fun k h1 h2 => (r4 k h1 (by omega)).trans ((r3 k h1 (by omega)).trans ((r2 k h1 (by omega)).trans (r1 k h1 h2)))⟩
end
end U
end
noncomputable section
namespace U
open PySem PySem.Spec
open PyProof.Rows L2
section
variable {ρ : Rho} {P : Program} {w : World} {K : PySem.W.Frag} {cl : Nat → Addr} {mg : Str → Option Value} {base : Heap} (ok : ρ.Ok)
include ok
def N_sign : List Str := ["a"]
omit ok in
theorem sc_sign : FnScope N_sign ["a"] (defScope s_sign) := ⟨rfl, rfl, rfl, by decide +kernel, rfl, by decide +kernel, by decide +kernel⟩
def B_sign : Stm := sRet (cFn 2 F_compare (aCons (cVar 0) (aCons (cK (.tup [.int 0, .int 1])) (aNil))))
def F_sign : Fn := fnF 1 B_sign
theorem b_sign {f : Addr} (k_ZERO : Konst (ct ρ K cl) mg "ZERO" (.tup [.int 0, .int 1])) (h_compare : Callee (ct ρ K cl) P w K mg base 1 "compare" 2 F_compare) : Body (ct ρ K cl) P w K mg base 1 N_sign "sign" f (defScope s_sign) (defBody s_sign) B_sign := fun cdv A outer s H E hr =>
  rs_one (s_ret (r_call h_compare (Room.mono hr (by decide)) (ra_cons (r_var 0 (pv 0)) (ra_cons (r_glob k_ZERO) (ra_nil)))))
def N_total : List Str := ["values", "result", "value"]
omit ok in
theorem sc_total : FnScope N_total ["values"] (defScope s_total) := ⟨rfl, rfl, rfl, by decide +kernel, rfl, by decide +kernel, by decide +kernel⟩
def B_total : Stm := sSeq (sSet 1 (cK (.tup [.int 0, .int 1]))) (sSeq (sFor (iL (cVar 0)) (tgN 2) (sSet 1 (cFn 2 F_add (aCons (cVar 1) (aCons (cVar 2) (aNil)))))) (sRet (cVar 1)))
def F_total : Fn := fnD 3 B_total
theorem b_total {f : Addr} (k_ZERO : Konst (ct ρ K cl) mg "ZERO" (.tup [.int 0, .int 1])) (h_add : Callee (ct ρ K cl) P w K mg base 3 "add" 2 F_add) : Body (ct ρ K cl) P w K mg base 3 N_total "total" f (defScope s_total) (defBody s_total) B_total := fun cdv A outer s H E hr =>
  rs_cons (s_set (ps_set (i := 1) sc_total.nd rfl (by first | exact .inl rfl | exact .inr rfl) (r_glob k_ZERO))) (rs_cons (s_for (i_list (r_var 0 (pv 0))) (g_name (pg_name (i := 2) sc_total.nd rfl (by first | exact .inl rfl | exact .inr rfl))) (rs_one (s_set (ps_set (i := 1) sc_total.nd rfl (by first | exact .inl rfl | exact .inr rfl) (r_call h_add (Room.mono hr (by decide)) (ra_cons (r_var 1 (pv 1)) (ra_cons (r_var 2 (pv 2)) (ra_nil)))))))) (rs_one (s_ret (r_var 1 (pv 1)))))
def N_dot : List Str := ["first", "second", "a", "b"]
omit ok in
theorem sc_dot : FnScope N_dot ["first", "second"] (defScope s_dot) := ⟨rfl, rfl, rfl, by decide +kernel, rfl, by decide +kernel, by decide +kernel⟩
def B_dot : Stm := sRet (cFn 1 F_total (aCons (cLc (iZ (cVar 0) (cVar 1)) (tgT [2, 3]) [2, 3] (tYesB) (cFn 2 F_multiply (aCons (cVar 2) (aCons (cVar 3) (aNil))))) (aNil)))
def F_dot : Fn := fnD 4 B_dot
theorem b_dot {f : Addr} (m_zip : mg "zip" = none) (h_multiply : Callee (ct ρ K cl) P w K mg base 3 "multiply" 2 F_multiply) (h_total : Callee (ct ρ K cl) P w K mg base 4 "total" 1 F_total) : Body (ct ρ K cl) P w K mg base 4 N_dot "dot" f (defScope s_dot) (defBody s_dot) B_dot := fun cdv A outer s H E hr =>
  rs_one (s_ret (r_call h_total (Room.mono hr (by decide)) (ra_cons (r_lc [("a", 2), ("b", 3)] sc_dot.nd (i_zip m_zip (r_var 0 (pv 0)) (r_var 1 (pv 1))) N_dot (defScope s_dot) rfl rfl (by decide +kernel) (fun _ _ _ _ _ => g_tup (gs_cons (pg_name (i := 2) sc_dot.nd rfl (by first | exact .inl rfl | exact .inr rfl)) (gs_cons (pg_name (i := 3) sc_dot.nd rfl (by first | exact .inl rfl | exact .inr rfl)) (gs_nil)))) (fun _ _ _ _ _ => ts_nil) (fun _ _ _ _ _ => r_call h_multiply (Room.mono hr (by decide)) (ra_cons (r_var 2 (pv 2)) (ra_cons (r_var 3 (pv 3)) (ra_nil))))) (ra_nil))))
def N_least_index : List Str := ["values", "best", "index", "value"]
omit ok in
theorem sc_least_index : FnScope N_least_index ["values"] (defScope s_least_index) := ⟨rfl, rfl, rfl, by decide +kernel, rfl, by decide +kernel, by decide +kernel⟩
def B_least_index : Stm := sSeq (sSet 1 (cK .non)) (sSeq (sFor (iE (cVar 0)) (tgT [2, 3]) (sIf (tOrB (tOf (cBin gIs (cVar 1) (cK .non))) (tOf (cBin gLt (cFn 2 F_compare (aCons (cVar 3) (aCons (cBin gIx (cVar 0) (cVar 1)) (aNil)))) (cK (.int 0))))) (sSet 1 (cVar 2)) (sNil))) (sRet (cVar 1)))
def F_least_index : Fn := fnD 4 B_least_index
theorem b_least_index {f : Addr} (m_enumerate : mg "enumerate" = none) (h_compare : Callee (ct ρ K cl) P w K mg base 1 "compare" 2 F_compare) : Body (ct ρ K cl) P w K mg base 1 N_least_index "least_index" f (defScope s_least_index) (defBody s_least_index) B_least_index := fun cdv A outer s H E hr =>
  rs_cons (s_set (ps_set (i := 1) sc_least_index.nd rfl (by first | exact .inl rfl | exact .inr rfl) (r_non))) (rs_cons (s_for (i_enum m_enumerate (r_var 0 (pv 0))) (g_tup (gs_cons (pg_name (i := 2) sc_least_index.nd rfl (by first | exact .inl rfl | exact .inr rfl)) (gs_cons (pg_name (i := 3) sc_least_index.nd rfl (by first | exact .inl rfl | exact .inr rfl)) (gs_nil)))) (rs_one (s_if (PW.pt (rw_or (rt_cmp o_is (r_var 1 (pv 1)) (r_non)) (rw_or1 (rt_cmp o_lt (r_call h_compare (Room.mono hr (by decide)) (ra_cons (r_var 3 (pv 3)) (ra_cons (r_ix o_ix (r_var 0 (pv 0)) (r_var 1 (pv 1))) (ra_nil)))) (r_int))))) (rs_one (s_set (ps_set (i := 1) sc_least_index.nd rfl (by first | exact .inl rfl | exact .inr rfl) (r_var 2 (pv 2))))) (rs_nil)))) (rs_one (s_ret (r_var 1 (pv 1)))))
def N_greatest_index : List Str := ["values", "value"]
omit ok in
theorem sc_greatest_index : FnScope N_greatest_index ["values"] (defScope s_greatest_index) := ⟨rfl, rfl, rfl, by decide +kernel, rfl, by decide +kernel, by decide +kernel⟩
def B_greatest_index : Stm := sRet (cFn 1 F_least_index (aCons (cLc (iL (cVar 0)) (tgN 1) [1] (tYesB) (cFn 1 F_negate (aCons (cVar 1) (aNil)))) (aNil)))
def F_greatest_index : Fn := fnD 2 B_greatest_index
theorem b_greatest_index {f : Addr} (h_negate : Callee (ct ρ K cl) P w K mg base 1 "negate" 1 F_negate) (h_least_index : Callee (ct ρ K cl) P w K mg base 2 "least_index" 1 F_least_index) : Body (ct ρ K cl) P w K mg base 2 N_greatest_index "greatest_index" f (defScope s_greatest_index) (defBody s_greatest_index) B_greatest_index := fun cdv A outer s H E hr =>
  rs_one (s_ret (r_call h_least_index (Room.mono hr (by decide)) (ra_cons (r_lc [("value", 1)] sc_greatest_index.nd (i_list (r_var 0 (pv 0))) N_greatest_index (defScope s_greatest_index) rfl rfl (by decide +kernel) (fun _ _ _ _ _ => g_name (pg_name (i := 1) sc_greatest_index.nd rfl (by first | exact .inl rfl | exact .inr rfl))) (fun _ _ _ _ _ => ts_nil) (fun _ _ _ _ _ => r_call h_negate (Room.mono hr (by decide)) (ra_cons (r_var 1 (pv 1)) (ra_nil)))) (ra_nil))))
def N_is_integer : List Str := ["value"]
omit ok in
theorem sc_is_integer : FnScope N_is_integer ["value"] (defScope s_is_integer) := ⟨rfl, rfl, rfl, by decide +kernel, rfl, by decide +kernel, by decide +kernel⟩
def B_is_integer : Stm := sRet (cOfT (tAndB (tOf (cIsi 1 (cVar 0))) (tOf (cOfT (tNotB (tOf (cIsi 0 (cVar 0))))))))
def F_is_integer : Fn := fnD 1 B_is_integer
theorem b_is_integer {f : Addr} (m_isinstance : mg "isinstance" = none) (m_int : mg "int" = none) (m_bool : mg "bool" = none) : Body (ct ρ K cl) P w K mg base 0 N_is_integer "is_integer" f (defScope s_is_integer) (defBody s_is_integer) B_is_integer := fun cdv A outer s H E hr =>
  rs_one (s_ret (r_and (r_isi 1 m_isinstance (r_var 0 (pv 0)) m_int) (r_one (r_not (r_isi 0 m_isinstance (r_var 0 (pv 0)) m_bool)))))
def N_is_index : List Str := ["value", "count"]
omit ok in
theorem sc_is_index : FnScope N_is_index ["value", "count"] (defScope s_is_index) := ⟨rfl, rfl, rfl, by decide +kernel, rfl, by decide +kernel, by decide +kernel⟩
def B_is_index : Stm := sRet (cOfT (tAndB (tOf (cFn 1 F_is_integer (aCons (cVar 0) (aNil)))) (tOf (cChain gLe gLt (cK (.int 0)) (cVar 0) (cVar 1)))))
def F_is_index : Fn := fnD 2 B_is_index
theorem b_is_index {f : Addr} (h_is_integer : Callee (ct ρ K cl) P w K mg base 1 "is_integer" 1 F_is_integer) : Body (ct ρ K cl) P w K mg base 1 N_is_index "is_index" f (defScope s_is_index) (defBody s_is_index) B_is_index := fun cdv A outer s H E hr =>
  rs_one (s_ret (r_and (r_call h_is_integer (Room.mono hr (by decide)) (ra_cons (r_var 0 (pv 0)) (ra_nil))) (r_one (r_chain o_le o_lt (r_int) (r_var 0 (pv 0)) (r_var 1 (pv 1))))))
def N_are_names : List Str := ["words", "word"]
omit ok in
theorem sc_are_names : FnScope N_are_names ["words"] (defScope s_are_names) := ⟨rfl, rfl, rfl, by decide +kernel, rfl, by decide +kernel, by decide +kernel⟩
def B_are_names : Stm := sSeq (sIf (tOrB (tOf (cBin gEq (cCall fLen (aCons (cVar 0) (aNil))) (cK (.int 0)))) (tNotB (tOf (cCall fAll (aCons (cLc (iL (cVar 0)) (tgN 1) [1] (tYesB) (cFn 1 F_is_name (aCons (cVar 1) (aNil)))) (aNil)))))) (sRet (cK (.bl false))) (sNil)) (sRet (cBin gEq (cUn gLenSet (cVar 0)) (cCall fLen (aCons (cVar 0) (aNil)))))
def F_are_names : Fn := fnD 2 B_are_names
theorem b_are_names {f : Addr} (m_len : mg "len" = none) (h_is_name : Callee (ct ρ K cl) P w K mg base 2 "is_name" 1 F_is_name) (m_all : mg "all" = none) (m_set : mg "set" = none) : Body (ct ρ K cl) P w K mg base 2 N_are_names "are_names" f (defScope s_are_names) (defBody s_are_names) B_are_names := fun cdv A outer s H E hr =>
  rs_cons (s_if (PW.pt (rw_or (rt_cmp (o_eq ok hr.units) (r_callB k_len m_len boot_len (ra_cons (r_var 0 (pv 0)) (ra_nil))) (r_int)) (rw_or1 (rt_not (rt_val (r_callB k_all m_all (by decide +kernel) (ra_cons (r_lc [("word", 1)] sc_are_names.nd (i_list (r_var 0 (pv 0))) N_are_names (defScope s_are_names) rfl rfl (by decide +kernel) (fun _ _ _ _ _ => g_name (pg_name (i := 1) sc_are_names.nd rfl (by first | exact .inl rfl | exact .inr rfl))) (fun _ _ _ _ _ => ts_nil) (fun _ _ _ _ _ => r_call h_is_name (Room.mono hr (by decide)) (ra_cons (r_var 1 (pv 1)) (ra_nil)))) (ra_nil)))))))) (rs_one (s_ret (r_bl))) (rs_nil)) (rs_one (s_ret (r_cmp (o_eq ok hr.units) (r_lenSet m_len m_set (r_var 0 (pv 0))) (r_callB k_len m_len boot_len (ra_cons (r_var 0 (pv 0)) (ra_nil))))))
def N_is_need : List Str := ["need", "agent_count", "outcome_count"]
omit ok in
theorem sc_is_need : FnScope N_is_need ["need", "agent_count", "outcome_count"] (defScope s_is_need) := ⟨rfl, rfl, rfl, by decide +kernel, rfl, by decide +kernel, by decide +kernel⟩
def B_is_need : Stm := sSeq (sIf (tOf (cBin gIn (cVar 0) (cTup (aCons (cTup (aCons (cK (.str 13)) (aNil))) (aCons (cTup (aCons (cK (.str 14)) (aNil))) (aCons (cTup (aCons (cK (.str 15)) (aNil))) (aNil))))))) (sRet (cK (.bl true))) (sNil)) sErr
def F_is_need : Fn := fnD 3 B_is_need
theorem b_is_need {f : Addr}  : Body (ct ρ K cl) P w K mg base 0 N_is_need "is_need" f (defScope s_is_need) (defBody s_is_need) B_is_need := fun cdv A outer s H E hr =>
  rs_cons (s_if (rt_cmp (o_in ok (u65 hr)) (r_var 0 (pv 0)) (r_tup (ra_cons (r_tup (ra_cons (r_str 13) (ra_nil))) (ra_cons (r_tup (ra_cons (r_str 14) (ra_nil))) (ra_cons (r_tup (ra_cons (r_str 15) (ra_nil))) (ra_nil)))))) (rs_one (s_ret (r_bl))) (rs_nil)) ss_err
def N_is_excluded : List Str := ["need", "earlier", "other"]
omit ok in
theorem sc_is_excluded : FnScope N_is_excluded ["need", "earlier"] (defScope s_is_excluded) := ⟨rfl, rfl, rfl, by decide +kernel, rfl, by decide +kernel, by decide +kernel⟩
def B_is_excluded : Stm := sSeq (sFor (iL (cVar 1)) (tgN 2) (sErr)) (sRet (cK (.bl false)))
def F_is_excluded : Fn := fnD 3 B_is_excluded
theorem b_is_excluded {f : Addr}  : Body (ct ρ K cl) P w K mg base 0 N_is_excluded "is_excluded" f (defScope s_is_excluded) (defBody s_is_excluded) B_is_excluded := fun cdv A outer s H E hr =>
  rs_cons (s_for (i_list (r_var 1 (pv 1))) (g_name (pg_name (i := 2) sc_is_excluded.nd rfl (by first | exact .inl rfl | exact .inr rfl))) (ss_err)) (rs_one (s_ret (r_bl)))
def N_check_limits : List Str := ["agents", "outcomes", "needs", "profile_count", "_", "kinds"]
omit ok in
theorem sc_check_limits : FnScope N_check_limits ["agents", "outcomes", "needs"] (defScope s_check_limits) := ⟨rfl, rfl, rfl, by decide +kernel, rfl, by decide +kernel, by decide +kernel⟩
def B_check_limits : Stm := sSeq (sIf (tOf (cBin gGt (cCall fLen (aCons (cVar 0) (aNil))) (cK (.int 4)))) (sErr) (sNil)) (sSeq (sSet 3 (cK (.int 1))) (sSeq (sFor (iL (cVar 0)) (tgT [4, 5]) (sSeq (sIf (tOf (cBin gGt (cCall fLen (aCons (cVar 5) (aNil))) (cK (.int 4)))) (sErr) (sNil)) (sSet 3 (cBin gMul (cVar 3) (cCall fLen (aCons (cVar 5) (aNil))))))) (sSeq (sIf (tOf (cBin gGt (cCall fLen (aCons (cVar 1) (aNil))) (cK (.int 6)))) (sErr) (sNil)) (sSeq (sIf (tOf (cBin gGt (cCall fLen (aCons (cVar 2) (aNil))) (cK (.int 12)))) (sErr) (sNil)) (sIf (tOf (cBin gGt (cVar 3) (cK (.int 16)))) (sErr) (sNil))))))
def F_check_limits : Fn := fnD 6 B_check_limits
theorem b_check_limits {f : Addr} (m_len : mg "len" = none) (k_MOST_AGENTS : Konst (ct ρ K cl) mg "MOST_AGENTS" (.int 4)) (k_MOST_KINDS : Konst (ct ρ K cl) mg "MOST_KINDS" (.int 4)) (k_MOST_OUTCOMES : Konst (ct ρ K cl) mg "MOST_OUTCOMES" (.int 6)) (k_MOST_NEEDS : Konst (ct ρ K cl) mg "MOST_NEEDS" (.int 12)) (k_MOST_PROFILES_games : Konst (ct ρ K cl) mg "MOST_PROFILES_games" (.int 16)) : Body (ct ρ K cl) P w K mg base 0 N_check_limits "check_limits" f (defScope s_check_limits) (defBody s_check_limits) B_check_limits := fun cdv A outer s H E hr =>
  rs_cons (s_if (rt_cmp o_gt (r_callB k_len m_len boot_len (ra_cons (r_var 0 (pv 0)) (ra_nil))) (r_glob k_MOST_AGENTS)) (ss_err) (rs_nil)) (rs_cons (s_set (ps_set (i := 3) sc_check_limits.nd rfl (by first | exact .inl rfl | exact .inr rfl) (r_int))) (rs_cons (s_for (i_list (r_var 0 (pv 0))) (g_tup (gs_cons (pg_name (i := 4) sc_check_limits.nd rfl (by first | exact .inl rfl | exact .inr rfl)) (gs_cons (pg_name (i := 5) sc_check_limits.nd rfl (by first | exact .inl rfl | exact .inr rfl)) (gs_nil)))) (rs_cons (s_if (rt_cmp o_gt (r_callB k_len m_len boot_len (ra_cons (r_var 5 (pv 5)) (ra_nil))) (r_glob k_MOST_KINDS)) (ss_err) (rs_nil)) (rs_one (s_set (ps_set (i := 3) sc_check_limits.nd rfl (by first | exact .inl rfl | exact .inr rfl) (r_op o_mul (r_var 3 (pv 3)) (r_callB k_len m_len boot_len (ra_cons (r_var 5 (pv 5)) (ra_nil))))))))) (rs_cons (s_if (rt_cmp o_gt (r_callB k_len m_len boot_len (ra_cons (r_var 1 (pv 1)) (ra_nil))) (r_glob k_MOST_OUTCOMES)) (ss_err) (rs_nil)) (rs_cons (s_if (rt_cmp o_gt (r_callB k_len m_len boot_len (ra_cons (r_var 2 (pv 2)) (ra_nil))) (r_glob k_MOST_NEEDS)) (ss_err) (rs_nil)) (rs_one (s_if (rt_cmp o_gt (r_var 3 (pv 3)) (r_glob k_MOST_PROFILES_games)) (ss_err) (rs_nil)))))))
def N_check_game : List Str := ["agents", "outcomes", "aim", "needs", "name", "_", "kinds", "kind", "index", "need"]
omit ok in
theorem sc_check_game : FnScope N_check_game ["agents", "outcomes", "aim", "needs"] (defScope s_check_game) := ⟨rfl, rfl, rfl, by decide +kernel, rfl, by decide +kernel, by decide +kernel⟩
def B_check_game : Stm := sSeq (sIf (tNotB (tOf (cFn 1 F_are_names (aCons (cLc (iL (cVar 0)) (tgT [4, 5]) [4, 5] (tYesB) (cVar 4)) (aNil))))) (sErr) (sNil)) (sSeq (sFor (iL (cVar 0)) (tgT [5, 6]) (sSeq (sIf (tNotB (tOf (cFn 1 F_are_names (aCons (cLc (iL (cVar 6)) (tgN 7) [7] (tYesB) (cBin gIx (cVar 7) (cK (.int 0)))) (aNil))))) (sErr) (sNil)) (sIf (tOf (cCall fAny (aCons (cLc (iL (cVar 6)) (tgN 7) [7] (tYesB) (cBin gLt (cFn 1 F_sign (aCons (cBin gIx (cVar 7) (cK (.int 1))) (aNil))) (cK (.int 0)))) (aNil)))) (sErr) (sNil)))) (sSeq (sIf (tNotB (tOf (cFn 1 F_are_names (aCons (cVar 1) (aNil))))) (sErr) (sNil)) (sSeq (sFor (iL (cVar 0)) (tgT [5, 6]) (sIf (tOf (cCall fAny (aCons (cLc (iL (cVar 6)) (tgN 7) [7] (tYesB) (cBin gNe (cCall fLen (aCons (cBin gIx (cVar 7) (cK (.int 3))) (aNil))) (cCall fLen (aCons (cVar 1) (aNil))))) (aNil)))) (sErr) (sNil))) (sSeq (sIf (tOf (cBin gNotIn (cVar 2) (cK (.tup [.str 10, .str 11, .str 12])))) (sErr) (sNil)) (sFor (iE (cVar 3)) (tgT [8, 9]) (sIf (tOrB (tNotB (tOf (cFn 3 F_is_need (aCons (cVar 9) (aCons (cCall fLen (aCons (cVar 0) (aNil))) (aCons (cCall fLen (aCons (cVar 1) (aNil))) (aNil))))))) (tOf (cFn 2 F_is_excluded (aCons (cVar 9) (aCons (cBin gTake (cVar 3) (cVar 8)) (aNil)))))) (sErr) (sNil)))))))
def F_check_game : Fn := fnD 10 B_check_game
theorem b_check_game {f : Addr} (h_are_names : Callee (ct ρ K cl) P w K mg base 3 "are_names" 1 F_are_names) (h_sign : Callee (ct ρ K cl) P w K mg base 2 "sign" 1 F_sign) (m_any : mg "any" = none) (m_len : mg "len" = none) (k_AIMS : Konst (ct ρ K cl) mg "AIMS" (.tup [.str 10, .str 11, .str 12])) (m_enumerate : mg "enumerate" = none) (h_is_need : Callee (ct ρ K cl) P w K mg base 1 "is_need" 3 F_is_need) (h_is_excluded : Callee (ct ρ K cl) P w K mg base 1 "is_excluded" 2 F_is_excluded) : Body (ct ρ K cl) P w K mg base 3 N_check_game "check_game" f (defScope s_check_game) (defBody s_check_game) B_check_game := fun cdv A outer s H E hr =>
  rs_cons (s_if (rt_not (rt_val (r_call h_are_names (Room.mono hr (by decide)) (ra_cons (r_lc [("name", 4), ("_", 5)] sc_check_game.nd (i_list (r_var 0 (pv 0))) N_check_game (defScope s_check_game) rfl rfl (by decide +kernel) (fun _ _ _ _ _ => g_tup (gs_cons (pg_name (i := 4) sc_check_game.nd rfl (by first | exact .inl rfl | exact .inr rfl)) (gs_cons (pg_name (i := 5) sc_check_game.nd rfl (by first | exact .inl rfl | exact .inr rfl)) (gs_nil)))) (fun _ _ _ _ _ => ts_nil) (fun _ _ _ _ _ => r_var 4 (pv 4))) (ra_nil))))) (ss_err) (rs_nil)) (rs_cons (s_for (i_list (r_var 0 (pv 0))) (g_tup (gs_cons (pg_name (i := 5) sc_check_game.nd rfl (by first | exact .inl rfl | exact .inr rfl)) (gs_cons (pg_name (i := 6) sc_check_game.nd rfl (by first | exact .inl rfl | exact .inr rfl)) (gs_nil)))) (rs_cons (s_if (rt_not (rt_val (r_call h_are_names (Room.mono hr (by decide)) (ra_cons (r_lc [("kind", 7)] sc_check_game.nd (i_list (r_var 6 (pv 6))) N_check_game (defScope s_check_game) rfl rfl (by decide +kernel) (fun _ _ _ _ _ => g_name (pg_name (i := 7) sc_check_game.nd rfl (by first | exact .inl rfl | exact .inr rfl))) (fun _ _ _ _ _ => ts_nil) (fun _ _ _ _ _ => r_ix o_ix (r_var 7 (pv 7)) (r_int))) (ra_nil))))) (ss_err) (rs_nil)) (rs_one (s_if (rt_val (r_callB k_any m_any (by decide +kernel) (ra_cons (r_lc [("kind", 7)] sc_check_game.nd (i_list (r_var 6 (pv 6))) N_check_game (defScope s_check_game) rfl rfl (by decide +kernel) (fun _ _ _ _ _ => g_name (pg_name (i := 7) sc_check_game.nd rfl (by first | exact .inl rfl | exact .inr rfl))) (fun _ _ _ _ _ => ts_nil) (fun _ _ _ _ _ => r_cmp o_lt (r_call h_sign (Room.mono hr (by decide)) (ra_cons (r_ix o_ix (r_var 7 (pv 7)) (r_int)) (ra_nil))) (r_int))) (ra_nil)))) (ss_err) (rs_nil))))) (rs_cons (s_if (rt_not (rt_val (r_call h_are_names (Room.mono hr (by decide)) (ra_cons (r_var 1 (pv 1)) (ra_nil))))) (ss_err) (rs_nil)) (rs_cons (s_for (i_list (r_var 0 (pv 0))) (g_tup (gs_cons (pg_name (i := 5) sc_check_game.nd rfl (by first | exact .inl rfl | exact .inr rfl)) (gs_cons (pg_name (i := 6) sc_check_game.nd rfl (by first | exact .inl rfl | exact .inr rfl)) (gs_nil)))) (rs_one (s_if (rt_val (r_callB k_any m_any (by decide +kernel) (ra_cons (r_lc [("kind", 7)] sc_check_game.nd (i_list (r_var 6 (pv 6))) N_check_game (defScope s_check_game) rfl rfl (by decide +kernel) (fun _ _ _ _ _ => g_name (pg_name (i := 7) sc_check_game.nd rfl (by first | exact .inl rfl | exact .inr rfl))) (fun _ _ _ _ _ => ts_nil) (fun _ _ _ _ _ => r_cmp (o_ne ok hr.units) (r_callB k_len m_len boot_len (ra_cons (r_ix o_ix (r_var 7 (pv 7)) (r_int)) (ra_nil))) (r_callB k_len m_len boot_len (ra_cons (r_var 1 (pv 1)) (ra_nil))))) (ra_nil)))) (ss_err) (rs_nil)))) (rs_cons (s_if (rt_cmp (o_notIn ok (u65 hr)) (r_var 2 (pv 2)) (r_glob k_AIMS)) (ss_err) (rs_nil)) (rs_one (s_for (i_enum m_enumerate (r_var 3 (pv 3))) (g_tup (gs_cons (pg_name (i := 8) sc_check_game.nd rfl (by first | exact .inl rfl | exact .inr rfl)) (gs_cons (pg_name (i := 9) sc_check_game.nd rfl (by first | exact .inl rfl | exact .inr rfl)) (gs_nil)))) (rs_one (s_if (PW.pt (rw_or (rt_not (rt_val (r_call h_is_need (Room.mono hr (by decide)) (ra_cons (r_var 9 (pv 9)) (ra_cons (r_callB k_len m_len boot_len (ra_cons (r_var 0 (pv 0)) (ra_nil))) (ra_cons (r_callB k_len m_len boot_len (ra_cons (r_var 1 (pv 1)) (ra_nil))) (ra_nil))))))) (rw_or1 (rt_val (r_call h_is_excluded (Room.mono hr (by decide)) (ra_cons (r_var 9 (pv 9)) (ra_cons (r_slHi (r_var 3 (pv 3)) (r_var 8 (pv 8))) (ra_nil)))))))) (ss_err) (rs_nil)))))))))
def N_copied_kinds : List Str := ["kinds", "name", "weight", "alone", "worths"]
omit ok in
theorem sc_copied_kinds : FnScope N_copied_kinds ["kinds"] (defScope s_copied_kinds) := ⟨rfl, rfl, rfl, by decide +kernel, rfl, by decide +kernel, by decide +kernel⟩
def B_copied_kinds : Stm := sRet (cLc (iL (cVar 0)) (tgT [1, 2, 3, 4]) [1, 2, 3, 4] (tYesB) (cTup (aCons (cVar 1) (aCons (cVar 2) (aCons (cVar 3) (aCons (cCall fListV (aCons (cVar 4) (aNil))) (aNil)))))))
def F_copied_kinds : Fn := fnF 5 B_copied_kinds
theorem b_copied_kinds {f : Addr} (m_list : mg "list" = none) : Body (ct ρ K cl) P w K mg base 0 N_copied_kinds "copied_kinds" f (defScope s_copied_kinds) (defBody s_copied_kinds) B_copied_kinds := fun cdv A outer s H E hr =>
  rs_one (s_ret (r_lc [("name", 1), ("weight", 2), ("alone", 3), ("worths", 4)] sc_copied_kinds.nd (i_list (r_var 0 (pv 0))) N_copied_kinds (defScope s_copied_kinds) rfl rfl (by decide +kernel) (fun _ _ _ _ _ => g_tup (gs_cons (pg_name (i := 1) sc_copied_kinds.nd rfl (by first | exact .inl rfl | exact .inr rfl)) (gs_cons (pg_name (i := 2) sc_copied_kinds.nd rfl (by first | exact .inl rfl | exact .inr rfl)) (gs_cons (pg_name (i := 3) sc_copied_kinds.nd rfl (by first | exact .inl rfl | exact .inr rfl)) (gs_cons (pg_name (i := 4) sc_copied_kinds.nd rfl (by first | exact .inl rfl | exact .inr rfl)) (gs_nil)))))) (fun _ _ _ _ _ => ts_nil) (fun _ _ _ _ _ => r_tup (ra_cons (r_var 1 (pv 1)) (ra_cons (r_var 2 (pv 2)) (ra_cons (r_var 3 (pv 3)) (ra_cons (r_callTy k_listV m_list boot_list (ra_cons (r_var 4 (pv 4)) (ra_nil))) (ra_nil))))))))
def N_copied_need : List Str := ["need", "parts", "part"]
omit ok in
theorem sc_copied_need : FnScope N_copied_need ["need"] (defScope s_copied_need) := ⟨rfl, rfl, rfl, by decide +kernel, rfl, by decide +kernel, by decide +kernel⟩
def B_copied_need : Stm := sSeq (sSet 1 (cCel (aNil))) (sSeq (sFor (iT (cVar 0)) (tgN 2) (sIf (tOf (cIsi 4 (cVar 2))) (sExpr (cMeth gApp (cVar 1) (aCons (cCall fListV (aCons (cVar 2) (aNil))) (aNil)))) (sExpr (cMeth gApp (cVar 1) (aCons (cVar 2) (aNil)))))) (sRet (cCall fTuple (aCons (cVar 1) (aNil)))))
def F_copied_need : Fn := fnF 3 B_copied_need
theorem b_copied_need {f : Addr} (m_isinstance : mg "isinstance" = none) (m_list : mg "list" = none) (m_tuple : mg "tuple" = none) : Body (ct ρ K cl) P w K mg base 0 N_copied_need "copied_need" f (defScope s_copied_need) (defBody s_copied_need) B_copied_need := fun cdv A outer s H E hr =>
  rs_cons (s_set (ps_set (i := 1) sc_copied_need.nd rfl (by first | exact .inl rfl | exact .inr rfl) (r_cel (ra_nil)))) (rs_cons (s_for (i_tup (r_var 0 (pv 0))) (g_name (pg_name (i := 2) sc_copied_need.nd rfl (by first | exact .inl rfl | exact .inr rfl))) (rs_one (s_if (rt_val (r_isi 4 m_isinstance (r_var 2 (pv 2)) m_list)) (rs_one (s_expr (r_bm PySem.F.slot_list_append PySem.F.type_list_append m_append (r_var 1 (pv 1)) (ra_cons (r_callTy k_listV m_list boot_list (ra_cons (r_var 2 (pv 2)) (ra_nil))) (ra_nil))))) (rs_one (s_expr (r_bm PySem.F.slot_list_append PySem.F.type_list_append m_append (r_var 1 (pv 1)) (ra_cons (r_var 2 (pv 2)) (ra_nil)))))))) (rs_one (s_ret (r_callTy k_tuple m_tuple (by decide +kernel) (ra_cons (r_var 1 (pv 1)) (ra_nil))))))
def N_Game___init__ : List Str := ["self", "agents", "outcomes", "aim", "payments", "lots", "needs", "name", "kinds", "need"]
omit ok in
theorem sc_Game___init__ : FnScope N_Game___init__ ["self", "agents", "outcomes", "aim", "payments", "lots", "needs"] (defScope s_Game___init__) := ⟨rfl, rfl, rfl, by decide +kernel, rfl, by decide +kernel, by decide +kernel⟩
def B_Game___init__ : Stm := sSeq (sExpr (cFn 3 F_check_limits (aCons (cVar 1) (aCons (cVar 2) (aCons (cVar 6) (aNil)))))) (sSeq (sExpr (cFn 4 F_check_game (aCons (cVar 1) (aCons (cVar 2) (aCons (cVar 3) (aCons (cVar 6) (aNil))))))) (sSeq (sFldS 0 23 (cLc (iL (cVar 1)) (tgT [7, 8]) [7, 8] (tYesB) (cTup (aCons (cVar 7) (aCons (cFn 1 F_copied_kinds (aCons (cVar 8) (aNil))) (aNil))))) (cVar 0)) (sSeq (sFldS 0 24 (cCall fListV (aCons (cVar 2) (aNil))) (cVar 0)) (sSeq (sFldS 0 25 (cVar 3) (cVar 0)) (sSeq (sFldS 0 26 (cVar 4) (cVar 0)) (sSeq (sFldS 0 27 (cVar 5) (cVar 0)) (sFldS 0 28 (cLc (iL (cVar 6)) (tgN 9) [9] (tYesB) (cFn 1 F_copied_need (aCons (cVar 9) (aNil)))) (cVar 0))))))))
def F_Game___init__ : Fn := fnF 10 B_Game___init__
theorem b_Game___init__ {f : Addr} (h_check_limits : Callee (ct ρ K cl) P w K mg base 1 "check_limits" 3 F_check_limits) (h_check_game : Callee (ct ρ K cl) P w K mg base 4 "check_game" 4 F_check_game) (h_copied_kinds : Callee (ct ρ K cl) P w K mg base 1 "copied_kinds" 1 F_copied_kinds) (cls0 : Cls K (cl 0)) (no23 : NoAttr K (cl 0) (tbl 23)) (m_list : mg "list" = none) (no24 : NoAttr K (cl 0) (tbl 24)) (no25 : NoAttr K (cl 0) (tbl 25)) (no26 : NoAttr K (cl 0) (tbl 26)) (no27 : NoAttr K (cl 0) (tbl 27)) (h_copied_need : Callee (ct ρ K cl) P w K mg base 1 "copied_need" 1 F_copied_need) (no28 : NoAttr K (cl 0) (tbl 28)) : Body (ct ρ K cl) P w K mg base 4 N_Game___init__ "Game.__init__" f (defScope s_Game___init__) (defBody s_Game___init__) B_Game___init__ := fun cdv A outer s H E hr =>
  rs_cons (s_expr (r_call h_check_limits (Room.mono hr (by decide)) (ra_cons (r_var 1 (pv 1)) (ra_cons (r_var 2 (pv 2)) (ra_cons (r_var 6 (pv 6)) (ra_nil)))))) (rs_cons (s_expr (r_call h_check_game (Room.mono hr (by decide)) (ra_cons (r_var 1 (pv 1)) (ra_cons (r_var 2 (pv 2)) (ra_cons (r_var 3 (pv 3)) (ra_cons (r_var 6 (pv 6)) (ra_nil))))))) (rs_cons (s_fld 0 23 (r_lc [("name", 7), ("kinds", 8)] sc_Game___init__.nd (i_list (r_var 1 (pv 1))) N_Game___init__ (defScope s_Game___init__) rfl rfl (by decide +kernel) (fun _ _ _ _ _ => g_tup (gs_cons (pg_name (i := 7) sc_Game___init__.nd rfl (by first | exact .inl rfl | exact .inr rfl)) (gs_cons (pg_name (i := 8) sc_Game___init__.nd rfl (by first | exact .inl rfl | exact .inr rfl)) (gs_nil)))) (fun _ _ _ _ _ => ts_nil) (fun _ _ _ _ _ => r_tup (ra_cons (r_var 7 (pv 7)) (ra_cons (r_call h_copied_kinds (Room.mono hr (by decide)) (ra_cons (r_var 8 (pv 8)) (ra_nil))) (ra_nil))))) (r_var 0 (pv 0)) cls0 no23) (rs_cons (s_fld 0 24 (r_callTy k_listV m_list boot_list (ra_cons (r_var 2 (pv 2)) (ra_nil))) (r_var 0 (pv 0)) cls0 no24) (rs_cons (s_fld 0 25 (r_var 3 (pv 3)) (r_var 0 (pv 0)) cls0 no25) (rs_cons (s_fld 0 26 (r_var 4 (pv 4)) (r_var 0 (pv 0)) cls0 no26) (rs_cons (s_fld 0 27 (r_var 5 (pv 5)) (r_var 0 (pv 0)) cls0 no27) (rs_one (s_fld 0 28 (r_lc [("need", 9)] sc_Game___init__.nd (i_list (r_var 6 (pv 6))) N_Game___init__ (defScope s_Game___init__) rfl rfl (by decide +kernel) (fun _ _ _ _ _ => g_name (pg_name (i := 9) sc_Game___init__.nd rfl (by first | exact .inl rfl | exact .inr rfl))) (fun _ _ _ _ _ => ts_nil) (fun _ _ _ _ _ => r_call h_copied_need (Room.mono hr (by decide)) (ra_cons (r_var 9 (pv 9)) (ra_nil)))) (r_var 0 (pv 0)) cls0 no28))))))))
def N_profiles : List Str := ["game", "rows", "_", "kinds", "row", "kind"]
omit ok in
theorem sc_profiles : FnScope N_profiles ["game"] (defScope s_profiles) := ⟨rfl, rfl, rfl, by decide +kernel, rfl, by decide +kernel, by decide +kernel⟩
def B_profiles : Stm := sSeq (sSet 1 (cCel (aCons (cTup (aNil)) (aNil)))) (sSeq (sFor (iL (cFld 0 23 (cVar 0))) (tgT [2, 3]) (sSet 1 (cLc2 (iL (cVar 1)) (tgN 4) (iR1 (cCall fLen (aCons (cVar 3) (aNil)))) (tgN 5) [4, 5] [5] (cBin gAdd (cVar 4) (cTup (aCons (cVar 5) (aNil))))))) (sRet (cVar 1)))
def F_profiles : Fn := fnF 6 B_profiles
theorem b_profiles {f : Addr} (cls0 : Cls K (cl 0)) (no23 : NoAttr K (cl 0) (tbl 23)) (m_len : mg "len" = none) (m_range : mg "range" = none) : Body (ct ρ K cl) P w K mg base 0 N_profiles "profiles" f (defScope s_profiles) (defBody s_profiles) B_profiles := fun cdv A outer s H E hr =>
  rs_cons (s_set (ps_set (i := 1) sc_profiles.nd rfl (by first | exact .inl rfl | exact .inr rfl) (r_cel (ra_cons (r_tup (ra_nil)) (ra_nil))))) (rs_cons (s_for (i_list (r_fld 0 23 (r_var 0 (pv 0)) cls0 no23)) (g_tup (gs_cons (pg_name (i := 2) sc_profiles.nd rfl (by first | exact .inl rfl | exact .inr rfl)) (gs_cons (pg_name (i := 3) sc_profiles.nd rfl (by first | exact .inl rfl | exact .inr rfl)) (gs_nil)))) (rs_one (s_setLc2 [("row", 4), ("kind", 5)] [5] (i := 1) sc_profiles.nd rfl rfl (sw_true rfl rfl rfl (by decide +kernel)) (i_list (r_var 1 (pv 1))) N_profiles (defScope s_profiles) rfl rfl (by decide +kernel) (fun _ _ _ _ _ => g_name (pg_name (i := 4) sc_profiles.nd rfl (by first | exact .inl rfl | exact .inr rfl))) (fun _ _ _ _ _ => i_range1 m_range (r_callB k_len m_len boot_len (ra_cons (r_var 3 (pv 3)) (ra_nil)))) (fun _ _ _ _ _ => g_name (pg_name (i := 5) sc_profiles.nd rfl (by first | exact .inl rfl | exact .inr rfl))) (fun _ _ _ _ _ => r_op o_add (r_var 4 (pv 4)) (r_tup (ra_cons (r_var 5 (pv 5)) (ra_nil))))))) (rs_one (s_ret (r_var 1 (pv 1)))))
def N_profile_number : List Str := ["game", "profile", "number", "agent", "kind", "count"]
omit ok in
theorem sc_profile_number : FnScope N_profile_number ["game", "profile"] (defScope s_profile_number) := ⟨rfl, rfl, rfl, by decide +kernel, rfl, by decide +kernel, by decide +kernel⟩
def B_profile_number : Stm := sSeq (sIf (tOf (cBin gNe (cCall fLen (aCons (cVar 1) (aNil))) (cCall fLen (aCons (cFld 0 23 (cVar 0)) (aNil))))) (sErr) (sNil)) (sSeq (sSet 2 (cK (.int 0))) (sSeq (sFor (iET (cVar 1)) (tgT [3, 4]) (sSeq (sSet 5 (cCall fLen (aCons (cBin gIx (cBin gIx (cFld 0 23 (cVar 0)) (cVar 3)) (cK (.int 1))) (aNil)))) (sSeq (sIf (tNotB (tOf (cFn 2 F_is_index (aCons (cVar 4) (aCons (cVar 5) (aNil)))))) (sErr) (sNil)) (sSet 2 (cBin gAdd (cBin gMul (cVar 2) (cVar 5)) (cVar 4)))))) (sRet (cVar 2))))
def F_profile_number : Fn := fnD 6 B_profile_number
theorem b_profile_number {f : Addr} (m_len : mg "len" = none) (cls0 : Cls K (cl 0)) (no23 : NoAttr K (cl 0) (tbl 23)) (m_enumerate : mg "enumerate" = none) (h_is_index : Callee (ct ρ K cl) P w K mg base 2 "is_index" 2 F_is_index) : Body (ct ρ K cl) P w K mg base 2 N_profile_number "profile_number" f (defScope s_profile_number) (defBody s_profile_number) B_profile_number := fun cdv A outer s H E hr =>
  rs_cons (s_if (rt_cmp (o_ne ok hr.units) (r_callB k_len m_len boot_len (ra_cons (r_var 1 (pv 1)) (ra_nil))) (r_callB k_len m_len boot_len (ra_cons (r_fld 0 23 (r_var 0 (pv 0)) cls0 no23) (ra_nil)))) (ss_err) (rs_nil)) (rs_cons (s_set (ps_set (i := 2) sc_profile_number.nd rfl (by first | exact .inl rfl | exact .inr rfl) (r_int))) (rs_cons (s_for (i_enumT m_enumerate (r_var 1 (pv 1))) (g_tup (gs_cons (pg_name (i := 3) sc_profile_number.nd rfl (by first | exact .inl rfl | exact .inr rfl)) (gs_cons (pg_name (i := 4) sc_profile_number.nd rfl (by first | exact .inl rfl | exact .inr rfl)) (gs_nil)))) (rs_cons (s_set (ps_set (i := 5) sc_profile_number.nd rfl (by first | exact .inl rfl | exact .inr rfl) (r_callB k_len m_len boot_len (ra_cons (r_ix o_ix (r_ix o_ix (r_fld 0 23 (r_var 0 (pv 0)) cls0 no23) (r_var 3 (pv 3))) (r_int)) (ra_nil))))) (rs_cons (s_if (rt_not (rt_val (r_call h_is_index (Room.mono hr (by decide)) (ra_cons (r_var 4 (pv 4)) (ra_cons (r_var 5 (pv 5)) (ra_nil)))))) (ss_err) (rs_nil)) (rs_one (s_set (ps_set (i := 2) sc_profile_number.nd rfl (by first | exact .inl rfl | exact .inr rfl) (r_op o_add (r_op o_mul (r_var 2 (pv 2)) (r_var 5 (pv 5))) (r_var 4 (pv 4))))))))) (rs_one (s_ret (r_var 2 (pv 2))))))
def N_check : List Str := ["values", "bidders", "index", "count"]
omit ok in
theorem sc_check : FnScope N_check ["values", "bidders"] (defScope s_check) := ⟨rfl, rfl, rfl, by decide +kernel, rfl, by decide +kernel, by decide +kernel⟩
def B_check : Stm := sSeq (sIf (tOrB (tNotB (tOf (cFn 1 F_is_integer (aCons (cVar 1) (aNil))))) (tOrB (tNotB (tOf (cChain gLe gLe (cK (.int 1)) (cVar 1) (cK (.int 3))))) (tOf (cBin gEq (cCall fLen (aCons (cVar 0) (aNil))) (cK (.int 0)))))) (sErr) (sNil)) (sSeq (sFor (iR2 (cK (.int 1)) (cCall fLen (aCons (cVar 0) (aNil)))) (tgN 2) (sIf (tOf (cBin gGe (cFn 2 F_compare (aCons (cBin gIx (cVar 0) (cBin gSub (cVar 2) (cK (.int 1)))) (aCons (cBin gIx (cVar 0) (cVar 2)) (aNil)))) (cK (.int 0)))) (sErr) (sNil))) (sSeq (sIf (tOf (cBin gGt (cCall fLen (aCons (cVar 0) (aNil))) (cCall fLen (aCons (cK (.tup [.str 6, .str 7, .str 8, .str 9])) (aNil))))) (sErr) (sNil)) (sSeq (sSet 3 (cK (.int 1))) (sSeq (sFor (iR1 (cVar 1)) (tgN 2) (sSet 3 (cBin gMul (cVar 3) (cCall fLen (aCons (cVar 0) (aNil)))))) (sIf (tOf (cBin gGt (cVar 3) (cK (.int 16)))) (sErr) (sNil))))))
def F_check : Fn := fnD 4 B_check
theorem b_check {f : Addr} (h_is_integer : Callee (ct ρ K cl) P w K mg base 1 "is_integer" 1 F_is_integer) (m_len : mg "len" = none) (m_range : mg "range" = none) (h_compare : Callee (ct ρ K cl) P w K mg base 1 "compare" 2 F_compare) (k_KINDS : Konst (ct ρ K cl) mg "KINDS" (.tup [.str 6, .str 7, .str 8, .str 9])) (k_MOST_PROFILES_clocks : Konst (ct ρ K cl) mg "MOST_PROFILES_clocks" (.int 16)) : Body (ct ρ K cl) P w K mg base 1 N_check "check" f (defScope s_check) (defBody s_check) B_check := fun cdv A outer s H E hr =>
  rs_cons (s_if (PW.pt (rw_or (rt_not (rt_val (r_call h_is_integer (Room.mono hr (by decide)) (ra_cons (r_var 1 (pv 1)) (ra_nil))))) (rw_or (rt_not (rt_chain o_le o_le (r_int) (r_var 1 (pv 1)) (r_int))) (rw_or1 (rt_cmp (o_eq ok hr.units) (r_callB k_len m_len boot_len (ra_cons (r_var 0 (pv 0)) (ra_nil))) (r_int)))))) (ss_err) (rs_nil)) (rs_cons (s_for (i_range2 m_range (r_int) (r_callB k_len m_len boot_len (ra_cons (r_var 0 (pv 0)) (ra_nil)))) (g_name (pg_name (i := 2) sc_check.nd rfl (by first | exact .inl rfl | exact .inr rfl))) (rs_one (s_if (rt_cmp o_ge (r_call h_compare (Room.mono hr (by decide)) (ra_cons (r_ix o_ix (r_var 0 (pv 0)) (r_op o_sub (r_var 2 (pv 2)) (r_int))) (ra_cons (r_ix o_ix (r_var 0 (pv 0)) (r_var 2 (pv 2))) (ra_nil)))) (r_int)) (ss_err) (rs_nil)))) (rs_cons (s_if (rt_cmp o_gt (r_callB k_len m_len boot_len (ra_cons (r_var 0 (pv 0)) (ra_nil))) (r_callB k_len m_len boot_len (ra_cons (r_glob k_KINDS) (ra_nil)))) (ss_err) (rs_nil)) (rs_cons (s_set (ps_set (i := 3) sc_check.nd rfl (by first | exact .inl rfl | exact .inr rfl) (r_int))) (rs_cons (s_for (i_range1 m_range (r_var 1 (pv 1))) (g_name (pg_name (i := 2) sc_check.nd rfl (by first | exact .inl rfl | exact .inr rfl))) (rs_one (s_set (ps_set (i := 3) sc_check.nd rfl (by first | exact .inl rfl | exact .inr rfl) (r_op o_mul (r_var 3 (pv 3)) (r_callB k_len m_len boot_len (ra_cons (r_var 0 (pv 0)) (ra_nil)))))))) (rs_one (s_if (rt_cmp o_gt (r_var 3 (pv 3)) (r_glob k_MOST_PROFILES_clocks)) (ss_err) (rs_nil)))))))
def N_clock_game : List Str := ["values", "bidders", "outcomes", "agents", "bidder", "kinds", "index", "worth", "outcome", "worths"]
omit ok in
theorem sc_clock_game : FnScope N_clock_game ["values", "bidders"] (defScope s_clock_game) := ⟨rfl, rfl, rfl, by decide +kernel, rfl, by decide +kernel, by decide +kernel⟩
def B_clock_game : Stm := sSeq (sSet 2 (cBin gAdd (cCel (aCons (cK (.str 2)) (aNil))) (cCall fListV (aCons (cBin gTake (cK (.tup [.str 3, .str 4, .str 5])) (cVar 1)) (aNil))))) (sSeq (sSet 3 (cCel (aNil))) (sSeq (sFor (iR1 (cVar 1)) (tgN 4) (sSeq (sSet 5 (cCel (aNil))) (sSeq (sFor (iE (cVar 0)) (tgT [6, 7]) (sSeq (sSet 9 (cLc (iR1 (cBin gAdd (cVar 1) (cK (.int 1)))) (tgN 8) [8] (tYesB) (cIf (tOf (cBin gEq (cVar 8) (cBin gAdd (cVar 4) (cK (.int 1))))) (cVar 7) (cK (.tup [.int 0, .int 1]))))) (sExpr (cMeth gApp (cVar 5) (aCons (cTup (aCons (cBin gIx (cK (.tup [.str 6, .str 7, .str 8, .str 9])) (cVar 6)) (aCons (cK (.tup [.int 1, .int 1])) (aCons (cK (.tup [.int 0, .int 1])) (aCons (cVar 9) (aNil)))))) (aNil)))))) (sExpr (cMeth gApp (cVar 3) (aCons (cTup (aCons (cBin gIx (cK (.tup [.str 3, .str 4, .str 5])) (cVar 4)) (aCons (cVar 5) (aNil)))) (aNil))))))) (sRet (cMakeK 0 2 4 F_Game___init__ (aCons (cVar 3) (aCons (cVar 2) (aNil))) (aCons (cK (.str 10)) (aCons (cK (.bl true)) (aCons (cK (.bl false)) (aCons (cCel (aCons (cTup (aCons (cK (.str 13)) (aNil))) (aNil))) (aNil)))))))))
def F_clock_game : Fn := fnF 10 B_clock_game
theorem b_clock_game {f : Addr} (k_BIDDERS : Konst (ct ρ K cl) mg "BIDDERS" (.tup [.str 3, .str 4, .str 5])) (m_list : mg "list" = none) (m_range : mg "range" = none) (m_enumerate : mg "enumerate" = none) (k_ZERO : Konst (ct ρ K cl) mg "ZERO" (.tup [.int 0, .int 1])) (k_KINDS : Konst (ct ρ K cl) mg "KINDS" (.tup [.str 6, .str 7, .str 8, .str 9])) (k_ONE : Konst (ct ρ K cl) mg "ONE" (.tup [.int 1, .int 1])) (h_Game : KCallee (ct ρ K cl) P w K mg base 5 0 "Game" 2 4 ["aim", "payments", "lots", "needs"] F_Game___init__) : Body (ct ρ K cl) P w K mg base 6 N_clock_game "clock_game" f (defScope s_clock_game) (defBody s_clock_game) B_clock_game := fun cdv A outer s H E hr =>
  rs_cons (s_set (ps_set (i := 2) sc_clock_game.nd rfl (by first | exact .inl rfl | exact .inr rfl) (r_op o_add (r_cel (ra_cons (r_str 2) (ra_nil))) (r_callTy k_listV m_list boot_list (ra_cons (r_slHi (r_glob k_BIDDERS) (r_var 1 (pv 1))) (ra_nil)))))) (rs_cons (s_set (ps_set (i := 3) sc_clock_game.nd rfl (by first | exact .inl rfl | exact .inr rfl) (r_cel (ra_nil)))) (rs_cons (s_for (i_range1 m_range (r_var 1 (pv 1))) (g_name (pg_name (i := 4) sc_clock_game.nd rfl (by first | exact .inl rfl | exact .inr rfl))) (rs_cons (s_set (ps_set (i := 5) sc_clock_game.nd rfl (by first | exact .inl rfl | exact .inr rfl) (r_cel (ra_nil)))) (rs_cons (s_for (i_enum m_enumerate (r_var 0 (pv 0))) (g_tup (gs_cons (pg_name (i := 6) sc_clock_game.nd rfl (by first | exact .inl rfl | exact .inr rfl)) (gs_cons (pg_name (i := 7) sc_clock_game.nd rfl (by first | exact .inl rfl | exact .inr rfl)) (gs_nil)))) (rs_cons (s_setLc [("outcome", 8)] (i := 9) sc_clock_game.nd rfl rfl (sw_true rfl rfl rfl (by decide +kernel)) (i_range1 m_range (r_op o_add (r_var 1 (pv 1)) (r_int))) N_clock_game (defScope s_clock_game) rfl rfl (by decide +kernel) (fun _ _ _ _ _ => g_name (pg_name (i := 8) sc_clock_game.nd rfl (by first | exact .inl rfl | exact .inr rfl))) (fun _ _ _ _ _ => ts_nil) (fun _ _ _ _ _ => r_if (rt_cmp (o_eq ok hr.units) (r_var 8 (pv 8)) (r_op o_add (r_var 4 (pv 4)) (r_int))) (r_var 7 (pv 7)) (r_glob k_ZERO))) (rs_one (s_expr (r_bm PySem.F.slot_list_append PySem.F.type_list_append m_append (r_var 5 (pv 5)) (ra_cons (r_tup (ra_cons (r_ix o_ix (r_glob k_KINDS) (r_var 6 (pv 6))) (ra_cons (r_glob k_ONE) (ra_cons (r_glob k_ZERO) (ra_cons (r_var 9 (pv 9)) (ra_nil)))))) (ra_nil))))))) (rs_one (s_expr (r_bm PySem.F.slot_list_append PySem.F.type_list_append m_append (r_var 3 (pv 3)) (ra_cons (r_tup (ra_cons (r_ix o_ix (r_glob k_BIDDERS) (r_var 4 (pv 4))) (ra_cons (r_var 5 (pv 5)) (ra_nil)))) (ra_nil)))))))) (rs_one (s_ret (r_makeK h_Game (Room.mono hr (by decide)) (ra_cons (r_var 3 (pv 3)) (ra_cons (r_var 2 (pv 2)) (ra_nil))) (rk_cons (r_str 10) (rk_cons (r_bl) (rk_cons (r_bl) (rk_cons (r_cel (ra_cons (r_tup (ra_cons (r_str 13) (ra_nil))) (ra_nil))) (rk_nil))))))))))
def N_sold : List Str := ["values", "bidders", "winner", "level", "bidder", "paid"]
omit ok in
theorem sc_sold : FnScope N_sold ["values", "bidders", "winner", "level"] (defScope s_sold) := ⟨rfl, rfl, rfl, by decide +kernel, rfl, by decide +kernel, by decide +kernel⟩
def B_sold : Stm := sSeq (sSet 5 (cLc (iR1 (cVar 1)) (tgN 4) [4] (tYesB) (cIf (tOf (cBin gEq (cVar 4) (cVar 2))) (cBin gIx (cVar 0) (cVar 3)) (cK (.tup [.int 0, .int 1]))))) (sRet (cTup (aCons (cK (.str 1)) (aCons (cBin gAdd (cVar 2) (cK (.int 1))) (aCons (cVar 5) (aNil))))))
def F_sold : Fn := fnF 6 B_sold
theorem b_sold {f : Addr} (m_range : mg "range" = none) (k_ZERO : Konst (ct ρ K cl) mg "ZERO" (.tup [.int 0, .int 1])) : Body (ct ρ K cl) P w K mg base 0 N_sold "sold" f (defScope s_sold) (defBody s_sold) B_sold := fun cdv A outer s H E hr =>
  rs_cons (s_setLc [("bidder", 4)] (i := 5) sc_sold.nd rfl rfl (sw_true rfl rfl rfl (by decide +kernel)) (i_range1 m_range (r_var 1 (pv 1))) N_sold (defScope s_sold) rfl rfl (by decide +kernel) (fun _ _ _ _ _ => g_name (pg_name (i := 4) sc_sold.nd rfl (by first | exact .inl rfl | exact .inr rfl))) (fun _ _ _ _ _ => ts_nil) (fun _ _ _ _ _ => r_if (rt_cmp (o_eq ok hr.units) (r_var 4 (pv 4)) (r_var 2 (pv 2))) (r_ix o_ix (r_var 0 (pv 0)) (r_var 3 (pv 3))) (r_glob k_ZERO))) (rs_one (s_ret (r_tup (ra_cons (r_str 1) (ra_cons (r_op o_add (r_var 2 (pv 2)) (r_int)) (ra_cons (r_var 5 (pv 5)) (ra_nil)))))))
def N_Clock___init__ : List Str := ["self", "values", "bidders"]
omit ok in
theorem sc_Clock___init__ : FnScope N_Clock___init__ ["self", "values", "bidders"] (defScope s_Clock___init__) := ⟨rfl, rfl, rfl, by decide +kernel, rfl, by decide +kernel, by decide +kernel⟩
def B_Clock___init__ : Stm := sSeq (sFldS 1 21 (cCall fListC (aCons (cVar 1) (aNil))) (cVar 0)) (sSeq (sFldS 1 22 (cVar 2) (cVar 0)) (sFldS 1 20 (cCel (aNil)) (cVar 0)))
def F_Clock___init__ : Fn := fnF 3 B_Clock___init__
theorem b_Clock___init__ {f : Addr} (m_list : mg "list" = none) (cls1 : Cls K (cl 1)) (no21 : NoAttr K (cl 1) (tbl 21)) (no22 : NoAttr K (cl 1) (tbl 22)) (no20 : NoAttr K (cl 1) (tbl 20)) : Body (ct ρ K cl) P w K mg base 0 N_Clock___init__ "Clock.__init__" f (defScope s_Clock___init__) (defBody s_Clock___init__) B_Clock___init__ := fun cdv A outer s H E hr =>
  rs_cons (s_fld 1 21 (r_callTy k_listC m_list boot_list (ra_cons (r_var 1 (pv 1)) (ra_nil))) (r_var 0 (pv 0)) cls1 no21) (rs_cons (s_fld 1 22 (r_var 2 (pv 2)) (r_var 0 (pv 0)) cls1 no22) (rs_one (s_fld 1 20 (r_cel (ra_nil)) (r_var 0 (pv 0)) cls1 no20)))
def N_Clock_grow : List Str := ["self", "level", "waiting", "inside", "said", "last", "bidder", "index", "k", "higher", "no"]
omit ok in
theorem sc_Clock_grow : FnScope N_Clock_grow ["self", "level", "waiting", "inside", "said"] (defScope s_Clock_grow) := ⟨rfl, rfl, rfl, by decide +kernel, rfl, by decide +kernel, by decide +kernel⟩
def B_Clock_grow (rec : Fn) : Stm := sSeq (sIf (tOf (cBin gEq (cCall fLen (aCons (cVar 3) (aNil))) (cK (.int 1)))) (sSeq (sExpr (cMeth gApp (cFld 1 20 (cVar 0)) (aCons (cFn 4 F_sold (aCons (cFld 1 21 (cVar 0)) (aCons (cFld 1 22 (cVar 0)) (aCons (cBin gIx (cVar 3) (cK (.int 0))) (aCons (cBin gIx (cVar 4) (cBin gIx (cVar 3) (cK (.int 0)))) (aNil)))))) (aNil)))) (sRetN)) (sNil)) (sSeq (sIf (tOf (cBin gEq (cCall fLen (aCons (cVar 2) (aNil))) (cK (.int 0)))) (sSeq (sSet 1 (cBin gAdd (cVar 1) (cK (.int 1)))) (sSet 2 (cUn gRev (cVar 3)))) (sNil)) (sSeq (sSet 5 (cBin gSub (cCall fLen (aCons (cFld 1 21 (cVar 0)) (aNil))) (cK (.int 1)))) (sSeq (sIf (tOf (cBin gGt (cVar 1) (cVar 5))) (sSeq (sExpr (cMeth gApp (cFld 1 20 (cVar 0)) (aCons (cFn 4 F_sold (aCons (cFld 1 21 (cVar 0)) (aCons (cFld 1 22 (cVar 0)) (aCons (cBin gIx (cVar 3) (cK (.int 0))) (aCons (cVar 5) (aNil)))))) (aNil)))) (sRetN)) (sNil)) (sSeq (sSet 6 (cBin gIx (cVar 2) (cK (.int 0)))) (sSeq (sSet 7 (cCall fLen (aCons (cFld 1 20 (cVar 0)) (aNil)))) (sSeq (sExpr (cMeth gApp (cFld 1 20 (cVar 0)) (aCons (cK .non) (aNil)))) (sSeq (sSet 9 (cLc (iR1 (cFld 1 22 (cVar 0))) (tgN 8) [8] (tYesB) (cIf (tOf (cBin gEq (cVar 8) (cVar 6))) (cVar 1) (cBin gIx (cVar 4) (cVar 8))))) (sSeq (sExpr (cMth 1 5 rec (cVar 0) (aCons (cVar 1) (aCons (cBin gDrop (cVar 2) (cK (.int 1))) (aCons (cVar 3) (aCons (cVar 9) (aNil))))))) (sSeq (sSet 10 (cCall fLen (aCons (cFld 1 20 (cVar 0)) (aNil)))) (sSeq (sIx (cTup (aCons (cK (.str 0)) (aCons (cVar 6) (aCons (cBin gRg (cVar 1) (cBin gAdd (cVar 5) (cK (.int 1)))) (aCons (cBin gAdd (cVar 7) (cK (.int 1))) (aCons (cVar 10) (aNil))))))) (cFld 1 20 (cVar 0)) (cVar 7)) (sExpr (cMth 1 5 rec (cVar 0) (aCons (cVar 1) (aCons (cBin gDrop (cVar 2) (cK (.int 1))) (aCons (cLc (iL (cVar 3)) (tgN 8) [8] (tOf (cBin gNe (cVar 8) (cVar 6))) (cVar 8)) (aCons (cVar 4) (aNil)))))))))))))))))
def F_Clock_grow_ (n : Nat) : Fn := Nat.rec (motive := fun _ => Fn) (fun _ _ => .err) (fun _ ih => fnF 11 (B_Clock_grow ih)) n
def F_Clock_grow : Fn := F_Clock_grow_ 40
theorem b_Clock_grow {lv : Nat} (hlv : 1 ≤ lv) {rec : Fn} {f : Addr} (m_len : mg "len" = none) (cls1 : Cls K (cl 1)) (no20 : NoAttr K (cl 1) (tbl 20)) (no21 : NoAttr K (cl 1) (tbl 21)) (no22 : NoAttr K (cl 1) (tbl 22)) (h_sold : Callee (ct ρ K cl) P w K mg base 1 "sold" 4 F_sold) (m_list : mg "list" = none) (m_reversed : mg "reversed" = none) (m_range : mg "range" = none) (h_grow : MCallee (ct ρ K cl) P w K mg base lv 1 "grow" 5 rec) : Body (ct ρ K cl) P w K mg base lv N_Clock_grow "Clock.grow" f (defScope s_Clock_grow) (defBody s_Clock_grow) (B_Clock_grow rec) := fun cdv A outer s H E hr =>
  rs_cons (s_if (rt_cmp (o_eq ok hr.units) (r_callB k_len m_len boot_len (ra_cons (r_var 3 (pv 3)) (ra_nil))) (r_int)) (rs_cons (s_expr (r_bm PySem.F.slot_list_append PySem.F.type_list_append m_append (r_fld 1 20 (r_var 0 (pv 0)) cls1 no20) (ra_cons (r_call h_sold (Room.mono hr (by omega)) (ra_cons (r_fld 1 21 (r_var 0 (pv 0)) cls1 no21) (ra_cons (r_fld 1 22 (r_var 0 (pv 0)) cls1 no22) (ra_cons (r_ix o_ix (r_var 3 (pv 3)) (r_int)) (ra_cons (r_ix o_ix (r_var 4 (pv 4)) (r_ix o_ix (r_var 3 (pv 3)) (r_int))) (ra_nil)))))) (ra_nil)))) (rs_one (s_retN))) (rs_nil)) (rs_cons (s_if (rt_cmp (o_eq ok hr.units) (r_callB k_len m_len boot_len (ra_cons (r_var 2 (pv 2)) (ra_nil))) (r_int)) (rs_cons (s_set (ps_set (i := 1) sc_Clock_grow.nd rfl (by first | exact .inl rfl | exact .inr rfl) (r_op o_add (r_var 1 (pv 1)) (r_int)))) (rs_one (s_set (ps_set (i := 2) sc_Clock_grow.nd rfl (by first | exact .inl rfl | exact .inr rfl) (r_listRev m_list m_reversed (r_var 3 (pv 3))))))) (rs_nil)) (rs_cons (s_set (ps_set (i := 5) sc_Clock_grow.nd rfl (by first | exact .inl rfl | exact .inr rfl) (r_op o_sub (r_callB k_len m_len boot_len (ra_cons (r_fld 1 21 (r_var 0 (pv 0)) cls1 no21) (ra_nil))) (r_int)))) (rs_cons (s_if (rt_cmp o_gt (r_var 1 (pv 1)) (r_var 5 (pv 5))) (rs_cons (s_expr (r_bm PySem.F.slot_list_append PySem.F.type_list_append m_append (r_fld 1 20 (r_var 0 (pv 0)) cls1 no20) (ra_cons (r_call h_sold (Room.mono hr (by omega)) (ra_cons (r_fld 1 21 (r_var 0 (pv 0)) cls1 no21) (ra_cons (r_fld 1 22 (r_var 0 (pv 0)) cls1 no22) (ra_cons (r_ix o_ix (r_var 3 (pv 3)) (r_int)) (ra_cons (r_var 5 (pv 5)) (ra_nil)))))) (ra_nil)))) (rs_one (s_retN))) (rs_nil)) (rs_cons (s_set (ps_set (i := 6) sc_Clock_grow.nd rfl (by first | exact .inl rfl | exact .inr rfl) (r_ix o_ix (r_var 2 (pv 2)) (r_int)))) (rs_cons (s_set (ps_set (i := 7) sc_Clock_grow.nd rfl (by first | exact .inl rfl | exact .inr rfl) (r_callB k_len m_len boot_len (ra_cons (r_fld 1 20 (r_var 0 (pv 0)) cls1 no20) (ra_nil))))) (rs_cons (s_expr (r_bm PySem.F.slot_list_append PySem.F.type_list_append m_append (r_fld 1 20 (r_var 0 (pv 0)) cls1 no20) (ra_cons (r_non) (ra_nil)))) (rs_cons (s_setLc [("k", 8)] (i := 9) sc_Clock_grow.nd rfl rfl (sw_true rfl rfl rfl (by decide +kernel)) (i_range1 m_range (r_fld 1 22 (r_var 0 (pv 0)) cls1 no22)) N_Clock_grow (defScope s_Clock_grow) rfl rfl (by decide +kernel) (fun _ _ _ _ _ => g_name (pg_name (i := 8) sc_Clock_grow.nd rfl (by first | exact .inl rfl | exact .inr rfl))) (fun _ _ _ _ _ => ts_nil) (fun _ _ _ _ _ => r_if (rt_cmp (o_eq ok hr.units) (r_var 8 (pv 8)) (r_var 6 (pv 6))) (r_var 1 (pv 1)) (r_ix o_ix (r_var 4 (pv 4)) (r_var 8 (pv 8))))) (rs_cons (s_expr (r_meth h_grow cls1 hr (r_var 0 (pv 0)) (ra_cons (r_var 1 (pv 1)) (ra_cons (r_slLo (r_var 2 (pv 2)) (r_int)) (ra_cons (r_var 3 (pv 3)) (ra_cons (r_var 9 (pv 9)) (ra_nil))))) (by decide +kernel) rfl rfl _ rfl)) (rs_cons (s_set (ps_set (i := 10) sc_Clock_grow.nd rfl (by first | exact .inl rfl | exact .inr rfl) (r_callB k_len m_len boot_len (ra_cons (r_fld 1 20 (r_var 0 (pv 0)) cls1 no20) (ra_nil))))) (rs_cons (s_ix (r_tup (ra_cons (r_str 0) (ra_cons (r_var 6 (pv 6)) (ra_cons (r_listRg2 m_list m_range (r_var 1 (pv 1)) (r_op o_add (r_var 5 (pv 5)) (r_int))) (ra_cons (r_op o_add (r_var 7 (pv 7)) (r_int)) (ra_cons (r_var 10 (pv 10)) (ra_nil))))))) (r_fld 1 20 (r_var 0 (pv 0)) cls1 no20) (r_var 7 (pv 7))) (rs_one (s_expr (r_meth h_grow cls1 hr (r_var 0 (pv 0)) (ra_cons (r_var 1 (pv 1)) (ra_cons (r_slLo (r_var 2 (pv 2)) (r_int)) (ra_cons (r_lc [("k", 8)] sc_Clock_grow.nd (i_list (r_var 3 (pv 3))) N_Clock_grow (defScope s_Clock_grow) rfl rfl (by decide +kernel) (fun _ _ _ _ _ => g_name (pg_name (i := 8) sc_Clock_grow.nd rfl (by first | exact .inl rfl | exact .inr rfl))) (fun _ _ _ _ _ => ts_one (rt_cmp (o_ne ok hr.units) (r_var 8 (pv 8)) (r_var 6 (pv 6)))) (fun _ _ _ _ _ => r_var 8 (pv 8))) (ra_cons (r_var 4 (pv 4)) (ra_nil))))) (by decide +kernel) rfl rfl _ rfl)))))))))))))
def N_clock : List Str := ["values", "bidders", "auction", "bidder"]
omit ok in
theorem sc_clock : FnScope N_clock ["values", "bidders"] (defScope s_clock) := ⟨rfl, rfl, rfl, by decide +kernel, rfl, by decide +kernel, by decide +kernel⟩
def B_clock : Stm := sSeq (sExpr (cFn 2 F_check (aCons (cVar 0) (aCons (cVar 1) (aNil))))) (sSeq (sSet 2 (cMake 1 3 F_Clock___init__ (aCons (cVar 0) (aCons (cVar 1) (aNil))))) (sSeq (sExpr (cMth 1 5 F_Clock_grow (cVar 2) (aCons (cK (.int 0)) (aCons (cCel (aNil)) (aCons (cRg1 (cVar 1)) (aCons (cLc (iR1 (cVar 1)) (tgN 3) [3] (tYesB) (cK (.int 0))) (aNil))))))) (sRet (cTup (aCons (cFn 2 F_clock_game (aCons (cVar 0) (aCons (cVar 1) (aNil)))) (aCons (cFld 1 20 (cVar 2)) (aNil)))))))
def F_clock : Fn := fnF 4 B_clock
theorem b_clock {f : Addr} (h_check : Callee (ct ρ K cl) P w K mg base 2 "check" 2 F_check) (h_Clock : CCallee (ct ρ K cl) P w K mg base 1 1 "Clock" 3 F_Clock___init__) (m_list : mg "list" = none) (m_range : mg "range" = none) (h_grow : MCallee (ct ρ K cl) P w K mg base 42 1 "grow" 5 F_Clock_grow) (cls1 : Cls K (cl 1)) (h_clock_game : Callee (ct ρ K cl) P w K mg base 7 "clock_game" 2 F_clock_game) (no20 : NoAttr K (cl 1) (tbl 20)) : Body (ct ρ K cl) P w K mg base 42 N_clock "clock" f (defScope s_clock) (defBody s_clock) B_clock := fun cdv A outer s H E hr =>
  rs_cons (s_expr (r_call h_check (Room.mono hr (by decide)) (ra_cons (r_var 0 (pv 0)) (ra_cons (r_var 1 (pv 1)) (ra_nil))))) (rs_cons (s_set (ps_set (i := 2) sc_clock.nd rfl (by first | exact .inl rfl | exact .inr rfl) (r_make h_Clock (Room.mono hr (by decide)) (ra_cons (r_var 0 (pv 0)) (ra_cons (r_var 1 (pv 1)) (ra_nil)))))) (rs_cons (s_expr (r_meth h_grow cls1 (Room.mono hr (by decide)) (r_var 2 (pv 2)) (ra_cons (r_int) (ra_cons (r_cel (ra_nil)) (ra_cons (r_listRg1 m_list m_range (r_var 1 (pv 1))) (ra_cons (r_lc [("bidder", 3)] sc_clock.nd (i_range1 m_range (r_var 1 (pv 1))) N_clock (defScope s_clock) rfl rfl (by decide +kernel) (fun _ _ _ _ _ => g_name (pg_name (i := 3) sc_clock.nd rfl (by first | exact .inl rfl | exact .inr rfl))) (fun _ _ _ _ _ => ts_nil) (fun _ _ _ _ _ => r_int)) (ra_nil))))) (by decide +kernel) rfl rfl _ rfl)) (rs_one (s_ret (r_tup (ra_cons (r_call h_clock_game (Room.mono hr (by decide)) (ra_cons (r_var 0 (pv 0)) (ra_cons (r_var 1 (pv 1)) (ra_nil)))) (ra_cons (r_fld 1 20 (r_var 2 (pv 2)) cls1 no20) (ra_nil))))))))
def N_has : List Str := ["game", "rule", "agent", "kind", "profile", "lot", "paid"]
omit ok in
theorem sc_has : FnScope N_has ["game", "rule", "agent", "kind", "profile"] (defScope s_has) := ⟨rfl, rfl, rfl, by decide +kernel, rfl, by decide +kernel, by decide +kernel⟩
def B_has : Stm := sSeq (sAsg (tgT [5, 6]) (cBin gIx (cVar 1) (cFn 2 F_profile_number (aCons (cVar 0) (aCons (cVar 4) (aNil)))))) (sRet (cFn 2 F_subtract (aCons (cFn 2 F_dot (aCons (cVar 5) (aCons (cBin gIx (cBin gIx (cBin gIx (cBin gIx (cFld 0 23 (cVar 0)) (cVar 2)) (cK (.int 1))) (cVar 3)) (cK (.int 3))) (aNil)))) (aCons (cBin gIx (cVar 6) (cVar 2)) (aNil)))))
def F_has : Fn := fnD 7 B_has
theorem b_has {f : Addr} (h_profile_number : Callee (ct ρ K cl) P w K mg base 3 "profile_number" 2 F_profile_number) (cls0 : Cls K (cl 0)) (no23 : NoAttr K (cl 0) (tbl 23)) (h_dot : Callee (ct ρ K cl) P w K mg base 5 "dot" 2 F_dot) (h_subtract : Callee (ct ρ K cl) P w K mg base 4 "subtract" 2 F_subtract) : Body (ct ρ K cl) P w K mg base 5 N_has "has" f (defScope s_has) (defBody s_has) B_has := fun cdv A outer s H E hr =>
  rs_cons (s_asg (r_ix o_ix (r_var 1 (pv 1)) (r_call h_profile_number (Room.mono hr (by decide)) (ra_cons (r_var 0 (pv 0)) (ra_cons (r_var 4 (pv 4)) (ra_nil))))) (g_tup (gs_cons (pg_name (i := 5) sc_has.nd rfl (by first | exact .inl rfl | exact .inr rfl)) (gs_cons (pg_name (i := 6) sc_has.nd rfl (by first | exact .inl rfl | exact .inr rfl)) (gs_nil))))) (rs_one (s_ret (r_call h_subtract (Room.mono hr (by decide)) (ra_cons (r_call h_dot (Room.mono hr (by decide)) (ra_cons (r_var 5 (pv 5)) (ra_cons (r_ix o_ix (r_ix o_ix (r_ix o_ix (r_ix o_ix (r_fld 0 23 (r_var 0 (pv 0)) cls0 no23) (r_var 2 (pv 2))) (r_int)) (r_var 3 (pv 3))) (r_int)) (ra_nil)))) (ra_cons (r_ix o_ix (r_var 6 (pv 6)) (r_var 2 (pv 2))) (ra_nil))))))
def N_is_question : List Str := ["node"]
omit ok in
theorem sc_is_question : FnScope N_is_question ["node"] (defScope s_is_question) := ⟨rfl, rfl, rfl, by decide +kernel, rfl, by decide +kernel, by decide +kernel⟩
def B_is_question : Stm := sRet (cBin gEq (cBin gIx (cVar 0) (cK (.int 0))) (cK (.str 0)))
def F_is_question : Fn := fnD 1 B_is_question
theorem b_is_question {f : Addr}  : Body (ct ρ K cl) P w K mg base 0 N_is_question "is_question" f (defScope s_is_question) (defBody s_is_question) B_is_question := fun cdv A outer s H E hr =>
  rs_one (s_ret (r_cmp (o_eq ok hr.units) (r_ix o_ix (r_var 0 (pv 0)) (r_int)) (r_str 0)))
def N_has_parents : List Str := ["tree", "node", "counts", "index", "child", "count"]
omit ok in
theorem sc_has_parents : FnScope N_has_parents ["tree"] (defScope s_has_parents) := ⟨rfl, rfl, rfl, by decide +kernel, rfl, by decide +kernel, by decide +kernel⟩
def B_has_parents : Stm := sSeq (sSet 2 (cLcC (iL (cVar 0)) (tgN 1) [1] (tYesB) (cK (.int 0)))) (sSeq (sFor (iE (cVar 0)) (tgT [3, 1]) (sIf (tOf (cFn 1 F_is_question (aCons (cVar 1) (aNil)))) (sFor (iT (cTup (aCons (cBin gIx (cVar 1) (cK (.int 3))) (aCons (cBin gIx (cVar 1) (cK (.int 4))) (aNil))))) (tgN 4) (sSeq (sIf (tNotB (tOf (cChain gLt gLt (cVar 3) (cVar 4) (cCall fLen (aCons (cVar 0) (aNil)))))) (sRet (cK (.bl false))) (sNil)) (sIx (cBin gAdd (cBin gIx (cVar 2) (cVar 4)) (cK (.int 1))) (cVar 2) (cVar 4)))) (sNil))) (sRet (cOfT (tAndB (tOf (cBin gEq (cBin gIx (cVar 2) (cK (.int 0))) (cK (.int 0)))) (tOf (cCall fAll (aCons (cLc (iL (cBin gDrop (cVar 2) (cK (.int 1)))) (tgN 5) [5] (tYesB) (cBin gEq (cVar 5) (cK (.int 1)))) (aNil))))))))
def F_has_parents : Fn := fnD 6 B_has_parents
theorem b_has_parents {f : Addr} (m_enumerate : mg "enumerate" = none) (h_is_question : Callee (ct ρ K cl) P w K mg base 1 "is_question" 1 F_is_question) (m_len : mg "len" = none) (m_all : mg "all" = none) : Body (ct ρ K cl) P w K mg base 1 N_has_parents "has_parents" f (defScope s_has_parents) (defBody s_has_parents) B_has_parents := fun cdv A outer s H E hr =>
  rs_cons (s_setLcC [("node", 1)] (i := 2) sc_has_parents.nd rfl rfl (sw_true rfl rfl rfl (by decide +kernel)) (i_list (r_var 0 (pv 0))) N_has_parents (defScope s_has_parents) rfl rfl (by decide +kernel) (fun _ _ _ _ _ => g_name (pg_name (i := 1) sc_has_parents.nd rfl (by first | exact .inl rfl | exact .inr rfl))) (fun _ _ _ _ _ => ts_nil) (fun _ _ _ _ _ => r_int)) (rs_cons (s_for (i_enum m_enumerate (r_var 0 (pv 0))) (g_tup (gs_cons (pg_name (i := 3) sc_has_parents.nd rfl (by first | exact .inl rfl | exact .inr rfl)) (gs_cons (pg_name (i := 1) sc_has_parents.nd rfl (by first | exact .inl rfl | exact .inr rfl)) (gs_nil)))) (rs_one (s_if (rt_val (r_call h_is_question (Room.mono hr (by decide)) (ra_cons (r_var 1 (pv 1)) (ra_nil)))) (rs_one (s_for (i_tup (r_tup (ra_cons (r_ix o_ix (r_var 1 (pv 1)) (r_int)) (ra_cons (r_ix o_ix (r_var 1 (pv 1)) (r_int)) (ra_nil))))) (g_name (pg_name (i := 4) sc_has_parents.nd rfl (by first | exact .inl rfl | exact .inr rfl))) (rs_cons (s_if (rt_not (rt_chain o_lt o_lt (r_var 3 (pv 3)) (r_var 4 (pv 4)) (r_callB k_len m_len boot_len (ra_cons (r_var 0 (pv 0)) (ra_nil))))) (rs_one (s_ret (r_bl))) (rs_nil)) (rs_one (s_ix (r_op o_add (r_ix o_ix (r_var 2 (pv 2)) (r_var 4 (pv 4))) (r_int)) (r_var 2 (pv 2)) (r_var 4 (pv 4))))))) (rs_nil)))) (rs_one (s_ret (r_and (r_cmp (o_eq ok hr.units) (r_ix o_ix (r_var 2 (pv 2)) (r_int)) (r_int)) (r_one (r_callB k_all m_all (by decide +kernel) (ra_cons (r_lc [("count", 5)] sc_has_parents.nd (i_list (r_slLo (r_var 2 (pv 2)) (r_int))) N_has_parents (defScope s_has_parents) rfl rfl (by decide +kernel) (fun _ _ _ _ _ => g_name (pg_name (i := 5) sc_has_parents.nd rfl (by first | exact .inl rfl | exact .inr rfl))) (fun _ _ _ _ _ => ts_nil) (fun _ _ _ _ _ => r_cmp (o_eq ok hr.units) (r_var 5 (pv 5)) (r_int))) (ra_nil))))))))
def N_is_part : List Str := ["part", "possible", "index", "kind"]
omit ok in
theorem sc_is_part : FnScope N_is_part ["part", "possible"] (defScope s_is_part) := ⟨rfl, rfl, rfl, by decide +kernel, rfl, by decide +kernel, by decide +kernel⟩
def B_is_part : Stm := sSeq (sFor (iE (cVar 0)) (tgT [2, 3]) (sIf (tOrB (tOf (cBin gNotIn (cVar 3) (cVar 1))) (tAndB (tOf (cBin gGt (cVar 2) (cK (.int 0)))) (tOf (cBin gGe (cBin gIx (cVar 0) (cBin gSub (cVar 2) (cK (.int 1)))) (cVar 3))))) (sRet (cK (.bl false))) (sNil))) (sRet (cChain gLt gLt (cK (.int 0)) (cCall fLen (aCons (cVar 0) (aNil))) (cCall fLen (aCons (cVar 1) (aNil)))))
def F_is_part : Fn := fnD 4 B_is_part
theorem b_is_part {f : Addr} (m_enumerate : mg "enumerate" = none) (m_len : mg "len" = none) : Body (ct ρ K cl) P w K mg base 0 N_is_part "is_part" f (defScope s_is_part) (defBody s_is_part) B_is_part := fun cdv A outer s H E hr =>
  rs_cons (s_for (i_enum m_enumerate (r_var 0 (pv 0))) (g_tup (gs_cons (pg_name (i := 2) sc_is_part.nd rfl (by first | exact .inl rfl | exact .inr rfl)) (gs_cons (pg_name (i := 3) sc_is_part.nd rfl (by first | exact .inl rfl | exact .inr rfl)) (gs_nil)))) (rs_one (s_if (PW.pt (rw_or (rt_cmp (o_notIn ok (u65 hr)) (r_var 3 (pv 3)) (r_var 1 (pv 1))) (rw_or1 (PW.pt (rw_and (rt_cmp o_gt (r_var 2 (pv 2)) (r_int)) (rw_and1 (rt_cmp o_ge (r_ix o_ix (r_var 0 (pv 0)) (r_op o_sub (r_var 2 (pv 2)) (r_int))) (r_var 3 (pv 3))))))))) (rs_one (s_ret (r_bl))) (rs_nil)))) (rs_one (s_ret (r_chain o_lt o_lt (r_int) (r_callB k_len m_len boot_len (ra_cons (r_var 0 (pv 0)) (ra_nil))) (r_callB k_len m_len boot_len (ra_cons (r_var 1 (pv 1)) (ra_nil))))))
def N_split_box : List Str := ["box", "agent", "part", "yes", "no", "kind"]
omit ok in
theorem sc_split_box : FnScope N_split_box ["box", "agent", "part"] (defScope s_split_box) := ⟨rfl, rfl, rfl, by decide +kernel, rfl, by decide +kernel, by decide +kernel⟩
def B_split_box : Stm := sSeq (sSet 3 (cCall fListC (aCons (cVar 0) (aNil)))) (sSeq (sSet 4 (cCall fListC (aCons (cVar 0) (aNil)))) (sSeq (sIx (cLc (iL (cBin gIx (cVar 0) (cVar 1))) (tgN 5) [5] (tOf (cBin gIn (cVar 5) (cVar 2))) (cVar 5)) (cVar 3) (cVar 1)) (sSeq (sIx (cLc (iL (cBin gIx (cVar 0) (cVar 1))) (tgN 5) [5] (tOf (cBin gNotIn (cVar 5) (cVar 2))) (cVar 5)) (cVar 4) (cVar 1)) (sRet (cTup (aCons (cVar 3) (aCons (cVar 4) (aNil))))))))
def F_split_box : Fn := fnF 6 B_split_box
theorem b_split_box {f : Addr} (m_list : mg "list" = none) : Body (ct ρ K cl) P w K mg base 0 N_split_box "split_box" f (defScope s_split_box) (defBody s_split_box) B_split_box := fun cdv A outer s H E hr =>
  rs_cons (s_set (ps_set (i := 3) sc_split_box.nd rfl (by first | exact .inl rfl | exact .inr rfl) (r_callTy k_listC m_list boot_list (ra_cons (r_var 0 (pv 0)) (ra_nil))))) (rs_cons (s_set (ps_set (i := 4) sc_split_box.nd rfl (by first | exact .inl rfl | exact .inr rfl) (r_callTy k_listC m_list boot_list (ra_cons (r_var 0 (pv 0)) (ra_nil))))) (rs_cons (s_ix (r_lc [("kind", 5)] sc_split_box.nd (i_list (r_ix o_ix (r_var 0 (pv 0)) (r_var 1 (pv 1)))) N_split_box (defScope s_split_box) rfl rfl (by decide +kernel) (fun _ _ _ _ _ => g_name (pg_name (i := 5) sc_split_box.nd rfl (by first | exact .inl rfl | exact .inr rfl))) (fun _ _ _ _ _ => ts_one (rt_cmp (o_in ok (u65 hr)) (r_var 5 (pv 5)) (r_var 2 (pv 2)))) (fun _ _ _ _ _ => r_var 5 (pv 5))) (r_var 3 (pv 3)) (r_var 1 (pv 1))) (rs_cons (s_ix (r_lc [("kind", 5)] sc_split_box.nd (i_list (r_ix o_ix (r_var 0 (pv 0)) (r_var 1 (pv 1)))) N_split_box (defScope s_split_box) rfl rfl (by decide +kernel) (fun _ _ _ _ _ => g_name (pg_name (i := 5) sc_split_box.nd rfl (by first | exact .inl rfl | exact .inr rfl))) (fun _ _ _ _ _ => ts_one (rt_cmp (o_notIn ok (u65 hr)) (r_var 5 (pv 5)) (r_var 2 (pv 2)))) (fun _ _ _ _ _ => r_var 5 (pv 5))) (r_var 4 (pv 4)) (r_var 1 (pv 1))) (rs_one (s_ret (r_tup (ra_cons (r_var 3 (pv 3)) (ra_cons (r_var 4 (pv 4)) (ra_nil)))))))))
def N_whole_box : List Str := ["game", "name", "kinds"]
omit ok in
theorem sc_whole_box : FnScope N_whole_box ["game"] (defScope s_whole_box) := ⟨rfl, rfl, rfl, by decide +kernel, rfl, by decide +kernel, by decide +kernel⟩
def B_whole_box : Stm := sRet (cLc (iL (cFld 0 23 (cVar 0))) (tgT [1, 2]) [1, 2] (tYesB) (cRg1 (cCall fLen (aCons (cVar 2) (aNil)))))
def F_whole_box : Fn := fnF 3 B_whole_box
theorem b_whole_box {f : Addr} (cls0 : Cls K (cl 0)) (no23 : NoAttr K (cl 0) (tbl 23)) (m_list : mg "list" = none) (m_range : mg "range" = none) (m_len : mg "len" = none) : Body (ct ρ K cl) P w K mg base 0 N_whole_box "whole_box" f (defScope s_whole_box) (defBody s_whole_box) B_whole_box := fun cdv A outer s H E hr =>
  rs_one (s_ret (r_lc [("name", 1), ("kinds", 2)] sc_whole_box.nd (i_list (r_fld 0 23 (r_var 0 (pv 0)) cls0 no23)) N_whole_box (defScope s_whole_box) rfl rfl (by decide +kernel) (fun _ _ _ _ _ => g_tup (gs_cons (pg_name (i := 1) sc_whole_box.nd rfl (by first | exact .inl rfl | exact .inr rfl)) (gs_cons (pg_name (i := 2) sc_whole_box.nd rfl (by first | exact .inl rfl | exact .inr rfl)) (gs_nil)))) (fun _ _ _ _ _ => ts_nil) (fun _ _ _ _ _ => r_listRg1 m_list m_range (r_callB k_len m_len boot_len (ra_cons (r_var 2 (pv 2)) (ra_nil))))))
def N_is_end : List Str := ["game", "node", "payment"]
omit ok in
theorem sc_is_end : FnScope N_is_end ["game", "node"] (defScope s_is_end) := ⟨rfl, rfl, rfl, by decide +kernel, rfl, by decide +kernel, by decide +kernel⟩
def B_is_end : Stm := sSeq (sIf (tOrB (tNotB (tOf (cChain gLe gLt (cK (.int 0)) (cBin gIx (cVar 1) (cK (.int 1))) (cCall fLen (aCons (cFld 0 24 (cVar 0)) (aNil)))))) (tOf (cBin gNe (cCall fLen (aCons (cBin gIx (cVar 1) (cK (.int 2))) (aNil))) (cCall fLen (aCons (cFld 0 23 (cVar 0)) (aNil)))))) (sRet (cK (.bl false))) (sNil)) (sRet (cOfT (tOrB (tOf (cFld 0 26 (cVar 0))) (tOf (cCall fAll (aCons (cLc (iL (cBin gIx (cVar 1) (cK (.int 2)))) (tgN 2) [2] (tYesB) (cBin gEq (cVar 2) (cK (.tup [.int 0, .int 1])))) (aNil)))))))
def F_is_end : Fn := fnD 3 B_is_end
theorem b_is_end {f : Addr} (cls0 : Cls K (cl 0)) (no24 : NoAttr K (cl 0) (tbl 24)) (m_len : mg "len" = none) (no23 : NoAttr K (cl 0) (tbl 23)) (no26 : NoAttr K (cl 0) (tbl 26)) (k_ZERO : Konst (ct ρ K cl) mg "ZERO" (.tup [.int 0, .int 1])) (m_all : mg "all" = none) : Body (ct ρ K cl) P w K mg base 0 N_is_end "is_end" f (defScope s_is_end) (defBody s_is_end) B_is_end := fun cdv A outer s H E hr =>
  rs_cons (s_if (PW.pt (rw_or (rt_not (rt_chain o_le o_lt (r_int) (r_ix o_ix (r_var 1 (pv 1)) (r_int)) (r_callB k_len m_len boot_len (ra_cons (r_fld 0 24 (r_var 0 (pv 0)) cls0 no24) (ra_nil))))) (rw_or1 (rt_cmp (o_ne ok hr.units) (r_callB k_len m_len boot_len (ra_cons (r_ix o_ix (r_var 1 (pv 1)) (r_int)) (ra_nil))) (r_callB k_len m_len boot_len (ra_cons (r_fld 0 23 (r_var 0 (pv 0)) cls0 no23) (ra_nil))))))) (rs_one (s_ret (r_bl))) (rs_nil)) (rs_one (s_ret (r_or (r_fld 0 26 (r_var 0 (pv 0)) cls0 no26) (r_one (r_callB k_all m_all (by decide +kernel) (ra_cons (r_lc [("payment", 2)] sc_is_end.nd (i_list (r_ix o_ix (r_var 1 (pv 1)) (r_int))) N_is_end (defScope s_is_end) rfl rfl (by decide +kernel) (fun _ _ _ _ _ => g_name (pg_name (i := 2) sc_is_end.nd rfl (by first | exact .inl rfl | exact .inr rfl))) (fun _ _ _ _ _ => ts_nil) (fun _ _ _ _ _ => r_cmp (o_eq ok hr.units) (r_var 2 (pv 2)) (r_glob k_ZERO))) (ra_nil)))))))
def N_boxes_or_none : List Str := ["game", "tree", "node", "boxes", "index", "agent", "yes", "no"]
omit ok in
theorem sc_boxes_or_none : FnScope N_boxes_or_none ["game", "tree"] (defScope s_boxes_or_none) := ⟨rfl, rfl, rfl, by decide +kernel, rfl, by decide +kernel, by decide +kernel⟩
def B_boxes_or_none : Stm := sSeq (sIf (tOrB (tNotB (tOf (cChain gLe gLe (cK (.int 1)) (cCall fLen (aCons (cVar 1) (aNil))) (cK (.int 200))))) (tNotB (tOf (cFn 1 F_has_parents (aCons (cVar 1) (aNil)))))) (sRet (cK .non)) (sNil)) (sSeq (sSet 3 (cLcC (iL (cVar 1)) (tgN 2) [2] (tYesB) (cFn 1 F_whole_box (aCons (cVar 0) (aNil))))) (sSeq (sFor (iE (cVar 1)) (tgT [4, 2]) (sIf (tOf (cFn 1 F_is_question (aCons (cVar 2) (aNil)))) (sSeq (sSet 5 (cBin gIx (cVar 2) (cK (.int 1)))) (sSeq (sIf (tOrB (tNotB (tOf (cChain gLe gLt (cK (.int 0)) (cVar 5) (cCall fLen (aCons (cFld 0 23 (cVar 0)) (aNil)))))) (tNotB (tOf (cFn 2 F_is_part (aCons (cBin gIx (cVar 2) (cK (.int 2))) (aCons (cBin gIx (cBin gIx (cVar 3) (cVar 4)) (cVar 5)) (aNil))))))) (sRet (cK .non)) (sNil)) (sSeq (sAsg (tgT [6, 7]) (cFn 3 F_split_box (aCons (cBin gIx (cVar 3) (cVar 4)) (aCons (cVar 5) (aCons (cBin gIx (cVar 2) (cK (.int 2))) (aNil)))))) (sSeq (sIx (cVar 6) (cVar 3) (cBin gIx (cVar 2) (cK (.int 3)))) (sIx (cVar 7) (cVar 3) (cBin gIx (cVar 2) (cK (.int 4)))))))) (sIf (tNotB (tOf (cFn 2 F_is_end (aCons (cVar 0) (aCons (cVar 2) (aNil)))))) (sRet (cK .non)) (sNil)))) (sRet (cVar 3))))
def F_boxes_or_none : Fn := fnF 8 B_boxes_or_none
theorem b_boxes_or_none {f : Addr} (m_len : mg "len" = none) (k_MOST_NODES : Konst (ct ρ K cl) mg "MOST_NODES" (.int 200)) (h_has_parents : Callee (ct ρ K cl) P w K mg base 2 "has_parents" 1 F_has_parents) (h_whole_box : Callee (ct ρ K cl) P w K mg base 1 "whole_box" 1 F_whole_box) (m_enumerate : mg "enumerate" = none) (h_is_question : Callee (ct ρ K cl) P w K mg base 1 "is_question" 1 F_is_question) (cls0 : Cls K (cl 0)) (no23 : NoAttr K (cl 0) (tbl 23)) (h_is_part : Callee (ct ρ K cl) P w K mg base 1 "is_part" 2 F_is_part) (h_split_box : Callee (ct ρ K cl) P w K mg base 1 "split_box" 3 F_split_box) (h_is_end : Callee (ct ρ K cl) P w K mg base 1 "is_end" 2 F_is_end) : Body (ct ρ K cl) P w K mg base 2 N_boxes_or_none "boxes_or_none" f (defScope s_boxes_or_none) (defBody s_boxes_or_none) B_boxes_or_none := fun cdv A outer s H E hr =>
  rs_cons (s_if (PW.pt (rw_or (rt_not (rt_chain o_le o_le (r_int) (r_callB k_len m_len boot_len (ra_cons (r_var 1 (pv 1)) (ra_nil))) (r_glob k_MOST_NODES))) (rw_or1 (rt_not (rt_val (r_call h_has_parents (Room.mono hr (by decide)) (ra_cons (r_var 1 (pv 1)) (ra_nil)))))))) (rs_one (s_ret (r_non))) (rs_nil)) (rs_cons (s_setLcC [("node", 2)] (i := 3) sc_boxes_or_none.nd rfl rfl (sw_true rfl rfl rfl (by decide +kernel)) (i_list (r_var 1 (pv 1))) N_boxes_or_none (defScope s_boxes_or_none) rfl rfl (by decide +kernel) (fun _ _ _ _ _ => g_name (pg_name (i := 2) sc_boxes_or_none.nd rfl (by first | exact .inl rfl | exact .inr rfl))) (fun _ _ _ _ _ => ts_nil) (fun _ _ _ _ _ => r_call h_whole_box (Room.mono hr (by decide)) (ra_cons (r_var 0 (pv 0)) (ra_nil)))) (rs_cons (s_for (i_enum m_enumerate (r_var 1 (pv 1))) (g_tup (gs_cons (pg_name (i := 4) sc_boxes_or_none.nd rfl (by first | exact .inl rfl | exact .inr rfl)) (gs_cons (pg_name (i := 2) sc_boxes_or_none.nd rfl (by first | exact .inl rfl | exact .inr rfl)) (gs_nil)))) (rs_one (s_if (rt_val (r_call h_is_question (Room.mono hr (by decide)) (ra_cons (r_var 2 (pv 2)) (ra_nil)))) (rs_cons (s_set (ps_set (i := 5) sc_boxes_or_none.nd rfl (by first | exact .inl rfl | exact .inr rfl) (r_ix o_ix (r_var 2 (pv 2)) (r_int)))) (rs_cons (s_if (PW.pt (rw_or (rt_not (rt_chain o_le o_lt (r_int) (r_var 5 (pv 5)) (r_callB k_len m_len boot_len (ra_cons (r_fld 0 23 (r_var 0 (pv 0)) cls0 no23) (ra_nil))))) (rw_or1 (rt_not (rt_val (r_call h_is_part (Room.mono hr (by decide)) (ra_cons (r_ix o_ix (r_var 2 (pv 2)) (r_int)) (ra_cons (r_ix o_ix (r_ix o_ix (r_var 3 (pv 3)) (r_var 4 (pv 4))) (r_var 5 (pv 5))) (ra_nil))))))))) (rs_one (s_ret (r_non))) (rs_nil)) (rs_cons (s_asg (r_call h_split_box (Room.mono hr (by decide)) (ra_cons (r_ix o_ix (r_var 3 (pv 3)) (r_var 4 (pv 4))) (ra_cons (r_var 5 (pv 5)) (ra_cons (r_ix o_ix (r_var 2 (pv 2)) (r_int)) (ra_nil))))) (g_tup (gs_cons (pg_name (i := 6) sc_boxes_or_none.nd rfl (by first | exact .inl rfl | exact .inr rfl)) (gs_cons (pg_name (i := 7) sc_boxes_or_none.nd rfl (by first | exact .inl rfl | exact .inr rfl)) (gs_nil))))) (rs_cons (s_ix (r_var 6 (pv 6)) (r_var 3 (pv 3)) (r_ix o_ix (r_var 2 (pv 2)) (r_int))) (rs_one (s_ix (r_var 7 (pv 7)) (r_var 3 (pv 3)) (r_ix o_ix (r_var 2 (pv 2)) (r_int)))))))) (rs_one (s_if (rt_not (rt_val (r_call h_is_end (Room.mono hr (by decide)) (ra_cons (r_var 0 (pv 0)) (ra_cons (r_var 2 (pv 2)) (ra_nil)))))) (rs_one (s_ret (r_non))) (rs_nil)))))) (rs_one (s_ret (r_var 3 (pv 3))))))
def N_boxes : List Str := ["game", "tree", "found"]
omit ok in
theorem sc_boxes : FnScope N_boxes ["game", "tree"] (defScope s_boxes) := ⟨rfl, rfl, rfl, by decide +kernel, rfl, by decide +kernel, by decide +kernel⟩
def B_boxes : Stm := sSeq (sSet 2 (cFn 2 F_boxes_or_none (aCons (cVar 0) (aCons (cVar 1) (aNil))))) (sSeq (sIf (tOf (cBin gIs (cVar 2) (cK .non))) (sErr) (sNil)) (sRet (cVar 2)))
def F_boxes : Fn := fnF 3 B_boxes
theorem b_boxes {f : Addr} (h_boxes_or_none : Callee (ct ρ K cl) P w K mg base 3 "boxes_or_none" 2 F_boxes_or_none) : Body (ct ρ K cl) P w K mg base 3 N_boxes "boxes" f (defScope s_boxes) (defBody s_boxes) B_boxes := fun cdv A outer s H E hr =>
  rs_cons (s_set (ps_set (i := 2) sc_boxes.nd rfl (by first | exact .inl rfl | exact .inr rfl) (r_call h_boxes_or_none (Room.mono hr (by decide)) (ra_cons (r_var 0 (pv 0)) (ra_cons (r_var 1 (pv 1)) (ra_nil)))))) (rs_cons (s_if (rt_cmp o_is (r_var 2 (pv 2)) (r_non)) (ss_err) (rs_nil)) (rs_one (s_ret (r_var 2 (pv 2)))))
def N_path_of : List Str := ["tree", "profile", "path", "node", "index"]
omit ok in
theorem sc_path_of : FnScope N_path_of ["tree", "profile"] (defScope s_path_of) := ⟨rfl, rfl, rfl, by decide +kernel, rfl, by decide +kernel, by decide +kernel⟩
def B_path_of : Stm := sSeq (sSet 2 (cCel (aCons (cK (.int 0)) (aNil)))) (sSeq (sSet 3 (cBin gIx (cVar 0) (cK (.int 0)))) (sSeq (sWhile 300 (tOf (cFn 1 F_is_question (aCons (cVar 3) (aNil)))) (sSeq (sSet 4 (cBin gIx (cVar 3) (cK (.int 4)))) (sSeq (sIf (tOf (cBin gIn (cBin gIx (cVar 1) (cBin gIx (cVar 3) (cK (.int 1)))) (cBin gIx (cVar 3) (cK (.int 2))))) (sSet 4 (cBin gIx (cVar 3) (cK (.int 3)))) (sNil)) (sSeq (sExpr (cMeth gApp (cVar 2) (aCons (cVar 4) (aNil)))) (sSet 3 (cBin gIx (cVar 0) (cVar 4))))))) (sRet (cVar 2))))
def F_path_of : Fn := fnF 5 B_path_of
theorem b_path_of {f : Addr} (h_is_question : Callee (ct ρ K cl) P w K mg base 1 "is_question" 1 F_is_question) : Body (ct ρ K cl) P w K mg base 1 N_path_of "path_of" f (defScope s_path_of) (defBody s_path_of) B_path_of := fun cdv A outer s H E hr =>
  rs_cons (s_set (ps_set (i := 2) sc_path_of.nd rfl (by first | exact .inl rfl | exact .inr rfl) (r_cel (ra_cons (r_int) (ra_nil))))) (rs_cons (s_set (ps_set (i := 3) sc_path_of.nd rfl (by first | exact .inl rfl | exact .inr rfl) (r_ix o_ix (r_var 0 (pv 0)) (r_int)))) (rs_cons (s_while 300 (rt_val (r_call h_is_question (Room.mono hr (by decide)) (ra_cons (r_var 3 (pv 3)) (ra_nil)))) (rs_cons (s_set (ps_set (i := 4) sc_path_of.nd rfl (by first | exact .inl rfl | exact .inr rfl) (r_ix o_ix (r_var 3 (pv 3)) (r_int)))) (rs_cons (s_if (rt_cmp (o_in ok (u65 hr)) (r_ix o_ix (r_var 1 (pv 1)) (r_ix o_ix (r_var 3 (pv 3)) (r_int))) (r_ix o_ix (r_var 3 (pv 3)) (r_int))) (rs_one (s_set (ps_set (i := 4) sc_path_of.nd rfl (by first | exact .inl rfl | exact .inr rfl) (r_ix o_ix (r_var 3 (pv 3)) (r_int))))) (rs_nil)) (rs_cons (s_expr (r_bm PySem.F.slot_list_append PySem.F.type_list_append m_append (r_var 2 (pv 2)) (ra_cons (r_var 4 (pv 4)) (ra_nil)))) (rs_one (s_set (ps_set (i := 3) sc_path_of.nd rfl (by first | exact .inl rfl | exact .inr rfl) (r_ix o_ix (r_var 0 (pv 0)) (r_var 4 (pv 4)))))))))) (rs_one (s_ret (r_var 2 (pv 2))))))
def N_rule_of : List Str := ["game", "tree", "rule", "profile", "path", "end", "outcome", "lot"]
omit ok in
theorem sc_rule_of : FnScope N_rule_of ["game", "tree"] (defScope s_rule_of) := ⟨rfl, rfl, rfl, by decide +kernel, rfl, by decide +kernel, by decide +kernel⟩
def B_rule_of : Stm := sSeq (sExpr (cFn 2 F_boxes (aCons (cVar 0) (aCons (cVar 1) (aNil))))) (sSeq (sSet 2 (cCel (aNil))) (sSeq (sFor (iL (cFn 1 F_profiles (aCons (cVar 0) (aNil)))) (tgN 3) (sSeq (sSet 4 (cFn 2 F_path_of (aCons (cVar 1) (aCons (cVar 3) (aNil))))) (sSeq (sSet 5 (cBin gIx (cVar 1) (cBin gIx (cVar 4) (cBin gSub (cCall fLen (aCons (cVar 4) (aNil))) (cK (.int 1)))))) (sSeq (sSet 7 (cLc (iR1 (cCall fLen (aCons (cFld 0 24 (cVar 0)) (aNil)))) (tgN 6) [6] (tYesB) (cIf (tOf (cBin gEq (cVar 6) (cBin gIx (cVar 5) (cK (.int 1))))) (cK (.tup [.int 1, .int 1])) (cK (.tup [.int 0, .int 1]))))) (sExpr (cMeth gApp (cVar 2) (aCons (cTup (aCons (cVar 7) (aCons (cCall fListV (aCons (cBin gIx (cVar 5) (cK (.int 2))) (aNil))) (aNil)))) (aNil)))))))) (sRet (cVar 2))))
def F_rule_of : Fn := fnF 8 B_rule_of
theorem b_rule_of {f : Addr} (h_boxes : Callee (ct ρ K cl) P w K mg base 4 "boxes" 2 F_boxes) (h_profiles : Callee (ct ρ K cl) P w K mg base 1 "profiles" 1 F_profiles) (h_path_of : Callee (ct ρ K cl) P w K mg base 2 "path_of" 2 F_path_of) (m_len : mg "len" = none) (cls0 : Cls K (cl 0)) (no24 : NoAttr K (cl 0) (tbl 24)) (m_range : mg "range" = none) (k_ONE : Konst (ct ρ K cl) mg "ONE" (.tup [.int 1, .int 1])) (k_ZERO : Konst (ct ρ K cl) mg "ZERO" (.tup [.int 0, .int 1])) (m_list : mg "list" = none) : Body (ct ρ K cl) P w K mg base 4 N_rule_of "rule_of" f (defScope s_rule_of) (defBody s_rule_of) B_rule_of := fun cdv A outer s H E hr =>
  rs_cons (s_expr (r_call h_boxes (Room.mono hr (by decide)) (ra_cons (r_var 0 (pv 0)) (ra_cons (r_var 1 (pv 1)) (ra_nil))))) (rs_cons (s_set (ps_set (i := 2) sc_rule_of.nd rfl (by first | exact .inl rfl | exact .inr rfl) (r_cel (ra_nil)))) (rs_cons (s_for (i_list (r_call h_profiles (Room.mono hr (by decide)) (ra_cons (r_var 0 (pv 0)) (ra_nil)))) (g_name (pg_name (i := 3) sc_rule_of.nd rfl (by first | exact .inl rfl | exact .inr rfl))) (rs_cons (s_set (ps_set (i := 4) sc_rule_of.nd rfl (by first | exact .inl rfl | exact .inr rfl) (r_call h_path_of (Room.mono hr (by decide)) (ra_cons (r_var 1 (pv 1)) (ra_cons (r_var 3 (pv 3)) (ra_nil)))))) (rs_cons (s_set (ps_set (i := 5) sc_rule_of.nd rfl (by first | exact .inl rfl | exact .inr rfl) (r_ix o_ix (r_var 1 (pv 1)) (r_ix o_ix (r_var 4 (pv 4)) (r_op o_sub (r_callB k_len m_len boot_len (ra_cons (r_var 4 (pv 4)) (ra_nil))) (r_int)))))) (rs_cons (s_setLc [("outcome", 6)] (i := 7) sc_rule_of.nd rfl rfl (sw_true rfl rfl rfl (by decide +kernel)) (i_range1 m_range (r_callB k_len m_len boot_len (ra_cons (r_fld 0 24 (r_var 0 (pv 0)) cls0 no24) (ra_nil)))) N_rule_of (defScope s_rule_of) rfl rfl (by decide +kernel) (fun _ _ _ _ _ => g_name (pg_name (i := 6) sc_rule_of.nd rfl (by first | exact .inl rfl | exact .inr rfl))) (fun _ _ _ _ _ => ts_nil) (fun _ _ _ _ _ => r_if (rt_cmp (o_eq ok hr.units) (r_var 6 (pv 6)) (r_ix o_ix (r_var 5 (pv 5)) (r_int))) (r_glob k_ONE) (r_glob k_ZERO))) (rs_one (s_expr (r_bm PySem.F.slot_list_append PySem.F.type_list_append m_append (r_var 2 (pv 2)) (ra_cons (r_tup (ra_cons (r_var 7 (pv 7)) (ra_cons (r_callTy k_listV m_list boot_list (ra_cons (r_ix o_ix (r_var 5 (pv 5)) (r_int)) (ra_nil))) (ra_nil)))) (ra_nil))))))))) (rs_one (s_ret (r_var 2 (pv 2))))))
def N_brings : List Str := ["game", "node", "agent", "kind"]
omit ok in
theorem sc_brings : FnScope N_brings ["game", "node", "agent", "kind"] (defScope s_brings) := ⟨rfl, rfl, rfl, by decide +kernel, rfl, by decide +kernel, by decide +kernel⟩
def B_brings : Stm := sRet (cFn 2 F_subtract (aCons (cBin gIx (cBin gIx (cBin gIx (cBin gIx (cBin gIx (cFld 0 23 (cVar 0)) (cVar 2)) (cK (.int 1))) (cVar 3)) (cK (.int 3))) (cBin gIx (cVar 1) (cK (.int 1)))) (aCons (cBin gIx (cBin gIx (cVar 1) (cK (.int 2))) (cVar 2)) (aNil))))
def F_brings : Fn := fnD 4 B_brings
theorem b_brings {f : Addr} (cls0 : Cls K (cl 0)) (no23 : NoAttr K (cl 0) (tbl 23)) (h_subtract : Callee (ct ρ K cl) P w K mg base 4 "subtract" 2 F_subtract) : Body (ct ρ K cl) P w K mg base 4 N_brings "brings" f (defScope s_brings) (defBody s_brings) B_brings := fun cdv A outer s H E hr =>
  rs_one (s_ret (r_call h_subtract (Room.mono hr (by decide)) (ra_cons (r_ix o_ix (r_ix o_ix (r_ix o_ix (r_ix o_ix (r_ix o_ix (r_fld 0 23 (r_var 0 (pv 0)) cls0 no23) (r_var 2 (pv 2))) (r_int)) (r_var 3 (pv 3))) (r_int)) (r_ix o_ix (r_var 1 (pv 1)) (r_int))) (ra_cons (r_ix o_ix (r_ix o_ix (r_var 1 (pv 1)) (r_int)) (r_var 2 (pv 2))) (ra_nil)))))
def N_ends_below : List Str := ["tree", "start", "agent", "kind", "found", "waiting", "node"]
omit ok in
theorem sc_ends_below : FnScope N_ends_below ["tree", "start", "agent", "kind"] (defScope s_ends_below) := ⟨rfl, rfl, rfl, by decide +kernel, rfl, by decide +kernel, by decide +kernel⟩
def B_ends_below : Stm := sSeq (sSet 4 (cCel (aNil))) (sSeq (sSet 5 (cCel (aCons (cVar 1) (aNil)))) (sSeq (sWhile 300 (tOf (cBin gGt (cCall fLen (aCons (cVar 5) (aNil))) (cK (.int 0)))) (sSeq (sSet 6 (cBin gIx (cVar 0) (cMeth0 gPop (cVar 5)))) (sIf (tNotB (tOf (cFn 1 F_is_question (aCons (cVar 6) (aNil))))) (sExpr (cMeth gApp (cVar 4) (aCons (cVar 6) (aNil)))) (sIf (tOf (cBin gNe (cBin gIx (cVar 6) (cK (.int 1))) (cVar 2))) (sSeq (sExpr (cMeth gApp (cVar 5) (aCons (cBin gIx (cVar 6) (cK (.int 3))) (aNil)))) (sExpr (cMeth gApp (cVar 5) (aCons (cBin gIx (cVar 6) (cK (.int 4))) (aNil))))) (sIf (tOf (cBin gIn (cVar 3) (cBin gIx (cVar 6) (cK (.int 2))))) (sExpr (cMeth gApp (cVar 5) (aCons (cBin gIx (cVar 6) (cK (.int 3))) (aNil)))) (sExpr (cMeth gApp (cVar 5) (aCons (cBin gIx (cVar 6) (cK (.int 4))) (aNil))))))))) (sRet (cVar 4))))
def F_ends_below : Fn := fnF 7 B_ends_below
theorem b_ends_below {f : Addr} (m_len : mg "len" = none) (h_is_question : Callee (ct ρ K cl) P w K mg base 1 "is_question" 1 F_is_question) : Body (ct ρ K cl) P w K mg base 1 N_ends_below "ends_below" f (defScope s_ends_below) (defBody s_ends_below) B_ends_below := fun cdv A outer s H E hr =>
  rs_cons (s_set (ps_set (i := 4) sc_ends_below.nd rfl (by first | exact .inl rfl | exact .inr rfl) (r_cel (ra_nil)))) (rs_cons (s_set (ps_set (i := 5) sc_ends_below.nd rfl (by first | exact .inl rfl | exact .inr rfl) (r_cel (ra_cons (r_var 1 (pv 1)) (ra_nil))))) (rs_cons (s_while 300 (rt_cmp o_gt (r_callB k_len m_len boot_len (ra_cons (r_var 5 (pv 5)) (ra_nil))) (r_int)) (rs_cons (s_set (ps_set (i := 6) sc_ends_below.nd rfl (by first | exact .inl rfl | exact .inr rfl) (r_ix o_ix (r_var 0 (pv 0)) (r_bm0 PySem.F.slot_list_pop PySem.F.type_list_pop m_pop (r_var 5 (pv 5)))))) (rs_one (s_if (rt_not (rt_val (r_call h_is_question (Room.mono hr (by decide)) (ra_cons (r_var 6 (pv 6)) (ra_nil))))) (rs_one (s_expr (r_bm PySem.F.slot_list_append PySem.F.type_list_append m_append (r_var 4 (pv 4)) (ra_cons (r_var 6 (pv 6)) (ra_nil))))) (rs_one (s_if (rt_cmp (o_ne ok hr.units) (r_ix o_ix (r_var 6 (pv 6)) (r_int)) (r_var 2 (pv 2))) (rs_cons (s_expr (r_bm PySem.F.slot_list_append PySem.F.type_list_append m_append (r_var 5 (pv 5)) (ra_cons (r_ix o_ix (r_var 6 (pv 6)) (r_int)) (ra_nil)))) (rs_one (s_expr (r_bm PySem.F.slot_list_append PySem.F.type_list_append m_append (r_var 5 (pv 5)) (ra_cons (r_ix o_ix (r_var 6 (pv 6)) (r_int)) (ra_nil)))))) (rs_one (s_if (rt_cmp (o_in ok (u65 hr)) (r_var 3 (pv 3)) (r_ix o_ix (r_var 6 (pv 6)) (r_int))) (rs_one (s_expr (r_bm PySem.F.slot_list_append PySem.F.type_list_append m_append (r_var 5 (pv 5)) (ra_cons (r_ix o_ix (r_var 6 (pv 6)) (r_int)) (ra_nil))))) (rs_one (s_expr (r_bm PySem.F.slot_list_append PySem.F.type_list_append m_append (r_var 5 (pv 5)) (ra_cons (r_ix o_ix (r_var 6 (pv 6)) (r_int)) (ra_nil))))))))))))) (rs_one (s_ret (r_var 4 (pv 4))))))
def N_worst_and_best : List Str := ["game", "tree", "node", "kind", "agent", "true", "other", "end", "sure", "hoped"]
omit ok in
theorem sc_worst_and_best : FnScope N_worst_and_best ["game", "tree", "node", "kind"] (defScope s_worst_and_best) := ⟨rfl, rfl, rfl, by decide +kernel, rfl, by decide +kernel, by decide +kernel⟩
def B_worst_and_best : Stm := sSeq (sSet 4 (cBin gIx (cVar 2) (cK (.int 1)))) (sSeq (sSet 5 (cBin gIx (cVar 2) (cK (.int 4)))) (sSeq (sSet 6 (cBin gIx (cVar 2) (cK (.int 3)))) (sSeq (sIf (tOf (cBin gIn (cVar 3) (cBin gIx (cVar 2) (cK (.int 2))))) (sSeq (sSet 5 (cBin gIx (cVar 2) (cK (.int 3)))) (sSet 6 (cBin gIx (cVar 2) (cK (.int 4))))) (sNil)) (sSeq (sSet 8 (cLc (iL (cFn 4 F_ends_below (aCons (cVar 1) (aCons (cVar 5) (aCons (cVar 4) (aCons (cVar 3) (aNil))))))) (tgN 7) [7] (tYesB) (cFn 4 F_brings (aCons (cVar 0) (aCons (cVar 7) (aCons (cVar 4) (aCons (cVar 3) (aNil)))))))) (sSeq (sSet 9 (cLc (iL (cFn 4 F_ends_below (aCons (cVar 1) (aCons (cVar 6) (aCons (cK .non) (aCons (cVar 3) (aNil))))))) (tgN 7) [7] (tYesB) (cFn 4 F_brings (aCons (cVar 0) (aCons (cVar 7) (aCons (cVar 4) (aCons (cVar 3) (aNil)))))))) (sRet (cTup (aCons (cBin gIx (cVar 8) (cFn 1 F_least_index (aCons (cVar 8) (aNil)))) (aCons (cBin gIx (cVar 9) (cFn 1 F_greatest_index (aCons (cVar 9) (aNil)))) (aNil))))))))))
def F_worst_and_best : Fn := fnD 10 B_worst_and_best
theorem b_worst_and_best {f : Addr} (h_ends_below : Callee (ct ρ K cl) P w K mg base 2 "ends_below" 4 F_ends_below) (h_brings : Callee (ct ρ K cl) P w K mg base 5 "brings" 4 F_brings) (h_least_index : Callee (ct ρ K cl) P w K mg base 2 "least_index" 1 F_least_index) (h_greatest_index : Callee (ct ρ K cl) P w K mg base 3 "greatest_index" 1 F_greatest_index) : Body (ct ρ K cl) P w K mg base 5 N_worst_and_best "worst_and_best" f (defScope s_worst_and_best) (defBody s_worst_and_best) B_worst_and_best := fun cdv A outer s H E hr =>
  rs_cons (s_set (ps_set (i := 4) sc_worst_and_best.nd rfl (by first | exact .inl rfl | exact .inr rfl) (r_ix o_ix (r_var 2 (pv 2)) (r_int)))) (rs_cons (s_set (ps_set (i := 5) sc_worst_and_best.nd rfl (by first | exact .inl rfl | exact .inr rfl) (r_ix o_ix (r_var 2 (pv 2)) (r_int)))) (rs_cons (s_set (ps_set (i := 6) sc_worst_and_best.nd rfl (by first | exact .inl rfl | exact .inr rfl) (r_ix o_ix (r_var 2 (pv 2)) (r_int)))) (rs_cons (s_if (rt_cmp (o_in ok (u65 hr)) (r_var 3 (pv 3)) (r_ix o_ix (r_var 2 (pv 2)) (r_int))) (rs_cons (s_set (ps_set (i := 5) sc_worst_and_best.nd rfl (by first | exact .inl rfl | exact .inr rfl) (r_ix o_ix (r_var 2 (pv 2)) (r_int)))) (rs_one (s_set (ps_set (i := 6) sc_worst_and_best.nd rfl (by first | exact .inl rfl | exact .inr rfl) (r_ix o_ix (r_var 2 (pv 2)) (r_int)))))) (rs_nil)) (rs_cons (s_setLc [("end", 7)] (i := 8) sc_worst_and_best.nd rfl rfl (sw_true rfl rfl rfl (by decide +kernel)) (i_list (r_call h_ends_below (Room.mono hr (by decide)) (ra_cons (r_var 1 (pv 1)) (ra_cons (r_var 5 (pv 5)) (ra_cons (r_var 4 (pv 4)) (ra_cons (r_var 3 (pv 3)) (ra_nil))))))) N_worst_and_best (defScope s_worst_and_best) rfl rfl (by decide +kernel) (fun _ _ _ _ _ => g_name (pg_name (i := 7) sc_worst_and_best.nd rfl (by first | exact .inl rfl | exact .inr rfl))) (fun _ _ _ _ _ => ts_nil) (fun _ _ _ _ _ => r_call h_brings (Room.mono hr (by decide)) (ra_cons (r_var 0 (pv 0)) (ra_cons (r_var 7 (pv 7)) (ra_cons (r_var 4 (pv 4)) (ra_cons (r_var 3 (pv 3)) (ra_nil))))))) (rs_cons (s_setLc [("end", 7)] (i := 9) sc_worst_and_best.nd rfl rfl (sw_true rfl rfl rfl (by decide +kernel)) (i_list (r_call h_ends_below (Room.mono hr (by decide)) (ra_cons (r_var 1 (pv 1)) (ra_cons (r_var 6 (pv 6)) (ra_cons (r_non) (ra_cons (r_var 3 (pv 3)) (ra_nil))))))) N_worst_and_best (defScope s_worst_and_best) rfl rfl (by decide +kernel) (fun _ _ _ _ _ => g_name (pg_name (i := 7) sc_worst_and_best.nd rfl (by first | exact .inl rfl | exact .inr rfl))) (fun _ _ _ _ _ => ts_nil) (fun _ _ _ _ _ => r_call h_brings (Room.mono hr (by decide)) (ra_cons (r_var 0 (pv 0)) (ra_cons (r_var 7 (pv 7)) (ra_cons (r_var 4 (pv 4)) (ra_cons (r_var 3 (pv 3)) (ra_nil))))))) (rs_one (s_ret (r_tup (ra_cons (r_ix o_ix (r_var 8 (pv 8)) (r_call h_least_index (Room.mono hr (by decide)) (ra_cons (r_var 8 (pv 8)) (ra_nil)))) (ra_cons (r_ix o_ix (r_var 9 (pv 9)) (r_call h_greatest_index (Room.mono hr (by decide)) (ra_cons (r_var 9 (pv 9)) (ra_nil)))) (ra_nil)))))))))))
def N_first_doubt : List Str := ["game", "tree", "possible", "index", "node", "kind", "worst", "best"]
omit ok in
theorem sc_first_doubt : FnScope N_first_doubt ["game", "tree"] (defScope s_first_doubt) := ⟨rfl, rfl, rfl, by decide +kernel, rfl, by decide +kernel, by decide +kernel⟩
def B_first_doubt : Stm := sSeq (sSet 2 (cFn 2 F_boxes (aCons (cVar 0) (aCons (cVar 1) (aNil))))) (sSeq (sFor (iE (cVar 1)) (tgT [3, 4]) (sIf (tOf (cFn 1 F_is_question (aCons (cVar 4) (aNil)))) (sFor (iL (cBin gIx (cBin gIx (cVar 2) (cVar 3)) (cBin gIx (cVar 4) (cK (.int 1))))) (tgN 5) (sSeq (sAsg (tgT [6, 7]) (cFn 4 F_worst_and_best (aCons (cVar 0) (aCons (cVar 1) (aCons (cVar 4) (aCons (cVar 5) (aNil))))))) (sIf (tOf (cBin gLt (cFn 2 F_compare (aCons (cVar 6) (aCons (cVar 7) (aNil)))) (cK (.int 0)))) (sRet (cTup (aCons (cVar 3) (aCons (cVar 5) (aCons (cVar 6) (aCons (cVar 7) (aNil))))))) (sNil)))) (sNil))) (sRet (cK .non)))
def F_first_doubt : Fn := fnD 8 B_first_doubt
theorem b_first_doubt {f : Addr} (h_boxes : Callee (ct ρ K cl) P w K mg base 4 "boxes" 2 F_boxes) (m_enumerate : mg "enumerate" = none) (h_is_question : Callee (ct ρ K cl) P w K mg base 1 "is_question" 1 F_is_question) (h_worst_and_best : Callee (ct ρ K cl) P w K mg base 6 "worst_and_best" 4 F_worst_and_best) (h_compare : Callee (ct ρ K cl) P w K mg base 1 "compare" 2 F_compare) : Body (ct ρ K cl) P w K mg base 6 N_first_doubt "first_doubt" f (defScope s_first_doubt) (defBody s_first_doubt) B_first_doubt := fun cdv A outer s H E hr =>
  rs_cons (s_set (ps_set (i := 2) sc_first_doubt.nd rfl (by first | exact .inl rfl | exact .inr rfl) (r_call h_boxes (Room.mono hr (by decide)) (ra_cons (r_var 0 (pv 0)) (ra_cons (r_var 1 (pv 1)) (ra_nil)))))) (rs_cons (s_for (i_enum m_enumerate (r_var 1 (pv 1))) (g_tup (gs_cons (pg_name (i := 3) sc_first_doubt.nd rfl (by first | exact .inl rfl | exact .inr rfl)) (gs_cons (pg_name (i := 4) sc_first_doubt.nd rfl (by first | exact .inl rfl | exact .inr rfl)) (gs_nil)))) (rs_one (s_if (rt_val (r_call h_is_question (Room.mono hr (by decide)) (ra_cons (r_var 4 (pv 4)) (ra_nil)))) (rs_one (s_for (i_list (r_ix o_ix (r_ix o_ix (r_var 2 (pv 2)) (r_var 3 (pv 3))) (r_ix o_ix (r_var 4 (pv 4)) (r_int)))) (g_name (pg_name (i := 5) sc_first_doubt.nd rfl (by first | exact .inl rfl | exact .inr rfl))) (rs_cons (s_asg (r_call h_worst_and_best (Room.mono hr (by decide)) (ra_cons (r_var 0 (pv 0)) (ra_cons (r_var 1 (pv 1)) (ra_cons (r_var 4 (pv 4)) (ra_cons (r_var 5 (pv 5)) (ra_nil)))))) (g_tup (gs_cons (pg_name (i := 6) sc_first_doubt.nd rfl (by first | exact .inl rfl | exact .inr rfl)) (gs_cons (pg_name (i := 7) sc_first_doubt.nd rfl (by first | exact .inl rfl | exact .inr rfl)) (gs_nil))))) (rs_one (s_if (rt_cmp o_lt (r_call h_compare (Room.mono hr (by decide)) (ra_cons (r_var 6 (pv 6)) (ra_cons (r_var 7 (pv 7)) (ra_nil)))) (r_int)) (rs_one (s_ret (r_tup (ra_cons (r_var 3 (pv 3)) (ra_cons (r_var 5 (pv 5)) (ra_cons (r_var 6 (pv 6)) (ra_cons (r_var 7 (pv 7)) (ra_nil)))))))) (rs_nil)))))) (rs_nil)))) (rs_one (s_ret (r_non))))
def N_is_plain : List Str := ["rule", "lot", "paid"]
omit ok in
theorem sc_is_plain : FnScope N_is_plain ["rule"] (defScope s_is_plain) := ⟨rfl, rfl, rfl, by decide +kernel, rfl, by decide +kernel, by decide +kernel⟩
def B_is_plain : Stm := sRet (cCall fAll (aCons (cLc (iL (cVar 0)) (tgT [1, 2]) [1, 2] (tYesB) (cBin gIn (cK (.tup [.int 1, .int 1])) (cVar 1))) (aNil)))
def F_is_plain : Fn := fnD 3 B_is_plain
theorem b_is_plain {f : Addr} (k_ONE : Konst (ct ρ K cl) mg "ONE" (.tup [.int 1, .int 1])) (m_all : mg "all" = none) : Body (ct ρ K cl) P w K mg base 0 N_is_plain "is_plain" f (defScope s_is_plain) (defBody s_is_plain) B_is_plain := fun cdv A outer s H E hr =>
  rs_one (s_ret (r_callB k_all m_all (by decide +kernel) (ra_cons (r_lc [("lot", 1), ("paid", 2)] sc_is_plain.nd (i_list (r_var 0 (pv 0))) N_is_plain (defScope s_is_plain) rfl rfl (by decide +kernel) (fun _ _ _ _ _ => g_tup (gs_cons (pg_name (i := 1) sc_is_plain.nd rfl (by first | exact .inl rfl | exact .inr rfl)) (gs_cons (pg_name (i := 2) sc_is_plain.nd rfl (by first | exact .inl rfl | exact .inr rfl)) (gs_nil)))) (fun _ _ _ _ _ => ts_nil) (fun _ _ _ _ _ => r_cmp (o_in ok (u65 hr)) (r_glob k_ONE) (r_var 1 (pv 1)))) (ra_nil))))
def N_in_box : List Str := ["game", "box", "found", "profile", "agent", "kind"]
omit ok in
theorem sc_in_box : FnScope N_in_box ["game", "box"] (defScope s_in_box) := ⟨rfl, rfl, rfl, by decide +kernel, rfl, by decide +kernel, by decide +kernel⟩
def B_in_box : Stm := sSeq (sSet 2 (cCel (aNil))) (sSeq (sFor (iL (cFn 1 F_profiles (aCons (cVar 0) (aNil)))) (tgN 3) (sIf (tOf (cCall fAll (aCons (cLc (iET (cVar 3)) (tgT [4, 5]) [4, 5] (tYesB) (cBin gIn (cVar 5) (cBin gIx (cVar 1) (cVar 4)))) (aNil)))) (sExpr (cMeth gApp (cVar 2) (aCons (cVar 3) (aNil)))) (sNil))) (sRet (cVar 2)))
def F_in_box : Fn := fnF 6 B_in_box
theorem b_in_box {f : Addr} (h_profiles : Callee (ct ρ K cl) P w K mg base 1 "profiles" 1 F_profiles) (m_enumerate : mg "enumerate" = none) (m_all : mg "all" = none) : Body (ct ρ K cl) P w K mg base 1 N_in_box "in_box" f (defScope s_in_box) (defBody s_in_box) B_in_box := fun cdv A outer s H E hr =>
  rs_cons (s_set (ps_set (i := 2) sc_in_box.nd rfl (by first | exact .inl rfl | exact .inr rfl) (r_cel (ra_nil)))) (rs_cons (s_for (i_list (r_call h_profiles (Room.mono hr (by decide)) (ra_cons (r_var 0 (pv 0)) (ra_nil)))) (g_name (pg_name (i := 3) sc_in_box.nd rfl (by first | exact .inl rfl | exact .inr rfl))) (rs_one (s_if (rt_val (r_callB k_all m_all (by decide +kernel) (ra_cons (r_lc [("agent", 4), ("kind", 5)] sc_in_box.nd (i_enumT m_enumerate (r_var 3 (pv 3))) N_in_box (defScope s_in_box) rfl rfl (by decide +kernel) (fun _ _ _ _ _ => g_tup (gs_cons (pg_name (i := 4) sc_in_box.nd rfl (by first | exact .inl rfl | exact .inr rfl)) (gs_cons (pg_name (i := 5) sc_in_box.nd rfl (by first | exact .inl rfl | exact .inr rfl)) (gs_nil)))) (fun _ _ _ _ _ => ts_nil) (fun _ _ _ _ _ => r_cmp (o_in ok (u65 hr)) (r_var 5 (pv 5)) (r_ix o_ix (r_var 1 (pv 1)) (r_var 4 (pv 4))))) (ra_nil)))) (rs_one (s_expr (r_bm PySem.F.slot_list_append PySem.F.type_list_append m_append (r_var 2 (pv 2)) (ra_cons (r_var 3 (pv 3)) (ra_nil))))) (rs_nil)))) (rs_one (s_ret (r_var 2 (pv 2)))))
def N_is_constant : List Str := ["game", "rule", "box", "profile", "entries", "entry"]
omit ok in
theorem sc_is_constant : FnScope N_is_constant ["game", "rule", "box"] (defScope s_is_constant) := ⟨rfl, rfl, rfl, by decide +kernel, rfl, by decide +kernel, by decide +kernel⟩
def B_is_constant : Stm := sSeq (sSet 4 (cLc (iL (cFn 2 F_in_box (aCons (cVar 0) (aCons (cVar 2) (aNil))))) (tgN 3) [3] (tYesB) (cBin gIx (cVar 1) (cFn 2 F_profile_number (aCons (cVar 0) (aCons (cVar 3) (aNil))))))) (sRet (cCall fAll (aCons (cLc (iL (cVar 4)) (tgN 5) [5] (tYesB) (cBin gEq (cVar 5) (cBin gIx (cVar 4) (cK (.int 0))))) (aNil))))
def F_is_constant : Fn := fnD 6 B_is_constant
theorem b_is_constant {f : Addr} (h_in_box : Callee (ct ρ K cl) P w K mg base 2 "in_box" 2 F_in_box) (h_profile_number : Callee (ct ρ K cl) P w K mg base 3 "profile_number" 2 F_profile_number) (m_all : mg "all" = none) : Body (ct ρ K cl) P w K mg base 3 N_is_constant "is_constant" f (defScope s_is_constant) (defBody s_is_constant) B_is_constant := fun cdv A outer s H E hr =>
  rs_cons (s_set (ps_set (i := 4) sc_is_constant.nd rfl (by first | exact .inl rfl | exact .inr rfl) (r_lc [("profile", 3)] sc_is_constant.nd (i_list (r_call h_in_box (Room.mono hr (by decide)) (ra_cons (r_var 0 (pv 0)) (ra_cons (r_var 2 (pv 2)) (ra_nil))))) N_is_constant (defScope s_is_constant) rfl rfl (by decide +kernel) (fun _ _ _ _ _ => g_name (pg_name (i := 3) sc_is_constant.nd rfl (by first | exact .inl rfl | exact .inr rfl))) (fun _ _ _ _ _ => ts_nil) (fun _ _ _ _ _ => r_ix o_ix (r_var 1 (pv 1)) (r_call h_profile_number (Room.mono hr (by decide)) (ra_cons (r_var 0 (pv 0)) (ra_cons (r_var 3 (pv 3)) (ra_nil)))))))) (rs_one (s_ret (r_callB k_all m_all (by decide +kernel) (ra_cons (r_lc [("entry", 5)] sc_is_constant.nd (i_list (r_var 4 (pv 4))) N_is_constant (defScope s_is_constant) rfl rfl (by decide +kernel) (fun _ _ _ _ _ => g_name (pg_name (i := 5) sc_is_constant.nd rfl (by first | exact .inl rfl | exact .inr rfl))) (fun _ _ _ _ _ => ts_nil) (fun _ _ _ _ _ => r_cmp (o_eq ok hr.units) (r_var 5 (pv 5)) (r_ix o_ix (r_var 4 (pv 4)) (r_int)))) (ra_nil)))))
def N_allowed : List Str := ["game", "rule", "box", "agent", "part", "inside", "kind", "own", "other", "profile"]
omit ok in
theorem sc_allowed : FnScope N_allowed ["game", "rule", "box", "agent", "part"] (defScope s_allowed) := ⟨rfl, rfl, rfl, by decide +kernel, rfl, by decide +kernel, by decide +kernel⟩
def B_allowed : Stm := sSeq (sSet 5 (cFn 2 F_in_box (aCons (cVar 0) (aCons (cVar 2) (aNil))))) (sSeq (sFor (iL (cBin gIx (cVar 2) (cVar 3))) (tgN 6) (sSeq (sSet 7 (cCel (aNil))) (sSeq (sSet 8 (cCel (aNil))) (sSeq (sFor (iL (cVar 5)) (tgN 9) (sIf (tOf (cBin gEq (cBin gIx (cVar 9) (cVar 3)) (cVar 6))) (sExpr (cMeth gApp (cVar 7) (aCons (cFn 5 F_has (aCons (cVar 0) (aCons (cVar 1) (aCons (cVar 3) (aCons (cVar 6) (aCons (cVar 9) (aNil))))))) (aNil)))) (sIf (tOf (cBin gNe (cBin gIn (cBin gIx (cVar 9) (cVar 3)) (cVar 4)) (cBin gIn (cVar 6) (cVar 4)))) (sExpr (cMeth gApp (cVar 8) (aCons (cFn 5 F_has (aCons (cVar 0) (aCons (cVar 1) (aCons (cVar 3) (aCons (cVar 6) (aCons (cVar 9) (aNil))))))) (aNil)))) (sNil)))) (sIf (tOf (cBin gLt (cFn 2 F_compare (aCons (cBin gIx (cVar 7) (cFn 1 F_least_index (aCons (cVar 7) (aNil)))) (aCons (cBin gIx (cVar 8) (cFn 1 F_greatest_index (aCons (cVar 8) (aNil)))) (aNil)))) (cK (.int 0)))) (sRet (cK (.bl false))) (sNil)))))) (sRet (cK (.bl true))))
def F_allowed : Fn := fnD 10 B_allowed
theorem b_allowed {f : Addr} (h_in_box : Callee (ct ρ K cl) P w K mg base 2 "in_box" 2 F_in_box) (h_has : Callee (ct ρ K cl) P w K mg base 6 "has" 5 F_has) (h_least_index : Callee (ct ρ K cl) P w K mg base 2 "least_index" 1 F_least_index) (h_greatest_index : Callee (ct ρ K cl) P w K mg base 3 "greatest_index" 1 F_greatest_index) (h_compare : Callee (ct ρ K cl) P w K mg base 1 "compare" 2 F_compare) : Body (ct ρ K cl) P w K mg base 6 N_allowed "allowed" f (defScope s_allowed) (defBody s_allowed) B_allowed := fun cdv A outer s H E hr =>
  rs_cons (s_set (ps_set (i := 5) sc_allowed.nd rfl (by first | exact .inl rfl | exact .inr rfl) (r_call h_in_box (Room.mono hr (by decide)) (ra_cons (r_var 0 (pv 0)) (ra_cons (r_var 2 (pv 2)) (ra_nil)))))) (rs_cons (s_for (i_list (r_ix o_ix (r_var 2 (pv 2)) (r_var 3 (pv 3)))) (g_name (pg_name (i := 6) sc_allowed.nd rfl (by first | exact .inl rfl | exact .inr rfl))) (rs_cons (s_set (ps_set (i := 7) sc_allowed.nd rfl (by first | exact .inl rfl | exact .inr rfl) (r_cel (ra_nil)))) (rs_cons (s_set (ps_set (i := 8) sc_allowed.nd rfl (by first | exact .inl rfl | exact .inr rfl) (r_cel (ra_nil)))) (rs_cons (s_for (i_list (r_var 5 (pv 5))) (g_name (pg_name (i := 9) sc_allowed.nd rfl (by first | exact .inl rfl | exact .inr rfl))) (rs_one (s_if (rt_cmp (o_eq ok hr.units) (r_ix o_ix (r_var 9 (pv 9)) (r_var 3 (pv 3))) (r_var 6 (pv 6))) (rs_one (s_expr (r_bm PySem.F.slot_list_append PySem.F.type_list_append m_append (r_var 7 (pv 7)) (ra_cons (r_call h_has (Room.mono hr (by decide)) (ra_cons (r_var 0 (pv 0)) (ra_cons (r_var 1 (pv 1)) (ra_cons (r_var 3 (pv 3)) (ra_cons (r_var 6 (pv 6)) (ra_cons (r_var 9 (pv 9)) (ra_nil))))))) (ra_nil))))) (rs_one (s_if (rt_cmp (o_ne ok hr.units) (r_cmp (o_in ok (u65 hr)) (r_ix o_ix (r_var 9 (pv 9)) (r_var 3 (pv 3))) (r_var 4 (pv 4))) (r_cmp (o_in ok (u65 hr)) (r_var 6 (pv 6)) (r_var 4 (pv 4)))) (rs_one (s_expr (r_bm PySem.F.slot_list_append PySem.F.type_list_append m_append (r_var 8 (pv 8)) (ra_cons (r_call h_has (Room.mono hr (by decide)) (ra_cons (r_var 0 (pv 0)) (ra_cons (r_var 1 (pv 1)) (ra_cons (r_var 3 (pv 3)) (ra_cons (r_var 6 (pv 6)) (ra_cons (r_var 9 (pv 9)) (ra_nil))))))) (ra_nil))))) (rs_nil)))))) (rs_one (s_if (rt_cmp o_lt (r_call h_compare (Room.mono hr (by decide)) (ra_cons (r_ix o_ix (r_var 7 (pv 7)) (r_call h_least_index (Room.mono hr (by decide)) (ra_cons (r_var 7 (pv 7)) (ra_nil)))) (ra_cons (r_ix o_ix (r_var 8 (pv 8)) (r_call h_greatest_index (Room.mono hr (by decide)) (ra_cons (r_var 8 (pv 8)) (ra_nil)))) (ra_nil)))) (r_int)) (rs_one (s_ret (r_bl))) (rs_nil))))))) (rs_one (s_ret (r_bl))))
def N_parts_of : List Str := ["kinds", "found", "number", "index", "kind", "part"]
omit ok in
theorem sc_parts_of : FnScope N_parts_of ["kinds"] (defScope s_parts_of) := ⟨rfl, rfl, rfl, by decide +kernel, rfl, by decide +kernel, by decide +kernel⟩
def B_parts_of : Stm := sSeq (sSet 1 (cCel (aNil))) (sSeq (sFor (iR1 (cBin gShl (cK (.int 1)) (cCall fLen (aCons (cVar 0) (aNil))))) (tgN 2) (sSeq (sSet 5 (cLc (iE (cVar 0)) (tgT [3, 4]) [3, 4] (tOf (cBin gEq (cBin gAnd (cBin gShr (cVar 2) (cVar 3)) (cK (.int 1))) (cK (.int 1)))) (cVar 4))) (sIf (tAndB (tOf (cBin gLt (cCall fLen (aCons (cVar 5) (aNil))) (cCall fLen (aCons (cVar 0) (aNil))))) (tOf (cBin gIn (cBin gIx (cVar 0) (cK (.int 0))) (cVar 5)))) (sExpr (cMeth gApp (cVar 1) (aCons (cVar 5) (aNil)))) (sNil)))) (sRet (cVar 1)))
def F_parts_of : Fn := fnF 6 B_parts_of
theorem b_parts_of {f : Addr} (m_len : mg "len" = none) (m_range : mg "range" = none) (m_enumerate : mg "enumerate" = none) : Body (ct ρ K cl) P w K mg base 0 N_parts_of "parts_of" f (defScope s_parts_of) (defBody s_parts_of) B_parts_of := fun cdv A outer s H E hr =>
  rs_cons (s_set (ps_set (i := 1) sc_parts_of.nd rfl (by first | exact .inl rfl | exact .inr rfl) (r_cel (ra_nil)))) (rs_cons (s_for (i_range1 m_range (r_op o_shl (r_int) (r_callB k_len m_len boot_len (ra_cons (r_var 0 (pv 0)) (ra_nil))))) (g_name (pg_name (i := 2) sc_parts_of.nd rfl (by first | exact .inl rfl | exact .inr rfl))) (rs_cons (s_setLc [("index", 3), ("kind", 4)] (i := 5) sc_parts_of.nd rfl rfl (sw_true rfl rfl rfl (by decide +kernel)) (i_enum m_enumerate (r_var 0 (pv 0))) N_parts_of (defScope s_parts_of) rfl rfl (by decide +kernel) (fun _ _ _ _ _ => g_tup (gs_cons (pg_name (i := 3) sc_parts_of.nd rfl (by first | exact .inl rfl | exact .inr rfl)) (gs_cons (pg_name (i := 4) sc_parts_of.nd rfl (by first | exact .inl rfl | exact .inr rfl)) (gs_nil)))) (fun _ _ _ _ _ => ts_one (rt_cmp (o_eq ok hr.units) (r_op o_and (r_op o_shr (r_var 2 (pv 2)) (r_var 3 (pv 3))) (r_int)) (r_int))) (fun _ _ _ _ _ => r_var 4 (pv 4))) (rs_one (s_if (PW.pt (rw_and (rt_cmp o_lt (r_callB k_len m_len boot_len (ra_cons (r_var 5 (pv 5)) (ra_nil))) (r_callB k_len m_len boot_len (ra_cons (r_var 0 (pv 0)) (ra_nil)))) (rw_and1 (rt_cmp (o_in ok (u65 hr)) (r_ix o_ix (r_var 0 (pv 0)) (r_int)) (r_var 5 (pv 5)))))) (rs_one (s_expr (r_bm PySem.F.slot_list_append PySem.F.type_list_append m_append (r_var 1 (pv 1)) (ra_cons (r_var 5 (pv 5)) (ra_nil))))) (rs_nil))))) (rs_one (s_ret (r_var 1 (pv 1)))))
def N_first_split : List Str := ["game", "rule", "box", "agent", "part"]
omit ok in
theorem sc_first_split : FnScope N_first_split ["game", "rule", "box"] (defScope s_first_split) := ⟨rfl, rfl, rfl, by decide +kernel, rfl, by decide +kernel, by decide +kernel⟩
def B_first_split : Stm := sSeq (sFor (iR1 (cCall fLen (aCons (cVar 2) (aNil)))) (tgN 3) (sFor (iL (cFn 1 F_parts_of (aCons (cBin gIx (cVar 2) (cVar 3)) (aNil)))) (tgN 4) (sIf (tOf (cFn 5 F_allowed (aCons (cVar 0) (aCons (cVar 1) (aCons (cVar 2) (aCons (cVar 3) (aCons (cVar 4) (aNil)))))))) (sRet (cTup (aCons (cVar 3) (aCons (cVar 4) (aNil))))) (sNil)))) (sRet (cK .non))
def F_first_split : Fn := fnD 5 B_first_split
theorem b_first_split {f : Addr} (m_len : mg "len" = none) (m_range : mg "range" = none) (h_parts_of : Callee (ct ρ K cl) P w K mg base 1 "parts_of" 1 F_parts_of) (h_allowed : Callee (ct ρ K cl) P w K mg base 7 "allowed" 5 F_allowed) : Body (ct ρ K cl) P w K mg base 7 N_first_split "first_split" f (defScope s_first_split) (defBody s_first_split) B_first_split := fun cdv A outer s H E hr =>
  rs_cons (s_for (i_range1 m_range (r_callB k_len m_len boot_len (ra_cons (r_var 2 (pv 2)) (ra_nil)))) (g_name (pg_name (i := 3) sc_first_split.nd rfl (by first | exact .inl rfl | exact .inr rfl))) (rs_one (s_for (i_list (r_call h_parts_of (Room.mono hr (by decide)) (ra_cons (r_ix o_ix (r_var 2 (pv 2)) (r_var 3 (pv 3))) (ra_nil)))) (g_name (pg_name (i := 4) sc_first_split.nd rfl (by first | exact .inl rfl | exact .inr rfl))) (rs_one (s_if (rt_val (r_call h_allowed (Room.mono hr (by decide)) (ra_cons (r_var 0 (pv 0)) (ra_cons (r_var 1 (pv 1)) (ra_cons (r_var 2 (pv 2)) (ra_cons (r_var 3 (pv 3)) (ra_cons (r_var 4 (pv 4)) (ra_nil)))))))) (rs_one (s_ret (r_tup (ra_cons (r_var 3 (pv 3)) (ra_cons (r_var 4 (pv 4)) (ra_nil)))))) (rs_nil)))))) (rs_one (s_ret (r_non)))
def N_grow_below : List Str := ["game", "rule", "box", "tree", "lot", "paid", "split", "agent", "part", "yes_box", "no_box", "index", "stuck", "no"]
omit ok in
theorem sc_grow_below : FnScope N_grow_below ["game", "rule", "box", "tree"] (defScope s_grow_below) := ⟨rfl, rfl, rfl, by decide +kernel, rfl, by decide +kernel, by decide +kernel⟩
def B_grow_below (rec : Fn) : Stm := sSeq (sIf (tOf (cFn 3 F_is_constant (aCons (cVar 0) (aCons (cVar 1) (aCons (cVar 2) (aNil)))))) (sSeq (sAsg (tgT [4, 5]) (cBin gIx (cVar 1) (cFn 2 F_profile_number (aCons (cVar 0) (aCons (cBin gIx (cFn 2 F_in_box (aCons (cVar 0) (aCons (cVar 2) (aNil)))) (cK (.int 0))) (aNil)))))) (sSeq (sExpr (cMeth gApp (cVar 3) (aCons (cTup (aCons (cK (.str 1)) (aCons (cMeth gIndex (cVar 4) (aCons (cK (.tup [.int 1, .int 1])) (aNil))) (aCons (cCall fListV (aCons (cVar 5) (aNil))) (aNil))))) (aNil)))) (sRet (cK .non)))) (sNil)) (sSeq (sSet 6 (cFn 3 F_first_split (aCons (cVar 0) (aCons (cVar 1) (aCons (cVar 2) (aNil)))))) (sSeq (sIf (tOf (cBin gIs (cVar 6) (cK .non))) (sRet (cVar 2)) (sNil)) (sSeq (sAsg (tgT [7, 8]) (cVar 6)) (sSeq (sAsg (tgT [9, 10]) (cFn 3 F_split_box (aCons (cVar 2) (aCons (cVar 7) (aCons (cVar 8) (aNil)))))) (sSeq (sSet 11 (cCall fLen (aCons (cVar 3) (aNil)))) (sSeq (sExpr (cMeth gApp (cVar 3) (aCons (cK .non) (aNil)))) (sSeq (sSet 12 (cFn 4 rec (aCons (cVar 0) (aCons (cVar 1) (aCons (cVar 9) (aCons (cVar 3) (aNil))))))) (sSeq (sIf (tOf (cBin gIsNot (cVar 12) (cK .non))) (sRet (cVar 12)) (sNil)) (sSeq (sSet 13 (cCall fLen (aCons (cVar 3) (aNil)))) (sSeq (sIx (cTup (aCons (cK (.str 0)) (aCons (cVar 7) (aCons (cVar 8) (aCons (cBin gAdd (cVar 11) (cK (.int 1))) (aCons (cVar 13) (aNil))))))) (cVar 3) (cVar 11)) (sRet (cFn 4 rec (aCons (cVar 0) (aCons (cVar 1) (aCons (cVar 10) (aCons (cVar 3) (aNil)))))))))))))))))
def F_grow_below_ (n : Nat) : Fn := Nat.rec (motive := fun _ => Fn) (fun _ _ => .err) (fun _ ih => fnF 14 (B_grow_below ih)) n
def F_grow_below : Fn := F_grow_below_ 40
theorem b_grow_below {lv : Nat} (hlv : 8 ≤ lv) {rec : Fn} {f : Addr} (h_is_constant : Callee (ct ρ K cl) P w K mg base 4 "is_constant" 3 F_is_constant) (h_in_box : Callee (ct ρ K cl) P w K mg base 2 "in_box" 2 F_in_box) (h_profile_number : Callee (ct ρ K cl) P w K mg base 3 "profile_number" 2 F_profile_number) (k_ONE : Konst (ct ρ K cl) mg "ONE" (.tup [.int 1, .int 1])) (m_list : mg "list" = none) (h_first_split : Callee (ct ρ K cl) P w K mg base 8 "first_split" 3 F_first_split) (h_split_box : Callee (ct ρ K cl) P w K mg base 1 "split_box" 3 F_split_box) (m_len : mg "len" = none) (h_rec : Callee (ct ρ K cl) P w K mg base lv "grow_below" 4 rec) : Body (ct ρ K cl) P w K mg base lv N_grow_below "grow_below" f (defScope s_grow_below) (defBody s_grow_below) (B_grow_below rec) := fun cdv A outer s H E hr =>
  rs_cons (s_if (rt_val (r_call h_is_constant (Room.mono hr (by omega)) (ra_cons (r_var 0 (pv 0)) (ra_cons (r_var 1 (pv 1)) (ra_cons (r_var 2 (pv 2)) (ra_nil)))))) (rs_cons (s_asg (r_ix o_ix (r_var 1 (pv 1)) (r_call h_profile_number (Room.mono hr (by omega)) (ra_cons (r_var 0 (pv 0)) (ra_cons (r_ix o_ix (r_call h_in_box (Room.mono hr (by omega)) (ra_cons (r_var 0 (pv 0)) (ra_cons (r_var 2 (pv 2)) (ra_nil)))) (r_int)) (ra_nil))))) (g_tup (gs_cons (pg_name (i := 4) sc_grow_below.nd rfl (by first | exact .inl rfl | exact .inr rfl)) (gs_cons (pg_name (i := 5) sc_grow_below.nd rfl (by first | exact .inl rfl | exact .inr rfl)) (gs_nil))))) (rs_cons (s_expr (r_bm PySem.F.slot_list_append PySem.F.type_list_append m_append (r_var 3 (pv 3)) (ra_cons (r_tup (ra_cons (r_str 1) (ra_cons (r_bm PySem.F.slot_list_index PySem.F.type_list_index (m_index ok (u65 hr)) (r_var 4 (pv 4)) (ra_cons (r_glob k_ONE) (ra_nil))) (ra_cons (r_callTy k_listV m_list boot_list (ra_cons (r_var 5 (pv 5)) (ra_nil))) (ra_nil))))) (ra_nil)))) (rs_one (s_ret (r_non))))) (rs_nil)) (rs_cons (s_set (ps_set (i := 6) sc_grow_below.nd rfl (by first | exact .inl rfl | exact .inr rfl) (r_call h_first_split (Room.mono hr (by omega)) (ra_cons (r_var 0 (pv 0)) (ra_cons (r_var 1 (pv 1)) (ra_cons (r_var 2 (pv 2)) (ra_nil))))))) (rs_cons (s_if (rt_cmp o_is (r_var 6 (pv 6)) (r_non)) (rs_one (s_ret (r_var 2 (pv 2)))) (rs_nil)) (rs_cons (s_asg (r_var 6 (pv 6)) (g_tup (gs_cons (pg_name (i := 7) sc_grow_below.nd rfl (by first | exact .inl rfl | exact .inr rfl)) (gs_cons (pg_name (i := 8) sc_grow_below.nd rfl (by first | exact .inl rfl | exact .inr rfl)) (gs_nil))))) (rs_cons (s_asg (r_call h_split_box (Room.mono hr (by omega)) (ra_cons (r_var 2 (pv 2)) (ra_cons (r_var 7 (pv 7)) (ra_cons (r_var 8 (pv 8)) (ra_nil))))) (g_tup (gs_cons (pg_name (i := 9) sc_grow_below.nd rfl (by first | exact .inl rfl | exact .inr rfl)) (gs_cons (pg_name (i := 10) sc_grow_below.nd rfl (by first | exact .inl rfl | exact .inr rfl)) (gs_nil))))) (rs_cons (s_set (ps_set (i := 11) sc_grow_below.nd rfl (by first | exact .inl rfl | exact .inr rfl) (r_callB k_len m_len boot_len (ra_cons (r_var 3 (pv 3)) (ra_nil))))) (rs_cons (s_expr (r_bm PySem.F.slot_list_append PySem.F.type_list_append m_append (r_var 3 (pv 3)) (ra_cons (r_non) (ra_nil)))) (rs_cons (s_set (ps_set (i := 12) sc_grow_below.nd rfl (by first | exact .inl rfl | exact .inr rfl) (r_call h_rec hr (ra_cons (r_var 0 (pv 0)) (ra_cons (r_var 1 (pv 1)) (ra_cons (r_var 9 (pv 9)) (ra_cons (r_var 3 (pv 3)) (ra_nil)))))))) (rs_cons (s_if (rt_cmp o_isNot (r_var 12 (pv 12)) (r_non)) (rs_one (s_ret (r_var 12 (pv 12)))) (rs_nil)) (rs_cons (s_set (ps_set (i := 13) sc_grow_below.nd rfl (by first | exact .inl rfl | exact .inr rfl) (r_callB k_len m_len boot_len (ra_cons (r_var 3 (pv 3)) (ra_nil))))) (rs_cons (s_ix (r_tup (ra_cons (r_str 0) (ra_cons (r_var 7 (pv 7)) (ra_cons (r_var 8 (pv 8)) (ra_cons (r_op o_add (r_var 11 (pv 11)) (r_int)) (ra_cons (r_var 13 (pv 13)) (ra_nil))))))) (r_var 3 (pv 3)) (r_var 11 (pv 11))) (rs_one (s_ret (r_call h_rec hr (ra_cons (r_var 0 (pv 0)) (ra_cons (r_var 1 (pv 1)) (ra_cons (r_var 10 (pv 10)) (ra_cons (r_var 3 (pv 3)) (ra_nil))))))))))))))))))
def N_grow : List Str := ["game", "rule", "tree", "stuck"]
omit ok in
theorem sc_grow : FnScope N_grow ["game", "rule"] (defScope s_grow) := ⟨rfl, rfl, rfl, by decide +kernel, rfl, by decide +kernel, by decide +kernel⟩
def B_grow : Stm := sSeq (sIf (tNotB (tOf (cFn 1 F_is_plain (aCons (cVar 1) (aNil))))) (sErr) (sNil)) (sSeq (sSet 2 (cCel (aNil))) (sSeq (sSet 3 (cFn 4 F_grow_below (aCons (cVar 0) (aCons (cVar 1) (aCons (cFn 1 F_whole_box (aCons (cVar 0) (aNil))) (aCons (cVar 2) (aNil))))))) (sSeq (sIf (tOf (cBin gIsNot (cVar 3) (cK .non))) (sRet (cTup (aCons (cK (.str 19)) (aCons (cVar 3) (aNil))))) (sNil)) (sRet (cTup (aCons (cK (.str 20)) (aCons (cVar 2) (aNil))))))))
def F_grow : Fn := fnF 4 B_grow
theorem b_grow {f : Addr} (h_is_plain : Callee (ct ρ K cl) P w K mg base 1 "is_plain" 1 F_is_plain) (h_whole_box : Callee (ct ρ K cl) P w K mg base 1 "whole_box" 1 F_whole_box) (h_grow_below : Callee (ct ρ K cl) P w K mg base 49 "grow_below" 4 F_grow_below) : Body (ct ρ K cl) P w K mg base 49 N_grow "grow" f (defScope s_grow) (defBody s_grow) B_grow := fun cdv A outer s H E hr =>
  rs_cons (s_if (rt_not (rt_val (r_call h_is_plain (Room.mono hr (by decide)) (ra_cons (r_var 1 (pv 1)) (ra_nil))))) (ss_err) (rs_nil)) (rs_cons (s_set (ps_set (i := 2) sc_grow.nd rfl (by first | exact .inl rfl | exact .inr rfl) (r_cel (ra_nil)))) (rs_cons (s_set (ps_set (i := 3) sc_grow.nd rfl (by first | exact .inl rfl | exact .inr rfl) (r_call h_grow_below (Room.mono hr (by decide)) (ra_cons (r_var 0 (pv 0)) (ra_cons (r_var 1 (pv 1)) (ra_cons (r_call h_whole_box (Room.mono hr (by decide)) (ra_cons (r_var 0 (pv 0)) (ra_nil))) (ra_cons (r_var 2 (pv 2)) (ra_nil)))))))) (rs_cons (s_if (rt_cmp o_isNot (r_var 3 (pv 3)) (r_non)) (rs_one (s_ret (r_tup (ra_cons (r_str 19) (ra_cons (r_var 3 (pv 3)) (ra_nil)))))) (rs_nil)) (rs_one (s_ret (r_tup (ra_cons (r_str 20) (ra_cons (r_var 2 (pv 2)) (ra_nil)))))))))
def N__law_same : List Str := ["_law_actual", "_law_due", "_law_k"]
omit ok in
theorem sc__law_same : FnScope N__law_same ["_law_actual", "_law_due"] (defScope s__law_same) := ⟨rfl, rfl, rfl, by decide +kernel, rfl, by decide +kernel, by decide +kernel⟩
def B__law_same (rec : Fn) : Stm := sSeq (sIf (tOf (cIsi 3 (cVar 1))) (sSeq (sIf (tOrB (tNotB (tOf (cIsi 3 (cVar 0)))) (tOf (cBin gNe (cCall fLen (aCons (cVar 0) (aNil))) (cCall fLen (aCons (cVar 1) (aNil)))))) (sRet (cK (.bl false))) (sNil)) (sSeq (sFor (iR1 (cCall fLen (aCons (cVar 1) (aNil)))) (tgN 2) (sIf (tNotB (tOf (cFn 2 rec (aCons (cBin gIx (cVar 0) (cVar 2)) (aCons (cBin gIx (cVar 1) (cVar 2)) (aNil)))))) (sRet (cK (.bl false))) (sNil))) (sRet (cK (.bl true))))) (sNil)) (sSeq (sIf (tOrB (tOf (cIsi 0 (cVar 1))) (tOf (cIsi 0 (cVar 0)))) (sRet (cOfT (tAndB (tOf (cIsi 0 (cVar 1))) (tOf (cOfT (tAndB (tOf (cIsi 0 (cVar 0))) (tOf (cBin gEq (cVar 1) (cVar 0))))))))) (sNil)) (sSeq (sIf (tOf (cIsi 1 (cVar 1))) (sRet (cOfT (tAndB (tOf (cIsi 1 (cVar 0))) (tOf (cBin gEq (cVar 0) (cVar 1)))))) (sNil)) (sSeq (sIf (tOf (cIsi 2 (cVar 1))) (sRet (cOfT (tAndB (tOf (cIsi 2 (cVar 0))) (tOf (cBin gEq (cVar 0) (cVar 1)))))) (sNil)) (sRet (cOfT (tAndB (tOf (cBin gIs (cVar 1) (cK .non))) (tOf (cBin gIs (cVar 0) (cK .non)))))))))
def F__law_same_ (n : Nat) : Fn := Nat.rec (motive := fun _ => Fn) (fun _ _ => .err) (fun _ ih => fnD 3 (B__law_same ih)) n
def F__law_same : Fn := F__law_same_ 4
theorem b__law_same {lv : Nat} (hlv : 0 ≤ lv) {rec : Fn} {f : Addr} (m_isinstance : mg "isinstance" = none) (m_tuple : mg "tuple" = none) (m_len : mg "len" = none) (m_range : mg "range" = none) (h_rec : Callee (ct ρ K cl) P w K mg base lv "_law_same" 2 rec) (m_bool : mg "bool" = none) (m_int : mg "int" = none) (m_str : mg "str" = none) : Body (ct ρ K cl) P w K mg base lv N__law_same "_law_same" f (defScope s__law_same) (defBody s__law_same) (B__law_same rec) := fun cdv A outer s H E hr =>
  rs_cons (s_if (rt_val (r_isi 3 m_isinstance (r_var 1 (pv 1)) m_tuple)) (rs_cons (s_if (PW.pt (rw_or (rt_not (rt_val (r_isi 3 m_isinstance (r_var 0 (pv 0)) m_tuple))) (rw_or1 (rt_cmp (o_ne ok hr.units) (r_callB k_len m_len boot_len (ra_cons (r_var 0 (pv 0)) (ra_nil))) (r_callB k_len m_len boot_len (ra_cons (r_var 1 (pv 1)) (ra_nil))))))) (rs_one (s_ret (r_bl))) (rs_nil)) (rs_cons (s_for (i_range1 m_range (r_callB k_len m_len boot_len (ra_cons (r_var 1 (pv 1)) (ra_nil)))) (g_name (pg_name (i := 2) sc__law_same.nd rfl (by first | exact .inl rfl | exact .inr rfl))) (rs_one (s_if (rt_not (rt_val (r_call h_rec hr (ra_cons (r_ix o_ix (r_var 0 (pv 0)) (r_var 2 (pv 2))) (ra_cons (r_ix o_ix (r_var 1 (pv 1)) (r_var 2 (pv 2))) (ra_nil)))))) (rs_one (s_ret (r_bl))) (rs_nil)))) (rs_one (s_ret (r_bl))))) (rs_nil)) (rs_cons (s_if (PW.pt (rw_or (rt_val (r_isi 0 m_isinstance (r_var 1 (pv 1)) m_bool)) (rw_or1 (rt_val (r_isi 0 m_isinstance (r_var 0 (pv 0)) m_bool))))) (rs_one (s_ret (r_and (r_isi 0 m_isinstance (r_var 1 (pv 1)) m_bool) (r_and (r_isi 0 m_isinstance (r_var 0 (pv 0)) m_bool) (r_one (r_cmp (o_eq ok hr.units) (r_var 1 (pv 1)) (r_var 0 (pv 0)))))))) (rs_nil)) (rs_cons (s_if (rt_val (r_isi 1 m_isinstance (r_var 1 (pv 1)) m_int)) (rs_one (s_ret (r_and (r_isi 1 m_isinstance (r_var 0 (pv 0)) m_int) (r_one (r_cmp (o_eq ok hr.units) (r_var 0 (pv 0)) (r_var 1 (pv 1))))))) (rs_nil)) (rs_cons (s_if (rt_val (r_isi 2 m_isinstance (r_var 1 (pv 1)) m_str)) (rs_one (s_ret (r_and (r_isi 2 m_isinstance (r_var 0 (pv 0)) m_str) (r_one (r_cmp (o_eq ok hr.units) (r_var 0 (pv 0)) (r_var 1 (pv 1))))))) (rs_nil)) (rs_one (s_ret (r_and (r_cmp o_is (r_var 1 (pv 1)) (r_non)) (r_one (r_cmp o_is (r_var 0 (pv 0)) (r_non)))))))))
def N__law_same_list : List Str := ["_law_actual", "_law_due", "_law_k"]
omit ok in
theorem sc__law_same_list : FnScope N__law_same_list ["_law_actual", "_law_due"] (defScope s__law_same_list) := ⟨rfl, rfl, rfl, by decide +kernel, rfl, by decide +kernel, by decide +kernel⟩
def B__law_same_list : Stm := sSeq (sIf (tOrB (tNotB (tOf (cIsi 4 (cVar 0)))) (tOf (cBin gNe (cCall fLen (aCons (cVar 0) (aNil))) (cCall fLen (aCons (cVar 1) (aNil)))))) (sRet (cK (.bl false))) (sNil)) (sSeq (sFor (iR1 (cCall fLen (aCons (cVar 1) (aNil)))) (tgN 2) (sIf (tNotB (tOf (cFn 2 F__law_same (aCons (cBin gIx (cVar 0) (cVar 2)) (aCons (cBin gIx (cVar 1) (cVar 2)) (aNil)))))) (sRet (cK (.bl false))) (sNil))) (sRet (cK (.bl true))))
def F__law_same_list : Fn := fnD 3 B__law_same_list
theorem b__law_same_list {f : Addr} (m_isinstance : mg "isinstance" = none) (m_list : mg "list" = none) (m_len : mg "len" = none) (m_range : mg "range" = none) (h__law_same : Callee (ct ρ K cl) P w K mg base 5 "_law_same" 2 F__law_same) : Body (ct ρ K cl) P w K mg base 5 N__law_same_list "_law_same_list" f (defScope s__law_same_list) (defBody s__law_same_list) B__law_same_list := fun cdv A outer s H E hr =>
  rs_cons (s_if (PW.pt (rw_or (rt_not (rt_val (r_isi 4 m_isinstance (r_var 0 (pv 0)) m_list))) (rw_or1 (rt_cmp (o_ne ok hr.units) (r_callB k_len m_len boot_len (ra_cons (r_var 0 (pv 0)) (ra_nil))) (r_callB k_len m_len boot_len (ra_cons (r_var 1 (pv 1)) (ra_nil))))))) (rs_one (s_ret (r_bl))) (rs_nil)) (rs_cons (s_for (i_range1 m_range (r_callB k_len m_len boot_len (ra_cons (r_var 1 (pv 1)) (ra_nil)))) (g_name (pg_name (i := 2) sc__law_same_list.nd rfl (by first | exact .inl rfl | exact .inr rfl))) (rs_one (s_if (rt_not (rt_val (r_call h__law_same (Room.mono hr (by decide)) (ra_cons (r_ix o_ix (r_var 0 (pv 0)) (r_var 2 (pv 2))) (ra_cons (r_ix o_ix (r_var 1 (pv 1)) (r_var 2 (pv 2))) (ra_nil)))))) (rs_one (s_ret (r_bl))) (rs_nil)))) (rs_one (s_ret (r_bl))))
def N__law_total : List Str := ["_law_values_here", "_law_result", "_law_value"]
omit ok in
theorem sc__law_total : FnScope N__law_total ["_law_values_here"] (defScope s__law_total) := ⟨rfl, rfl, rfl, by decide +kernel, rfl, by decide +kernel, by decide +kernel⟩
def B__law_total : Stm := sSeq (sSet 1 (cTup (aCons (cK (.int 0)) (aCons (cK (.int 1)) (aNil))))) (sSeq (sFor (iL (cVar 0)) (tgN 2) (sSet 1 (cFn 2 F__law_add (aCons (cVar 1) (aCons (cVar 2) (aNil)))))) (sRet (cVar 1)))
def F__law_total : Fn := fnD 3 B__law_total
theorem b__law_total {f : Addr} (h__law_add : Callee (ct ρ K cl) P w K mg base 3 "_law_add" 2 F__law_add) : Body (ct ρ K cl) P w K mg base 3 N__law_total "_law_total" f (defScope s__law_total) (defBody s__law_total) B__law_total := fun cdv A outer s H E hr =>
  rs_cons (s_set (ps_set (i := 1) sc__law_total.nd rfl (by first | exact .inl rfl | exact .inr rfl) (r_tup (ra_cons (r_int) (ra_cons (r_int) (ra_nil)))))) (rs_cons (s_for (i_list (r_var 0 (pv 0))) (g_name (pg_name (i := 2) sc__law_total.nd rfl (by first | exact .inl rfl | exact .inr rfl))) (rs_one (s_set (ps_set (i := 1) sc__law_total.nd rfl (by first | exact .inl rfl | exact .inr rfl) (r_call h__law_add (Room.mono hr (by decide)) (ra_cons (r_var 1 (pv 1)) (ra_cons (r_var 2 (pv 2)) (ra_nil)))))))) (rs_one (s_ret (r_var 1 (pv 1)))))
def N__law_dot : List Str := ["_law_first", "_law_second", "_law_k"]
omit ok in
theorem sc__law_dot : FnScope N__law_dot ["_law_first", "_law_second"] (defScope s__law_dot) := ⟨rfl, rfl, rfl, by decide +kernel, rfl, by decide +kernel, by decide +kernel⟩
def B__law_dot : Stm := sRet (cFn 1 F__law_total (aCons (cLc (iR1 (cCall fMin2 (aCons (cCall fLen (aCons (cVar 0) (aNil))) (aCons (cCall fLen (aCons (cVar 1) (aNil))) (aNil))))) (tgN 2) [2] (tYesB) (cFn 2 F__law_times (aCons (cBin gIx (cVar 0) (cVar 2)) (aCons (cBin gIx (cVar 1) (cVar 2)) (aNil))))) (aNil)))
def F__law_dot : Fn := fnD 3 B__law_dot
theorem b__law_dot {f : Addr} (m_len : mg "len" = none) (m_min : mg "min" = none) (m_range : mg "range" = none) (h__law_times : Callee (ct ρ K cl) P w K mg base 3 "_law_times" 2 F__law_times) (h__law_total : Callee (ct ρ K cl) P w K mg base 4 "_law_total" 1 F__law_total) : Body (ct ρ K cl) P w K mg base 4 N__law_dot "_law_dot" f (defScope s__law_dot) (defBody s__law_dot) B__law_dot := fun cdv A outer s H E hr =>
  rs_one (s_ret (r_call h__law_total (Room.mono hr (by decide)) (ra_cons (r_lc [("_law_k", 2)] sc__law_dot.nd (i_range1 m_range (r_callB k_min2 m_min (by decide +kernel) (ra_cons (r_callB k_len m_len boot_len (ra_cons (r_var 0 (pv 0)) (ra_nil))) (ra_cons (r_callB k_len m_len boot_len (ra_cons (r_var 1 (pv 1)) (ra_nil))) (ra_nil))))) N__law_dot (defScope s__law_dot) rfl rfl (by decide +kernel) (fun _ _ _ _ _ => g_name (pg_name (i := 2) sc__law_dot.nd rfl (by first | exact .inl rfl | exact .inr rfl))) (fun _ _ _ _ _ => ts_nil) (fun _ _ _ _ _ => r_call h__law_times (Room.mono hr (by decide)) (ra_cons (r_ix o_ix (r_var 0 (pv 0)) (r_var 2 (pv 2))) (ra_cons (r_ix o_ix (r_var 1 (pv 1)) (r_var 2 (pv 2))) (ra_nil))))) (ra_nil))))
def N__law_profiles : List Str := ["_law_agents", "_law_rows", "_law_row", "_law_longer", "_law_start", "_law_k"]
omit ok in
theorem sc__law_profiles : FnScope N__law_profiles ["_law_agents"] (defScope s__law_profiles) := ⟨rfl, rfl, rfl, by decide +kernel, rfl, by decide +kernel, by decide +kernel⟩
def B__law_profiles : Stm := sSeq (sSet 1 (cCel (aCons (cTup (aNil)) (aNil)))) (sSeq (sFor (iL (cVar 0)) (tgN 2) (sSeq (sSet 3 (cCel (aNil))) (sSeq (sFor (iL (cVar 1)) (tgN 4) (sFor (iR1 (cCall fLen (aCons (cBin gIx (cVar 2) (cK (.int 1))) (aNil)))) (tgN 5) (sExpr (cMeth gApp (cVar 3) (aCons (cBin gAdd (cVar 4) (cTup (aCons (cVar 5) (aNil)))) (aNil)))))) (sSet 1 (cVar 3))))) (sRet (cVar 1)))
def F__law_profiles : Fn := fnF 6 B__law_profiles
theorem b__law_profiles {f : Addr} (m_len : mg "len" = none) (m_range : mg "range" = none) : Body (ct ρ K cl) P w K mg base 0 N__law_profiles "_law_profiles" f (defScope s__law_profiles) (defBody s__law_profiles) B__law_profiles := fun cdv A outer s H E hr =>
  rs_cons (s_set (ps_set (i := 1) sc__law_profiles.nd rfl (by first | exact .inl rfl | exact .inr rfl) (r_cel (ra_cons (r_tup (ra_nil)) (ra_nil))))) (rs_cons (s_for (i_list (r_var 0 (pv 0))) (g_name (pg_name (i := 2) sc__law_profiles.nd rfl (by first | exact .inl rfl | exact .inr rfl))) (rs_cons (s_set (ps_set (i := 3) sc__law_profiles.nd rfl (by first | exact .inl rfl | exact .inr rfl) (r_cel (ra_nil)))) (rs_cons (s_for (i_list (r_var 1 (pv 1))) (g_name (pg_name (i := 4) sc__law_profiles.nd rfl (by first | exact .inl rfl | exact .inr rfl))) (rs_one (s_for (i_range1 m_range (r_callB k_len m_len boot_len (ra_cons (r_ix o_ix (r_var 2 (pv 2)) (r_int)) (ra_nil)))) (g_name (pg_name (i := 5) sc__law_profiles.nd rfl (by first | exact .inl rfl | exact .inr rfl))) (rs_one (s_expr (r_bm PySem.F.slot_list_append PySem.F.type_list_append m_append (r_var 3 (pv 3)) (ra_cons (r_op o_add (r_var 4 (pv 4)) (r_tup (ra_cons (r_var 5 (pv 5)) (ra_nil)))) (ra_nil)))))))) (rs_one (s_set (ps_set (i := 1) sc__law_profiles.nd rfl (by first | exact .inl rfl | exact .inr rfl) (r_var 3 (pv 3)))))))) (rs_one (s_ret (r_var 1 (pv 1)))))
def N__law_with : List Str := ["_law_profile", "_law_agent", "_law_kind"]
omit ok in
theorem sc__law_with : FnScope N__law_with ["_law_profile", "_law_agent", "_law_kind"] (defScope s__law_with) := ⟨rfl, rfl, rfl, by decide +kernel, rfl, by decide +kernel, by decide +kernel⟩
def B__law_with : Stm := sRet (cBin gAdd (cBin gAdd (cBin gTake (cVar 0) (cVar 1)) (cTup (aCons (cVar 2) (aNil)))) (cBin gDrop (cVar 0) (cBin gAdd (cVar 1) (cK (.int 1)))))
def F__law_with : Fn := fnD 3 B__law_with
theorem b__law_with {f : Addr}  : Body (ct ρ K cl) P w K mg base 0 N__law_with "_law_with" f (defScope s__law_with) (defBody s__law_with) B__law_with := fun cdv A outer s H E hr =>
  rs_one (s_ret (r_op o_add (r_op o_add (r_slHi (r_var 0 (pv 0)) (r_var 1 (pv 1))) (r_tup (ra_cons (r_var 2 (pv 2)) (ra_nil)))) (r_slLo (r_var 0 (pv 0)) (r_op o_add (r_var 1 (pv 1)) (r_int)))))
def N__law_has : List Str := ["_law_agents", "_law_rule", "_law_agent", "_law_kind", "_law_number"]
omit ok in
theorem sc__law_has : FnScope N__law_has ["_law_agents", "_law_rule", "_law_agent", "_law_kind", "_law_number"] (defScope s__law_has) := ⟨rfl, rfl, rfl, by decide +kernel, rfl, by decide +kernel, by decide +kernel⟩
def B__law_has : Stm := sRet (cFn 2 F__law_minus (aCons (cFn 2 F__law_dot (aCons (cBin gIx (cBin gIx (cBin gIx (cBin gIx (cVar 0) (cVar 2)) (cK (.int 1))) (cVar 3)) (cK (.int 3))) (aCons (cBin gIx (cBin gIx (cVar 1) (cVar 4)) (cK (.int 0))) (aNil)))) (aCons (cBin gIx (cBin gIx (cBin gIx (cVar 1) (cVar 4)) (cK (.int 1))) (cVar 2)) (aNil))))
def F__law_has : Fn := fnD 5 B__law_has
theorem b__law_has {f : Addr} (h__law_dot : Callee (ct ρ K cl) P w K mg base 5 "_law_dot" 2 F__law_dot) (h__law_minus : Callee (ct ρ K cl) P w K mg base 4 "_law_minus" 2 F__law_minus) : Body (ct ρ K cl) P w K mg base 5 N__law_has "_law_has" f (defScope s__law_has) (defBody s__law_has) B__law_has := fun cdv A outer s H E hr =>
  rs_one (s_ret (r_call h__law_minus (Room.mono hr (by decide)) (ra_cons (r_call h__law_dot (Room.mono hr (by decide)) (ra_cons (r_ix o_ix (r_ix o_ix (r_ix o_ix (r_ix o_ix (r_var 0 (pv 0)) (r_var 2 (pv 2))) (r_int)) (r_var 3 (pv 3))) (r_int)) (ra_cons (r_ix o_ix (r_ix o_ix (r_var 1 (pv 1)) (r_var 4 (pv 4))) (r_int)) (ra_nil)))) (ra_cons (r_ix o_ix (r_ix o_ix (r_ix o_ix (r_var 1 (pv 1)) (r_var 4 (pv 4))) (r_int)) (r_var 2 (pv 2))) (ra_nil)))))
def N__law_truthful : List Str := ["_law_agents", "_law_rule", "_law_profiles_here", "_law_agent", "_law_number", "_law_own", "_law_kind", "_law_told", "_law_lied"]
omit ok in
theorem sc__law_truthful : FnScope N__law_truthful ["_law_agents", "_law_rule"] (defScope s__law_truthful) := ⟨rfl, rfl, rfl, by decide +kernel, rfl, by decide +kernel, by decide +kernel⟩
def B__law_truthful : Stm := sSeq (sSet 2 (cFn 1 F__law_profiles (aCons (cVar 0) (aNil)))) (sSeq (sFor (iR1 (cCall fLen (aCons (cVar 0) (aNil)))) (tgN 3) (sFor (iR1 (cCall fLen (aCons (cVar 2) (aNil)))) (tgN 4) (sSeq (sSet 5 (cBin gIx (cBin gIx (cVar 2) (cVar 4)) (cVar 3))) (sFor (iR1 (cCall fLen (aCons (cBin gIx (cBin gIx (cVar 0) (cVar 3)) (cK (.int 1))) (aNil)))) (tgN 6) (sSeq (sSet 7 (cMeth gIndex (cVar 2) (aCons (cFn 3 F__law_with (aCons (cBin gIx (cVar 2) (cVar 4)) (aCons (cVar 3) (aCons (cVar 6) (aNil))))) (aNil)))) (sSeq (sSet 8 (cFn 5 F__law_has (aCons (cVar 0) (aCons (cVar 1) (aCons (cVar 3) (aCons (cVar 5) (aCons (cVar 7) (aNil)))))))) (sIf (tOf (cBin gGt (cFn 2 F__law_order (aCons (cVar 8) (aCons (cFn 5 F__law_has (aCons (cVar 0) (aCons (cVar 1) (aCons (cVar 3) (aCons (cVar 5) (aCons (cVar 4) (aNil))))))) (aNil)))) (cK (.int 0)))) (sRet (cK (.bl false))) (sNil)))))))) (sRet (cK (.bl true))))
def F__law_truthful : Fn := fnD 9 B__law_truthful
theorem b__law_truthful {f : Addr} (h__law_profiles : Callee (ct ρ K cl) P w K mg base 1 "_law_profiles" 1 F__law_profiles) (m_len : mg "len" = none) (m_range : mg "range" = none) (h__law_with : Callee (ct ρ K cl) P w K mg base 1 "_law_with" 3 F__law_with) (h__law_has : Callee (ct ρ K cl) P w K mg base 6 "_law_has" 5 F__law_has) (h__law_order : Callee (ct ρ K cl) P w K mg base 1 "_law_order" 2 F__law_order) : Body (ct ρ K cl) P w K mg base 6 N__law_truthful "_law_truthful" f (defScope s__law_truthful) (defBody s__law_truthful) B__law_truthful := fun cdv A outer s H E hr =>
  rs_cons (s_set (ps_set (i := 2) sc__law_truthful.nd rfl (by first | exact .inl rfl | exact .inr rfl) (r_call h__law_profiles (Room.mono hr (by decide)) (ra_cons (r_var 0 (pv 0)) (ra_nil))))) (rs_cons (s_for (i_range1 m_range (r_callB k_len m_len boot_len (ra_cons (r_var 0 (pv 0)) (ra_nil)))) (g_name (pg_name (i := 3) sc__law_truthful.nd rfl (by first | exact .inl rfl | exact .inr rfl))) (rs_one (s_for (i_range1 m_range (r_callB k_len m_len boot_len (ra_cons (r_var 2 (pv 2)) (ra_nil)))) (g_name (pg_name (i := 4) sc__law_truthful.nd rfl (by first | exact .inl rfl | exact .inr rfl))) (rs_cons (s_set (ps_set (i := 5) sc__law_truthful.nd rfl (by first | exact .inl rfl | exact .inr rfl) (r_ix o_ix (r_ix o_ix (r_var 2 (pv 2)) (r_var 4 (pv 4))) (r_var 3 (pv 3))))) (rs_one (s_for (i_range1 m_range (r_callB k_len m_len boot_len (ra_cons (r_ix o_ix (r_ix o_ix (r_var 0 (pv 0)) (r_var 3 (pv 3))) (r_int)) (ra_nil)))) (g_name (pg_name (i := 6) sc__law_truthful.nd rfl (by first | exact .inl rfl | exact .inr rfl))) (rs_cons (s_set (ps_set (i := 7) sc__law_truthful.nd rfl (by first | exact .inl rfl | exact .inr rfl) (r_bm PySem.F.slot_list_index PySem.F.type_list_index (m_index ok (u65 hr)) (r_var 2 (pv 2)) (ra_cons (r_call h__law_with (Room.mono hr (by decide)) (ra_cons (r_ix o_ix (r_var 2 (pv 2)) (r_var 4 (pv 4))) (ra_cons (r_var 3 (pv 3)) (ra_cons (r_var 6 (pv 6)) (ra_nil))))) (ra_nil))))) (rs_cons (s_set (ps_set (i := 8) sc__law_truthful.nd rfl (by first | exact .inl rfl | exact .inr rfl) (r_call h__law_has (Room.mono hr (by decide)) (ra_cons (r_var 0 (pv 0)) (ra_cons (r_var 1 (pv 1)) (ra_cons (r_var 3 (pv 3)) (ra_cons (r_var 5 (pv 5)) (ra_cons (r_var 7 (pv 7)) (ra_nil))))))))) (rs_one (s_if (rt_cmp o_gt (r_call h__law_order (Room.mono hr (by decide)) (ra_cons (r_var 8 (pv 8)) (ra_cons (r_call h__law_has (Room.mono hr (by decide)) (ra_cons (r_var 0 (pv 0)) (ra_cons (r_var 1 (pv 1)) (ra_cons (r_var 3 (pv 3)) (ra_cons (r_var 5 (pv 5)) (ra_cons (r_var 4 (pv 4)) (ra_nil))))))) (ra_nil)))) (r_int)) (rs_one (s_ret (r_bl))) (rs_nil))))))))))) (rs_one (s_ret (r_bl))))
def N__law_same_rule : List Str := ["_law_actual", "_law_due", "_law_k", "_law_entry"]
omit ok in
theorem sc__law_same_rule : FnScope N__law_same_rule ["_law_actual", "_law_due"] (defScope s__law_same_rule) := ⟨rfl, rfl, rfl, by decide +kernel, rfl, by decide +kernel, by decide +kernel⟩
def B__law_same_rule : Stm := sSeq (sIf (tOrB (tNotB (tOf (cIsi 4 (cVar 0)))) (tOf (cBin gNe (cCall fLen (aCons (cVar 0) (aNil))) (cCall fLen (aCons (cVar 1) (aNil)))))) (sRet (cK (.bl false))) (sNil)) (sSeq (sFor (iR1 (cCall fLen (aCons (cVar 1) (aNil)))) (tgN 2) (sSeq (sSet 3 (cBin gIx (cVar 0) (cVar 2))) (sSeq (sIf (tOrB (tNotB (tOf (cIsi 3 (cVar 3)))) (tOf (cBin gNe (cCall fLen (aCons (cVar 3) (aNil))) (cK (.int 2))))) (sRet (cK (.bl false))) (sNil)) (sIf (tOrB (tNotB (tOf (cFn 2 F__law_same_list (aCons (cBin gIx (cVar 3) (cK (.int 0))) (aCons (cBin gIx (cBin gIx (cVar 1) (cVar 2)) (cK (.int 0))) (aNil)))))) (tNotB (tOf (cFn 2 F__law_same_list (aCons (cBin gIx (cVar 3) (cK (.int 1))) (aCons (cBin gIx (cBin gIx (cVar 1) (cVar 2)) (cK (.int 1))) (aNil))))))) (sRet (cK (.bl false))) (sNil))))) (sRet (cK (.bl true))))
def F__law_same_rule : Fn := fnD 4 B__law_same_rule
theorem b__law_same_rule {f : Addr} (m_isinstance : mg "isinstance" = none) (m_list : mg "list" = none) (m_len : mg "len" = none) (m_range : mg "range" = none) (m_tuple : mg "tuple" = none) (h__law_same_list : Callee (ct ρ K cl) P w K mg base 6 "_law_same_list" 2 F__law_same_list) : Body (ct ρ K cl) P w K mg base 6 N__law_same_rule "_law_same_rule" f (defScope s__law_same_rule) (defBody s__law_same_rule) B__law_same_rule := fun cdv A outer s H E hr =>
  rs_cons (s_if (PW.pt (rw_or (rt_not (rt_val (r_isi 4 m_isinstance (r_var 0 (pv 0)) m_list))) (rw_or1 (rt_cmp (o_ne ok hr.units) (r_callB k_len m_len boot_len (ra_cons (r_var 0 (pv 0)) (ra_nil))) (r_callB k_len m_len boot_len (ra_cons (r_var 1 (pv 1)) (ra_nil))))))) (rs_one (s_ret (r_bl))) (rs_nil)) (rs_cons (s_for (i_range1 m_range (r_callB k_len m_len boot_len (ra_cons (r_var 1 (pv 1)) (ra_nil)))) (g_name (pg_name (i := 2) sc__law_same_rule.nd rfl (by first | exact .inl rfl | exact .inr rfl))) (rs_cons (s_set (ps_set (i := 3) sc__law_same_rule.nd rfl (by first | exact .inl rfl | exact .inr rfl) (r_ix o_ix (r_var 0 (pv 0)) (r_var 2 (pv 2))))) (rs_cons (s_if (PW.pt (rw_or (rt_not (rt_val (r_isi 3 m_isinstance (r_var 3 (pv 3)) m_tuple))) (rw_or1 (rt_cmp (o_ne ok hr.units) (r_callB k_len m_len boot_len (ra_cons (r_var 3 (pv 3)) (ra_nil))) (r_int))))) (rs_one (s_ret (r_bl))) (rs_nil)) (rs_one (s_if (PW.pt (rw_or (rt_not (rt_val (r_call h__law_same_list (Room.mono hr (by decide)) (ra_cons (r_ix o_ix (r_var 3 (pv 3)) (r_int)) (ra_cons (r_ix o_ix (r_ix o_ix (r_var 1 (pv 1)) (r_var 2 (pv 2))) (r_int)) (ra_nil)))))) (rw_or1 (rt_not (rt_val (r_call h__law_same_list (Room.mono hr (by decide)) (ra_cons (r_ix o_ix (r_var 3 (pv 3)) (r_int)) (ra_cons (r_ix o_ix (r_ix o_ix (r_var 1 (pv 1)) (r_var 2 (pv 2))) (r_int)) (ra_nil))))))))) (rs_one (s_ret (r_bl))) (rs_nil)))))) (rs_one (s_ret (r_bl))))
def N__law_boxes : List Str := ["_law_agents", "_law_tree", "_law_node", "_law_row", "_law_held", "_law_k", "_law_yes", "_law_j", "_law_no"]
omit ok in
theorem sc__law_boxes : FnScope N__law_boxes ["_law_agents", "_law_tree"] (defScope s__law_boxes) := ⟨rfl, rfl, rfl, by decide +kernel, rfl, by decide +kernel, by decide +kernel⟩
def B__law_boxes : Stm := sSeq (sSet 4 (cLcC (iL (cVar 1)) (tgN 2) [2] (tYesB) (cLc (iL (cVar 0)) (tgN 3) [3] (tYesB) (cRg1 (cCall fLen (aCons (cBin gIx (cVar 3) (cK (.int 1))) (aNil))))))) (sSeq (sFor (iR1 (cCall fLen (aCons (cVar 1) (aNil)))) (tgN 5) (sSeq (sSet 2 (cBin gIx (cVar 1) (cVar 5))) (sIf (tOf (cBin gEq (cBin gIx (cVar 2) (cK (.int 0))) (cK (.str 0)))) (sSeq (sSet 6 (cCall fListC (aCons (cBin gIx (cVar 4) (cVar 5)) (aNil)))) (sSeq (sIx (cLc (iL (cBin gIx (cBin gIx (cVar 4) (cVar 5)) (cBin gIx (cVar 2) (cK (.int 1))))) (tgN 7) [7] (tOf (cBin gIn (cVar 7) (cBin gIx (cVar 2) (cK (.int 2))))) (cVar 7)) (cVar 6) (cBin gIx (cVar 2) (cK (.int 1)))) (sSeq (sSet 8 (cCall fListC (aCons (cBin gIx (cVar 4) (cVar 5)) (aNil)))) (sSeq (sIx (cLc (iL (cBin gIx (cBin gIx (cVar 4) (cVar 5)) (cBin gIx (cVar 2) (cK (.int 1))))) (tgN 7) [7] (tOf (cBin gNotIn (cVar 7) (cBin gIx (cVar 2) (cK (.int 2))))) (cVar 7)) (cVar 8) (cBin gIx (cVar 2) (cK (.int 1)))) (sSeq (sIx (cVar 6) (cVar 4) (cBin gIx (cVar 2) (cK (.int 3)))) (sIx (cVar 8) (cVar 4) (cBin gIx (cVar 2) (cK (.int 4))))))))) (sNil)))) (sRet (cVar 4)))
def F__law_boxes : Fn := fnF 9 B__law_boxes
theorem b__law_boxes {f : Addr} (m_list : mg "list" = none) (m_range : mg "range" = none) (m_len : mg "len" = none) : Body (ct ρ K cl) P w K mg base 0 N__law_boxes "_law_boxes" f (defScope s__law_boxes) (defBody s__law_boxes) B__law_boxes := fun cdv A outer s H E hr =>
  rs_cons (s_setLcC [("_law_node", 2)] (i := 4) sc__law_boxes.nd rfl rfl (sw_true rfl rfl rfl (by decide +kernel)) (i_list (r_var 1 (pv 1))) N__law_boxes (defScope s__law_boxes) rfl rfl (by decide +kernel) (fun _ _ _ _ _ => g_name (pg_name (i := 2) sc__law_boxes.nd rfl (by first | exact .inl rfl | exact .inr rfl))) (fun _ _ _ _ _ => ts_nil) (fun _ _ _ _ _ => r_lc [("_law_row", 3)] sc__law_boxes.nd (i_list (r_var 0 (pv 0))) N__law_boxes (relS (scopeOf (stVal ((defBody s__law_boxes).getD 0 (.Pass ⟨0, 0, 0, 0⟩)))) (defScope s__law_boxes)) rfl rfl (by decide +kernel) (fun _ _ _ _ _ => g_name (pg_name (i := 3) sc__law_boxes.nd rfl (by first | exact .inl rfl | exact .inr rfl))) (fun _ _ _ _ _ => ts_nil) (fun _ _ _ _ _ => r_listRg1 m_list m_range (r_callB k_len m_len boot_len (ra_cons (r_ix o_ix (r_var 3 (pv 3)) (r_int)) (ra_nil)))))) (rs_cons (s_for (i_range1 m_range (r_callB k_len m_len boot_len (ra_cons (r_var 1 (pv 1)) (ra_nil)))) (g_name (pg_name (i := 5) sc__law_boxes.nd rfl (by first | exact .inl rfl | exact .inr rfl))) (rs_cons (s_set (ps_set (i := 2) sc__law_boxes.nd rfl (by first | exact .inl rfl | exact .inr rfl) (r_ix o_ix (r_var 1 (pv 1)) (r_var 5 (pv 5))))) (rs_one (s_if (rt_cmp (o_eq ok hr.units) (r_ix o_ix (r_var 2 (pv 2)) (r_int)) (r_str 0)) (rs_cons (s_set (ps_set (i := 6) sc__law_boxes.nd rfl (by first | exact .inl rfl | exact .inr rfl) (r_callTy k_listC m_list boot_list (ra_cons (r_ix o_ix (r_var 4 (pv 4)) (r_var 5 (pv 5))) (ra_nil))))) (rs_cons (s_ix (r_lc [("_law_j", 7)] sc__law_boxes.nd (i_list (r_ix o_ix (r_ix o_ix (r_var 4 (pv 4)) (r_var 5 (pv 5))) (r_ix o_ix (r_var 2 (pv 2)) (r_int)))) N__law_boxes (defScope s__law_boxes) rfl rfl (by decide +kernel) (fun _ _ _ _ _ => g_name (pg_name (i := 7) sc__law_boxes.nd rfl (by first | exact .inl rfl | exact .inr rfl))) (fun _ _ _ _ _ => ts_one (rt_cmp (o_in ok (u65 hr)) (r_var 7 (pv 7)) (r_ix o_ix (r_var 2 (pv 2)) (r_int)))) (fun _ _ _ _ _ => r_var 7 (pv 7))) (r_var 6 (pv 6)) (r_ix o_ix (r_var 2 (pv 2)) (r_int))) (rs_cons (s_set (ps_set (i := 8) sc__law_boxes.nd rfl (by first | exact .inl rfl | exact .inr rfl) (r_callTy k_listC m_list boot_list (ra_cons (r_ix o_ix (r_var 4 (pv 4)) (r_var 5 (pv 5))) (ra_nil))))) (rs_cons (s_ix (r_lc [("_law_j", 7)] sc__law_boxes.nd (i_list (r_ix o_ix (r_ix o_ix (r_var 4 (pv 4)) (r_var 5 (pv 5))) (r_ix o_ix (r_var 2 (pv 2)) (r_int)))) N__law_boxes (defScope s__law_boxes) rfl rfl (by decide +kernel) (fun _ _ _ _ _ => g_name (pg_name (i := 7) sc__law_boxes.nd rfl (by first | exact .inl rfl | exact .inr rfl))) (fun _ _ _ _ _ => ts_one (rt_cmp (o_notIn ok (u65 hr)) (r_var 7 (pv 7)) (r_ix o_ix (r_var 2 (pv 2)) (r_int)))) (fun _ _ _ _ _ => r_var 7 (pv 7))) (r_var 8 (pv 8)) (r_ix o_ix (r_var 2 (pv 2)) (r_int))) (rs_cons (s_ix (r_var 6 (pv 6)) (r_var 4 (pv 4)) (r_ix o_ix (r_var 2 (pv 2)) (r_int))) (rs_one (s_ix (r_var 8 (pv 8)) (r_var 4 (pv 4)) (r_ix o_ix (r_var 2 (pv 2)) (r_int))))))))) (rs_nil))))) (rs_one (s_ret (r_var 4 (pv 4)))))
def N__law_path : List Str := ["_law_tree", "_law_profile", "_law_path_here", "_law_turn", "_law_node"]
omit ok in
theorem sc__law_path : FnScope N__law_path ["_law_tree", "_law_profile"] (defScope s__law_path) := ⟨rfl, rfl, rfl, by decide +kernel, rfl, by decide +kernel, by decide +kernel⟩
def B__law_path : Stm := sSeq (sSet 2 (cCel (aCons (cK (.int 0)) (aNil)))) (sSeq (sFor (iR1 (cCall fLen (aCons (cVar 0) (aNil)))) (tgN 3) (sSeq (sSet 4 (cBin gIx (cVar 0) (cBin gIx (cVar 2) (cBin gSub (cCall fLen (aCons (cVar 2) (aNil))) (cK (.int 1)))))) (sSeq (sIf (tOf (cBin gEq (cBin gIx (cVar 4) (cK (.int 0))) (cK (.str 1)))) (sRet (cVar 2)) (sNil)) (sIf (tOf (cBin gIn (cBin gIx (cVar 1) (cBin gIx (cVar 4) (cK (.int 1)))) (cBin gIx (cVar 4) (cK (.int 2))))) (sExpr (cMeth gApp (cVar 2) (aCons (cBin gIx (cVar 4) (cK (.int 3))) (aNil)))) (sExpr (cMeth gApp (cVar 2) (aCons (cBin gIx (cVar 4) (cK (.int 4))) (aNil)))))))) (sRet (cVar 2)))
def F__law_path : Fn := fnF 5 B__law_path
theorem b__law_path {f : Addr} (m_len : mg "len" = none) (m_range : mg "range" = none) : Body (ct ρ K cl) P w K mg base 0 N__law_path "_law_path" f (defScope s__law_path) (defBody s__law_path) B__law_path := fun cdv A outer s H E hr =>
  rs_cons (s_set (ps_set (i := 2) sc__law_path.nd rfl (by first | exact .inl rfl | exact .inr rfl) (r_cel (ra_cons (r_int) (ra_nil))))) (rs_cons (s_for (i_range1 m_range (r_callB k_len m_len boot_len (ra_cons (r_var 0 (pv 0)) (ra_nil)))) (g_name (pg_name (i := 3) sc__law_path.nd rfl (by first | exact .inl rfl | exact .inr rfl))) (rs_cons (s_set (ps_set (i := 4) sc__law_path.nd rfl (by first | exact .inl rfl | exact .inr rfl) (r_ix o_ix (r_var 0 (pv 0)) (r_ix o_ix (r_var 2 (pv 2)) (r_op o_sub (r_callB k_len m_len boot_len (ra_cons (r_var 2 (pv 2)) (ra_nil))) (r_int)))))) (rs_cons (s_if (rt_cmp (o_eq ok hr.units) (r_ix o_ix (r_var 4 (pv 4)) (r_int)) (r_str 1)) (rs_one (s_ret (r_var 2 (pv 2)))) (rs_nil)) (rs_one (s_if (rt_cmp (o_in ok (u65 hr)) (r_ix o_ix (r_var 1 (pv 1)) (r_ix o_ix (r_var 4 (pv 4)) (r_int))) (r_ix o_ix (r_var 4 (pv 4)) (r_int))) (rs_one (s_expr (r_bm PySem.F.slot_list_append PySem.F.type_list_append m_append (r_var 2 (pv 2)) (ra_cons (r_ix o_ix (r_var 4 (pv 4)) (r_int)) (ra_nil))))) (rs_one (s_expr (r_bm PySem.F.slot_list_append PySem.F.type_list_append m_append (r_var 2 (pv 2)) (ra_cons (r_ix o_ix (r_var 4 (pv 4)) (r_int)) (ra_nil)))))))))) (rs_one (s_ret (r_var 2 (pv 2)))))
def N__law_carried : List Str := ["_law_agents", "_law_outs", "_law_tree", "_law_rule", "_law_profile", "_law_path_here", "_law_end", "_law_o"]
omit ok in
theorem sc__law_carried : FnScope N__law_carried ["_law_agents", "_law_outs", "_law_tree"] (defScope s__law_carried) := ⟨rfl, rfl, rfl, by decide +kernel, rfl, by decide +kernel, by decide +kernel⟩
def B__law_carried : Stm := sSeq (sSet 3 (cCel (aNil))) (sSeq (sFor (iL (cFn 1 F__law_profiles (aCons (cVar 0) (aNil)))) (tgN 4) (sSeq (sSet 5 (cFn 2 F__law_path (aCons (cVar 2) (aCons (cVar 4) (aNil))))) (sSeq (sSet 6 (cBin gIx (cVar 2) (cBin gIx (cVar 5) (cBin gSub (cCall fLen (aCons (cVar 5) (aNil))) (cK (.int 1)))))) (sExpr (cMeth gApp (cVar 3) (aCons (cTup (aCons (cLc (iR1 (cVar 1)) (tgN 7) [7] (tYesB) (cTup (aCons (cCall fInt (aCons (cBin gEq (cVar 7) (cBin gIx (cVar 6) (cK (.int 1)))) (aNil))) (aCons (cK (.int 1)) (aNil))))) (aCons (cCall fListV (aCons (cBin gIx (cVar 6) (cK (.int 2))) (aNil))) (aNil)))) (aNil))))))) (sRet (cVar 3)))
def F__law_carried : Fn := fnF 8 B__law_carried
theorem b__law_carried {f : Addr} (h__law_profiles : Callee (ct ρ K cl) P w K mg base 1 "_law_profiles" 1 F__law_profiles) (h__law_path : Callee (ct ρ K cl) P w K mg base 1 "_law_path" 2 F__law_path) (m_len : mg "len" = none) (m_range : mg "range" = none) (m_int : mg "int" = none) (m_list : mg "list" = none) : Body (ct ρ K cl) P w K mg base 1 N__law_carried "_law_carried" f (defScope s__law_carried) (defBody s__law_carried) B__law_carried := fun cdv A outer s H E hr =>
  rs_cons (s_set (ps_set (i := 3) sc__law_carried.nd rfl (by first | exact .inl rfl | exact .inr rfl) (r_cel (ra_nil)))) (rs_cons (s_for (i_list (r_call h__law_profiles (Room.mono hr (by decide)) (ra_cons (r_var 0 (pv 0)) (ra_nil)))) (g_name (pg_name (i := 4) sc__law_carried.nd rfl (by first | exact .inl rfl | exact .inr rfl))) (rs_cons (s_set (ps_set (i := 5) sc__law_carried.nd rfl (by first | exact .inl rfl | exact .inr rfl) (r_call h__law_path (Room.mono hr (by decide)) (ra_cons (r_var 2 (pv 2)) (ra_cons (r_var 4 (pv 4)) (ra_nil)))))) (rs_cons (s_set (ps_set (i := 6) sc__law_carried.nd rfl (by first | exact .inl rfl | exact .inr rfl) (r_ix o_ix (r_var 2 (pv 2)) (r_ix o_ix (r_var 5 (pv 5)) (r_op o_sub (r_callB k_len m_len boot_len (ra_cons (r_var 5 (pv 5)) (ra_nil))) (r_int)))))) (rs_one (s_expr (r_bm PySem.F.slot_list_append PySem.F.type_list_append m_append (r_var 3 (pv 3)) (ra_cons (r_tup (ra_cons (r_lc [("_law_o", 7)] sc__law_carried.nd (i_range1 m_range (r_var 1 (pv 1))) N__law_carried (defScope s__law_carried) rfl rfl (by decide +kernel) (fun _ _ _ _ _ => g_name (pg_name (i := 7) sc__law_carried.nd rfl (by first | exact .inl rfl | exact .inr rfl))) (fun _ _ _ _ _ => ts_nil) (fun _ _ _ _ _ => r_tup (ra_cons (r_callTy k_int m_int (by decide +kernel) (ra_cons (r_cmp (o_eq ok hr.units) (r_var 7 (pv 7)) (r_ix o_ix (r_var 6 (pv 6)) (r_int))) (ra_nil))) (ra_cons (r_int) (ra_nil))))) (ra_cons (r_callTy k_listV m_list boot_list (ra_cons (r_ix o_ix (r_var 6 (pv 6)) (r_int)) (ra_nil))) (ra_nil)))) (ra_nil)))))))) (rs_one (s_ret (r_var 3 (pv 3)))))
def N__law_ends : List Str := ["_law_tree", "_law_start", "_law_agent", "_law_kind", "_law_found", "_law_waiting", "_law_turn", "_law_node"]
omit ok in
theorem sc__law_ends : FnScope N__law_ends ["_law_tree", "_law_start", "_law_agent", "_law_kind"] (defScope s__law_ends) := ⟨rfl, rfl, rfl, by decide +kernel, rfl, by decide +kernel, by decide +kernel⟩
def B__law_ends : Stm := sSeq (sSet 4 (cCel (aNil))) (sSeq (sSet 5 (cCel (aCons (cVar 1) (aNil)))) (sSeq (sFor (iR1 (cK (.int 400))) (tgN 6) (sSeq (sIf (tOf (cBin gEq (cVar 5) (cCel (aNil)))) (sRet (cVar 4)) (sNil)) (sSeq (sSet 7 (cBin gIx (cVar 0) (cMeth0 gPop (cVar 5)))) (sIf (tOf (cBin gEq (cBin gIx (cVar 7) (cK (.int 0))) (cK (.str 1)))) (sExpr (cMeth gApp (cVar 4) (aCons (cVar 7) (aNil)))) (sIf (tOf (cBin gNe (cBin gIx (cVar 7) (cK (.int 1))) (cVar 2))) (sSet 5 (cBin gAdd (cVar 5) (cCel (aCons (cBin gIx (cVar 7) (cK (.int 3))) (aCons (cBin gIx (cVar 7) (cK (.int 4))) (aNil)))))) (sIf (tOf (cBin gIn (cVar 3) (cBin gIx (cVar 7) (cK (.int 2))))) (sExpr (cMeth gApp (cVar 5) (aCons (cBin gIx (cVar 7) (cK (.int 3))) (aNil)))) (sExpr (cMeth gApp (cVar 5) (aCons (cBin gIx (cVar 7) (cK (.int 4))) (aNil)))))))))) (sRet (cVar 4))))
def F__law_ends : Fn := fnF 8 B__law_ends
theorem b__law_ends {f : Addr} (m_range : mg "range" = none) : Body (ct ρ K cl) P w K mg base 0 N__law_ends "_law_ends" f (defScope s__law_ends) (defBody s__law_ends) B__law_ends := fun cdv A outer s H E hr =>
  rs_cons (s_set (ps_set (i := 4) sc__law_ends.nd rfl (by first | exact .inl rfl | exact .inr rfl) (r_cel (ra_nil)))) (rs_cons (s_set (ps_set (i := 5) sc__law_ends.nd rfl (by first | exact .inl rfl | exact .inr rfl) (r_cel (ra_cons (r_var 1 (pv 1)) (ra_nil))))) (rs_cons (s_for (i_range1 m_range (r_int)) (g_name (pg_name (i := 6) sc__law_ends.nd rfl (by first | exact .inl rfl | exact .inr rfl))) (rs_cons (s_if (rt_cmp (o_eq ok hr.units) (r_var 5 (pv 5)) (r_cel (ra_nil))) (rs_one (s_ret (r_var 4 (pv 4)))) (rs_nil)) (rs_cons (s_set (ps_set (i := 7) sc__law_ends.nd rfl (by first | exact .inl rfl | exact .inr rfl) (r_ix o_ix (r_var 0 (pv 0)) (r_bm0 PySem.F.slot_list_pop PySem.F.type_list_pop m_pop (r_var 5 (pv 5)))))) (rs_one (s_if (rt_cmp (o_eq ok hr.units) (r_ix o_ix (r_var 7 (pv 7)) (r_int)) (r_str 1)) (rs_one (s_expr (r_bm PySem.F.slot_list_append PySem.F.type_list_append m_append (r_var 4 (pv 4)) (ra_cons (r_var 7 (pv 7)) (ra_nil))))) (rs_one (s_if (rt_cmp (o_ne ok hr.units) (r_ix o_ix (r_var 7 (pv 7)) (r_int)) (r_var 2 (pv 2))) (rs_one (s_set (ps_set (i := 5) sc__law_ends.nd rfl (by first | exact .inl rfl | exact .inr rfl) (r_op o_add (r_var 5 (pv 5)) (r_cel (ra_cons (r_ix o_ix (r_var 7 (pv 7)) (r_int)) (ra_cons (r_ix o_ix (r_var 7 (pv 7)) (r_int)) (ra_nil)))))))) (rs_one (s_if (rt_cmp (o_in ok (u65 hr)) (r_var 3 (pv 3)) (r_ix o_ix (r_var 7 (pv 7)) (r_int))) (rs_one (s_expr (r_bm PySem.F.slot_list_append PySem.F.type_list_append m_append (r_var 5 (pv 5)) (ra_cons (r_ix o_ix (r_var 7 (pv 7)) (r_int)) (ra_nil))))) (rs_one (s_expr (r_bm PySem.F.slot_list_append PySem.F.type_list_append m_append (r_var 5 (pv 5)) (ra_cons (r_ix o_ix (r_var 7 (pv 7)) (r_int)) (ra_nil)))))))))))))) (rs_one (s_ret (r_var 4 (pv 4))))))
def N__law_extreme : List Str := ["_law_values_here", "_law_wanted", "_law_best", "_law_value"]
omit ok in
theorem sc__law_extreme : FnScope N__law_extreme ["_law_values_here", "_law_wanted"] (defScope s__law_extreme) := ⟨rfl, rfl, rfl, by decide +kernel, rfl, by decide +kernel, by decide +kernel⟩
def B__law_extreme : Stm := sSeq (sSet 2 (cBin gIx (cVar 0) (cK (.int 0)))) (sSeq (sFor (iL (cVar 0)) (tgN 3) (sIf (tOf (cBin gEq (cFn 2 F__law_order (aCons (cVar 3) (aCons (cVar 2) (aNil)))) (cVar 1))) (sSet 2 (cVar 3)) (sNil))) (sRet (cVar 2)))
def F__law_extreme : Fn := fnD 4 B__law_extreme
theorem b__law_extreme {f : Addr} (h__law_order : Callee (ct ρ K cl) P w K mg base 1 "_law_order" 2 F__law_order) : Body (ct ρ K cl) P w K mg base 1 N__law_extreme "_law_extreme" f (defScope s__law_extreme) (defBody s__law_extreme) B__law_extreme := fun cdv A outer s H E hr =>
  rs_cons (s_set (ps_set (i := 2) sc__law_extreme.nd rfl (by first | exact .inl rfl | exact .inr rfl) (r_ix o_ix (r_var 0 (pv 0)) (r_int)))) (rs_cons (s_for (i_list (r_var 0 (pv 0))) (g_name (pg_name (i := 3) sc__law_extreme.nd rfl (by first | exact .inl rfl | exact .inr rfl))) (rs_one (s_if (rt_cmp (o_eq ok hr.units) (r_call h__law_order (Room.mono hr (by decide)) (ra_cons (r_var 3 (pv 3)) (ra_cons (r_var 2 (pv 2)) (ra_nil)))) (r_var 1 (pv 1))) (rs_one (s_set (ps_set (i := 2) sc__law_extreme.nd rfl (by first | exact .inl rfl | exact .inr rfl) (r_var 3 (pv 3))))) (rs_nil)))) (rs_one (s_ret (r_var 2 (pv 2)))))
def N__law_doubt : List Str := ["_law_agents", "_law_tree", "_law_held", "_law_k", "_law_node", "_law_agent", "_law_kind", "_law_sides", "_law_worths", "_law_e", "_law_sure", "_law_hoped", "_law_worst", "_law_best"]
omit ok in
theorem sc__law_doubt : FnScope N__law_doubt ["_law_agents", "_law_tree"] (defScope s__law_doubt) := ⟨rfl, rfl, rfl, by decide +kernel, rfl, by decide +kernel, by decide +kernel⟩
def B__law_doubt : Stm := sSeq (sSet 2 (cFn 2 F__law_boxes (aCons (cVar 0) (aCons (cVar 1) (aNil))))) (sSeq (sFor (iR1 (cCall fLen (aCons (cVar 1) (aNil)))) (tgN 3) (sSeq (sSet 4 (cBin gIx (cVar 1) (cVar 3))) (sIf (tOf (cBin gEq (cBin gIx (cVar 4) (cK (.int 0))) (cK (.str 0)))) (sSeq (sSet 5 (cBin gIx (cVar 4) (cK (.int 1)))) (sFor (iL (cBin gIx (cBin gIx (cVar 2) (cVar 3)) (cVar 5))) (tgN 6) (sSeq (sSet 7 (cCel (aCons (cBin gIx (cVar 4) (cK (.int 3))) (aCons (cBin gIx (cVar 4) (cK (.int 4))) (aNil))))) (sSeq (sIf (tOf (cBin gNotIn (cVar 6) (cBin gIx (cVar 4) (cK (.int 2))))) (sSet 7 (cCel (aCons (cBin gIx (cVar 4) (cK (.int 4))) (aCons (cBin gIx (cVar 4) (cK (.int 3))) (aNil))))) (sNil)) (sSeq (sSet 8 (cBin gIx (cBin gIx (cBin gIx (cBin gIx (cVar 0) (cVar 5)) (cK (.int 1))) (cVar 6)) (cK (.int 3)))) (sSeq (sSet 10 (cLc (iL (cFn 4 F__law_ends (aCons (cVar 1) (aCons (cBin gIx (cVar 7) (cK (.int 0))) (aCons (cVar 5) (aCons (cVar 6) (aNil))))))) (tgN 9) [9] (tYesB) (cFn 2 F__law_minus (aCons (cBin gIx (cVar 8) (cBin gIx (cVar 9) (cK (.int 1)))) (aCons (cBin gIx (cBin gIx (cVar 9) (cK (.int 2))) (cVar 5)) (aNil)))))) (sSeq (sSet 11 (cLc (iL (cFn 4 F__law_ends (aCons (cVar 1) (aCons (cBin gIx (cVar 7) (cK (.int 1))) (aCons (cK .non) (aCons (cVar 6) (aNil))))))) (tgN 9) [9] (tYesB) (cFn 2 F__law_minus (aCons (cBin gIx (cVar 8) (cBin gIx (cVar 9) (cK (.int 1)))) (aCons (cBin gIx (cBin gIx (cVar 9) (cK (.int 2))) (cVar 5)) (aNil)))))) (sSeq (sSet 12 (cFn 2 F__law_extreme (aCons (cVar 10) (aCons (cUn gNeg (cK (.int 1))) (aNil))))) (sSeq (sSet 13 (cFn 2 F__law_extreme (aCons (cVar 11) (aCons (cK (.int 1)) (aNil))))) (sIf (tOf (cBin gLt (cFn 2 F__law_order (aCons (cVar 12) (aCons (cVar 13) (aNil)))) (cK (.int 0)))) (sRet (cTup (aCons (cVar 3) (aCons (cVar 6) (aCons (cVar 12) (aCons (cVar 13) (aNil))))))) (sNil))))))))))) (sNil)))) (sRet (cK .non)))
def F__law_doubt : Fn := fnD 14 B__law_doubt
theorem b__law_doubt {f : Addr} (h__law_boxes : Callee (ct ρ K cl) P w K mg base 1 "_law_boxes" 2 F__law_boxes) (m_len : mg "len" = none) (m_range : mg "range" = none) (h__law_ends : Callee (ct ρ K cl) P w K mg base 1 "_law_ends" 4 F__law_ends) (h__law_minus : Callee (ct ρ K cl) P w K mg base 4 "_law_minus" 2 F__law_minus) (h__law_extreme : Callee (ct ρ K cl) P w K mg base 2 "_law_extreme" 2 F__law_extreme) (h__law_order : Callee (ct ρ K cl) P w K mg base 1 "_law_order" 2 F__law_order) : Body (ct ρ K cl) P w K mg base 4 N__law_doubt "_law_doubt" f (defScope s__law_doubt) (defBody s__law_doubt) B__law_doubt := fun cdv A outer s H E hr =>
  rs_cons (s_set (ps_set (i := 2) sc__law_doubt.nd rfl (by first | exact .inl rfl | exact .inr rfl) (r_call h__law_boxes (Room.mono hr (by decide)) (ra_cons (r_var 0 (pv 0)) (ra_cons (r_var 1 (pv 1)) (ra_nil)))))) (rs_cons (s_for (i_range1 m_range (r_callB k_len m_len boot_len (ra_cons (r_var 1 (pv 1)) (ra_nil)))) (g_name (pg_name (i := 3) sc__law_doubt.nd rfl (by first | exact .inl rfl | exact .inr rfl))) (rs_cons (s_set (ps_set (i := 4) sc__law_doubt.nd rfl (by first | exact .inl rfl | exact .inr rfl) (r_ix o_ix (r_var 1 (pv 1)) (r_var 3 (pv 3))))) (rs_one (s_if (rt_cmp (o_eq ok hr.units) (r_ix o_ix (r_var 4 (pv 4)) (r_int)) (r_str 0)) (rs_cons (s_set (ps_set (i := 5) sc__law_doubt.nd rfl (by first | exact .inl rfl | exact .inr rfl) (r_ix o_ix (r_var 4 (pv 4)) (r_int)))) (rs_one (s_for (i_list (r_ix o_ix (r_ix o_ix (r_var 2 (pv 2)) (r_var 3 (pv 3))) (r_var 5 (pv 5)))) (g_name (pg_name (i := 6) sc__law_doubt.nd rfl (by first | exact .inl rfl | exact .inr rfl))) (rs_cons (s_set (ps_set (i := 7) sc__law_doubt.nd rfl (by first | exact .inl rfl | exact .inr rfl) (r_cel (ra_cons (r_ix o_ix (r_var 4 (pv 4)) (r_int)) (ra_cons (r_ix o_ix (r_var 4 (pv 4)) (r_int)) (ra_nil)))))) (rs_cons (s_if (rt_cmp (o_notIn ok (u65 hr)) (r_var 6 (pv 6)) (r_ix o_ix (r_var 4 (pv 4)) (r_int))) (rs_one (s_set (ps_set (i := 7) sc__law_doubt.nd rfl (by first | exact .inl rfl | exact .inr rfl) (r_cel (ra_cons (r_ix o_ix (r_var 4 (pv 4)) (r_int)) (ra_cons (r_ix o_ix (r_var 4 (pv 4)) (r_int)) (ra_nil))))))) (rs_nil)) (rs_cons (s_set (ps_set (i := 8) sc__law_doubt.nd rfl (by first | exact .inl rfl | exact .inr rfl) (r_ix o_ix (r_ix o_ix (r_ix o_ix (r_ix o_ix (r_var 0 (pv 0)) (r_var 5 (pv 5))) (r_int)) (r_var 6 (pv 6))) (r_int)))) (rs_cons (s_setLc [("_law_e", 9)] (i := 10) sc__law_doubt.nd rfl rfl (sw_true rfl rfl rfl (by decide +kernel)) (i_list (r_call h__law_ends (Room.mono hr (by decide)) (ra_cons (r_var 1 (pv 1)) (ra_cons (r_ix o_ix (r_var 7 (pv 7)) (r_int)) (ra_cons (r_var 5 (pv 5)) (ra_cons (r_var 6 (pv 6)) (ra_nil))))))) N__law_doubt (defScope s__law_doubt) rfl rfl (by decide +kernel) (fun _ _ _ _ _ => g_name (pg_name (i := 9) sc__law_doubt.nd rfl (by first | exact .inl rfl | exact .inr rfl))) (fun _ _ _ _ _ => ts_nil) (fun _ _ _ _ _ => r_call h__law_minus (Room.mono hr (by decide)) (ra_cons (r_ix o_ix (r_var 8 (pv 8)) (r_ix o_ix (r_var 9 (pv 9)) (r_int))) (ra_cons (r_ix o_ix (r_ix o_ix (r_var 9 (pv 9)) (r_int)) (r_var 5 (pv 5))) (ra_nil))))) (rs_cons (s_setLc [("_law_e", 9)] (i := 11) sc__law_doubt.nd rfl rfl (sw_true rfl rfl rfl (by decide +kernel)) (i_list (r_call h__law_ends (Room.mono hr (by decide)) (ra_cons (r_var 1 (pv 1)) (ra_cons (r_ix o_ix (r_var 7 (pv 7)) (r_int)) (ra_cons (r_non) (ra_cons (r_var 6 (pv 6)) (ra_nil))))))) N__law_doubt (defScope s__law_doubt) rfl rfl (by decide +kernel) (fun _ _ _ _ _ => g_name (pg_name (i := 9) sc__law_doubt.nd rfl (by first | exact .inl rfl | exact .inr rfl))) (fun _ _ _ _ _ => ts_nil) (fun _ _ _ _ _ => r_call h__law_minus (Room.mono hr (by decide)) (ra_cons (r_ix o_ix (r_var 8 (pv 8)) (r_ix o_ix (r_var 9 (pv 9)) (r_int))) (ra_cons (r_ix o_ix (r_ix o_ix (r_var 9 (pv 9)) (r_int)) (r_var 5 (pv 5))) (ra_nil))))) (rs_cons (s_set (ps_set (i := 12) sc__law_doubt.nd rfl (by first | exact .inl rfl | exact .inr rfl) (r_call h__law_extreme (Room.mono hr (by decide)) (ra_cons (r_var 10 (pv 10)) (ra_cons (r_un o_neg (r_int)) (ra_nil)))))) (rs_cons (s_set (ps_set (i := 13) sc__law_doubt.nd rfl (by first | exact .inl rfl | exact .inr rfl) (r_call h__law_extreme (Room.mono hr (by decide)) (ra_cons (r_var 11 (pv 11)) (ra_cons (r_int) (ra_nil)))))) (rs_one (s_if (rt_cmp o_lt (r_call h__law_order (Room.mono hr (by decide)) (ra_cons (r_var 12 (pv 12)) (ra_cons (r_var 13 (pv 13)) (ra_nil)))) (r_int)) (rs_one (s_ret (r_tup (ra_cons (r_var 3 (pv 3)) (ra_cons (r_var 6 (pv 6)) (ra_cons (r_var 12 (pv 12)) (ra_cons (r_var 13 (pv 13)) (ra_nil)))))))) (rs_nil))))))))))))) (rs_nil))))) (rs_one (s_ret (r_non))))
def N__law_sold : List Str := ["_law_values_here", "_law_profile", "_law_entry", "_law_winner", "_law_i", "_law_others", "_law_least"]
omit ok in
theorem sc__law_sold : FnScope N__law_sold ["_law_values_here", "_law_profile", "_law_entry"] (defScope s__law_sold) := ⟨rfl, rfl, rfl, by decide +kernel, rfl, by decide +kernel, by decide +kernel⟩
def B__law_sold : Stm := sSeq (sIf (tOf (cBin gNotIn (cTup (aCons (cK (.int 1)) (aCons (cK (.int 1)) (aNil)))) (cBin gIx (cVar 2) (cK (.int 0))))) (sRet (cK (.bl false))) (sNil)) (sSeq (sSet 3 (cBin gSub (cMeth gIndex (cBin gIx (cVar 2) (cK (.int 0))) (aCons (cTup (aCons (cK (.int 1)) (aCons (cK (.int 1)) (aNil)))) (aNil))) (cK (.int 1)))) (sSeq (sIf (tOrB (tOf (cBin gLt (cVar 3) (cK (.int 0)))) (tOf (cBin gNe (cBin gIx (cVar 1) (cVar 3)) (cCall fMaxT (aCons (cVar 1) (aNil)))))) (sRet (cK (.bl false))) (sNil)) (sSeq (sFor (iR1 (cCall fLen (aCons (cVar 1) (aNil)))) (tgN 4) (sIf (tAndB (tOf (cBin gNe (cVar 4) (cVar 3))) (tOf (cBin gNe (cBin gIx (cBin gIx (cVar 2) (cK (.int 1))) (cVar 4)) (cTup (aCons (cK (.int 0)) (aCons (cK (.int 1)) (aNil))))))) (sRet (cK (.bl false))) (sNil))) (sSeq (sSet 5 (cLc (iR1 (cCall fLen (aCons (cVar 1) (aNil)))) (tgN 4) [4] (tOf (cBin gNe (cVar 4) (cVar 3))) (cBin gIx (cVar 1) (cVar 4)))) (sSeq (sIf (tOf (cBin gGt (cFn 2 F__law_order (aCons (cBin gIx (cBin gIx (cVar 2) (cK (.int 1))) (cVar 3)) (aCons (cBin gIx (cVar 0) (cBin gIx (cVar 1) (cVar 3))) (aNil)))) (cK (.int 0)))) (sRet (cK (.bl false))) (sNil)) (sSeq (sSet 6 (cCall fMaxL (aCons (cBin gAdd (cCel (aCons (cK (.int 0)) (aNil))) (cVar 5)) (aNil)))) (sRet (cBin gGe (cFn 2 F__law_order (aCons (cBin gIx (cBin gIx (cVar 2) (cK (.int 1))) (cVar 3)) (aCons (cBin gIx (cVar 0) (cCall fMax2 (aCons (cK (.int 0)) (aCons (cBin gSub (cVar 6) (cK (.int 1))) (aNil))))) (aNil)))) (cK (.int 0))))))))))
def F__law_sold : Fn := fnD 7 B__law_sold
theorem b__law_sold {f : Addr} (m_max : mg "max" = none) (m_len : mg "len" = none) (m_range : mg "range" = none) (h__law_order : Callee (ct ρ K cl) P w K mg base 1 "_law_order" 2 F__law_order) : Body (ct ρ K cl) P w K mg base 1 N__law_sold "_law_sold" f (defScope s__law_sold) (defBody s__law_sold) B__law_sold := fun cdv A outer s H E hr =>
  rs_cons (s_if (rt_cmp (o_notIn ok (u65 hr)) (r_tup (ra_cons (r_int) (ra_cons (r_int) (ra_nil)))) (r_ix o_ix (r_var 2 (pv 2)) (r_int))) (rs_one (s_ret (r_bl))) (rs_nil)) (rs_cons (s_set (ps_set (i := 3) sc__law_sold.nd rfl (by first | exact .inl rfl | exact .inr rfl) (r_op o_sub (r_bm PySem.F.slot_list_index PySem.F.type_list_index (m_index ok (u65 hr)) (r_ix o_ix (r_var 2 (pv 2)) (r_int)) (ra_cons (r_tup (ra_cons (r_int) (ra_cons (r_int) (ra_nil)))) (ra_nil))) (r_int)))) (rs_cons (s_if (PW.pt (rw_or (rt_cmp o_lt (r_var 3 (pv 3)) (r_int)) (rw_or1 (rt_cmp (o_ne ok hr.units) (r_ix o_ix (r_var 1 (pv 1)) (r_var 3 (pv 3))) (r_callB k_maxT m_max (by decide +kernel) (ra_cons (r_var 1 (pv 1)) (ra_nil))))))) (rs_one (s_ret (r_bl))) (rs_nil)) (rs_cons (s_for (i_range1 m_range (r_callB k_len m_len boot_len (ra_cons (r_var 1 (pv 1)) (ra_nil)))) (g_name (pg_name (i := 4) sc__law_sold.nd rfl (by first | exact .inl rfl | exact .inr rfl))) (rs_one (s_if (PW.pt (rw_and (rt_cmp (o_ne ok hr.units) (r_var 4 (pv 4)) (r_var 3 (pv 3))) (rw_and1 (rt_cmp (o_ne ok hr.units) (r_ix o_ix (r_ix o_ix (r_var 2 (pv 2)) (r_int)) (r_var 4 (pv 4))) (r_tup (ra_cons (r_int) (ra_cons (r_int) (ra_nil)))))))) (rs_one (s_ret (r_bl))) (rs_nil)))) (rs_cons (s_setLc [("_law_i", 4)] (i := 5) sc__law_sold.nd rfl rfl (sw_true rfl rfl rfl (by decide +kernel)) (i_range1 m_range (r_callB k_len m_len boot_len (ra_cons (r_var 1 (pv 1)) (ra_nil)))) N__law_sold (defScope s__law_sold) rfl rfl (by decide +kernel) (fun _ _ _ _ _ => g_name (pg_name (i := 4) sc__law_sold.nd rfl (by first | exact .inl rfl | exact .inr rfl))) (fun _ _ _ _ _ => ts_one (rt_cmp (o_ne ok hr.units) (r_var 4 (pv 4)) (r_var 3 (pv 3)))) (fun _ _ _ _ _ => r_ix o_ix (r_var 1 (pv 1)) (r_var 4 (pv 4)))) (rs_cons (s_if (rt_cmp o_gt (r_call h__law_order (Room.mono hr (by decide)) (ra_cons (r_ix o_ix (r_ix o_ix (r_var 2 (pv 2)) (r_int)) (r_var 3 (pv 3))) (ra_cons (r_ix o_ix (r_var 0 (pv 0)) (r_ix o_ix (r_var 1 (pv 1)) (r_var 3 (pv 3)))) (ra_nil)))) (r_int)) (rs_one (s_ret (r_bl))) (rs_nil)) (rs_cons (s_set (ps_set (i := 6) sc__law_sold.nd rfl (by first | exact .inl rfl | exact .inr rfl) (r_callB k_maxL m_max (by decide +kernel) (ra_cons (r_op o_add (r_cel (ra_cons (r_int) (ra_nil))) (r_var 5 (pv 5))) (ra_nil))))) (rs_one (s_ret (r_cmp o_ge (r_call h__law_order (Room.mono hr (by decide)) (ra_cons (r_ix o_ix (r_ix o_ix (r_var 2 (pv 2)) (r_int)) (r_var 3 (pv 3))) (ra_cons (r_ix o_ix (r_var 0 (pv 0)) (r_callB k_max2 m_max (by decide +kernel) (ra_cons (r_int) (ra_cons (r_op o_sub (r_var 6 (pv 6)) (r_int)) (ra_nil))))) (ra_nil)))) (r_int))))))))))
end
end U
end
noncomputable section
namespace U
open PySem PySem.Spec
open PyProof.Rows L2
section
variable {ρ : Rho} {P : Program} {w : World} {K : PySem.W.Frag} {cl : Nat → Addr} {mg : Str → Option Value} {base : Heap} (ok : ρ.Ok)
include ok
def N_law : List Str := ["_law_script", "_law_deck_here", "_law_pair", "_law_values_here", "_law_told", "_law_agents", "_law_tree", "_law_rule", "_law_profiles_here", "_law_k"]
omit ok in
theorem sc_law : FnScope N_law ["_law_script"] (defScope s_law) := ⟨rfl, rfl, rfl, by decide +kernel, rfl, by decide +kernel, by decide +kernel⟩
def B_rest : Stm := sSeq (sSet 4 (cFn 2 F_clock (aCons (cCall fListV (aCons (cVar 3) (aNil))) (aCons (cBin gIx (cVar 2) (cK (.int 0))) (aNil))))) (sSeq (sSet 5 (cFld 0 23 (cBin gIx (cVar 4) (cK (.int 0))))) (sSeq (sSet 6 (cBin gIx (cVar 4) (cK (.int 1)))) (sSeq (sIf (tOrB (tOf (cBin gIsNot (cFn 2 F__law_doubt (aCons (cVar 5) (aCons (cVar 6) (aNil)))) (cK .non))) (tOf (cBin gIsNot (cFn 2 F_first_doubt (aCons (cBin gIx (cVar 4) (cK (.int 0))) (aCons (cVar 6) (aNil)))) (cK .non)))) (sRet (cK (.bl false))) (sNil)) (sSeq (sSet 7 (cFn 3 F__law_carried (aCons (cVar 5) (aCons (cBin gAdd (cBin gIx (cVar 2) (cK (.int 0))) (cK (.int 1))) (aCons (cVar 6) (aNil)))))) (sSeq (sIf (tOrB (tNotB (tOf (cFn 2 F__law_same_rule (aCons (cFn 2 F_rule_of (aCons (cBin gIx (cVar 4) (cK (.int 0))) (aCons (cVar 6) (aNil)))) (aCons (cVar 7) (aNil)))))) (tOf (cBin gNe (cBin gIx (cFn 2 F_grow (aCons (cBin gIx (cVar 4) (cK (.int 0))) (aCons (cVar 7) (aNil)))) (cK (.int 0))) (cK (.str 20))))) (sRet (cK (.bl false))) (sNil)) (sSeq (sSet 8 (cFn 1 F__law_profiles (aCons (cVar 5) (aNil)))) (sSeq (sFor (iR1 (cCall fLen (aCons (cVar 8) (aNil)))) (tgN 9) (sIf (tNotB (tOf (cFn 3 F__law_sold (aCons (cVar 3) (aCons (cBin gIx (cVar 8) (cVar 9)) (aCons (cBin gIx (cVar 7) (cVar 9)) (aNil))))))) (sRet (cK (.bl false))) (sNil))) (sRet (cFn 2 F__law_truthful (aCons (cVar 5) (aCons (cVar 7) (aNil))))))))))))
def S_law2 (ρ : Rho) : Stm := sSet 2 (cBin gIx (cCel (aCons (cTup (aCons (cK (.int 1)) (aCons (cK (.int 1)) (aNil)))) (aCons (cTup (aCons (cK (.int 1)) (aCons (cK (.int 4)) (aNil)))) (aCons (cTup (aCons (cK (.int 2)) (aCons (cK (.int 1)) (aNil)))) (aCons (cTup (aCons (cK (.int 2)) (aCons (cK (.int 2)) (aNil)))) (aCons (cTup (aCons (cK (.int 2)) (aCons (cK (.int 3)) (aNil)))) (aCons (cTup (aCons (cK (.int 2)) (aCons (cK (.int 4)) (aNil)))) (aCons (cTup (aCons (cK (.int 3)) (aCons (cK (.int 1)) (aNil)))) (aCons (cTup (aCons (cK (.int 3)) (aCons (cK (.int 2)) (aNil)))) (aCons (cTup (aCons (cK (.int 1)) (aCons (cK (.int 3)) (aNil)))) (aNil))))))))))) (cFn 2 F__law_draw (aCons (cVar 1) (aCons (cK (.int 9)) (aNil)))))
def S_law3 (ρ : Rho) : Stm := sSet 3 (cFn 2 (G_values ρ) (aCons (cVar 1) (aCons (cBin gIx (cVar 2) (cK (.int 1))) (aNil))))
def B_law (ρ : Rho) : Stm := sSeq (S_law2 ρ) (sSeq (S_law3 ρ) (sFg [0, 1] 2 B_rest))
theorem b_law {f : Addr} (h__law_draw : Callee (ct ρ K cl) P w K mg base 1 "_law_draw" 2 F__law_draw) (h__law_values : Callee (ct ρ K cl) P w K mg base 5 "_law_values" 2 (G_values ρ)) (m_list : mg "list" = none) (h_clock : Callee (ct ρ K cl) P w K mg base 43 "clock" 2 F_clock) (cls0 : Cls K (cl 0)) (no23 : NoAttr K (cl 0) (tbl 23)) (h__law_doubt : Callee (ct ρ K cl) P w K mg base 5 "_law_doubt" 2 F__law_doubt) (h_first_doubt : Callee (ct ρ K cl) P w K mg base 7 "first_doubt" 2 F_first_doubt) (h__law_carried : Callee (ct ρ K cl) P w K mg base 2 "_law_carried" 3 F__law_carried) (h_rule_of : Callee (ct ρ K cl) P w K mg base 5 "rule_of" 2 F_rule_of) (h__law_same_rule : Callee (ct ρ K cl) P w K mg base 7 "_law_same_rule" 2 F__law_same_rule) (h_grow : Callee (ct ρ K cl) P w K mg base 50 "grow" 2 F_grow) (h__law_profiles : Callee (ct ρ K cl) P w K mg base 1 "_law_profiles" 1 F__law_profiles) (m_len : mg "len" = none) (m_range : mg "range" = none) (h__law_sold : Callee (ct ρ K cl) P w K mg base 2 "_law_sold" 3 F__law_sold) (h__law_truthful : Callee (ct ρ K cl) P w K mg base 7 "_law_truthful" 2 F__law_truthful) (cdv : Value) (A : Around) (outer : List Env) (s : Shared) (H : Hp) (E : XK) (hr : Room 50 (A.deeper (envOfC "law" (defScope s_law) s.heap.objs.size f cdv))) : PSs (cxOf CX0 P w K mg base N_law "law" (defScope s_law) f cdv A outer s H E).nox ((defBody s_law).drop 1) (evS (ct ρ K cl) (B_law ρ)) :=
  rs_cons (s_set (ps_set (i := 2) sc_law.nd rfl (by first | exact .inl rfl | exact .inr rfl) (r_ix o_ix (r_cel (ra_cons (r_tup (ra_cons (r_int) (ra_cons (r_int) (ra_nil)))) (ra_cons (r_tup (ra_cons (r_int) (ra_cons (r_int) (ra_nil)))) (ra_cons (r_tup (ra_cons (r_int) (ra_cons (r_int) (ra_nil)))) (ra_cons (r_tup (ra_cons (r_int) (ra_cons (r_int) (ra_nil)))) (ra_cons (r_tup (ra_cons (r_int) (ra_cons (r_int) (ra_nil)))) (ra_cons (r_tup (ra_cons (r_int) (ra_cons (r_int) (ra_nil)))) (ra_cons (r_tup (ra_cons (r_int) (ra_cons (r_int) (ra_nil)))) (ra_cons (r_tup (ra_cons (r_int) (ra_cons (r_int) (ra_nil)))) (ra_cons (r_tup (ra_cons (r_int) (ra_cons (r_int) (ra_nil)))) (ra_nil))))))))))) (r_call h__law_draw (Room.mono hr (by decide)) (ra_cons (r_var 1 (pv 1)) (ra_cons (r_int) (ra_nil))))))) (rs_cons (s_set (ps_set (i := 3) sc_law.nd rfl (by first | exact .inl rfl | exact .inr rfl) (r_call h__law_values (Room.mono hr (by decide)) (ra_cons (r_var 1 (pv 1)) (ra_cons (r_ix o_ix (r_var 2 (pv 2)) (r_int)) (ra_nil)))))) (rs_fg (rs_cons (s_set (ps_set (i := 4) sc_law.nd rfl (by first | exact .inl rfl | exact .inr rfl) (r_call h_clock (Room.mono hr (by decide)) (ra_cons (r_callTy k_listV m_list boot_list (ra_cons (r_var 3 (pv 3)) (ra_nil))) (ra_cons (r_ix o_ix (r_var 2 (pv 2)) (r_int)) (ra_nil)))))) (rs_cons (s_set (ps_set (i := 5) sc_law.nd rfl (by first | exact .inl rfl | exact .inr rfl) (r_fld 0 23 (r_ix o_ix (r_var 4 (pv 4)) (r_int)) cls0 no23))) (rs_cons (s_set (ps_set (i := 6) sc_law.nd rfl (by first | exact .inl rfl | exact .inr rfl) (r_ix o_ix (r_var 4 (pv 4)) (r_int)))) (rs_cons (s_if (PW.pt (rw_or (rt_cmp o_isNot (r_call h__law_doubt (Room.mono hr (by decide)) (ra_cons (r_var 5 (pv 5)) (ra_cons (r_var 6 (pv 6)) (ra_nil)))) (r_non)) (rw_or1 (rt_cmp o_isNot (r_call h_first_doubt (Room.mono hr (by decide)) (ra_cons (r_ix o_ix (r_var 4 (pv 4)) (r_int)) (ra_cons (r_var 6 (pv 6)) (ra_nil)))) (r_non))))) (rs_one (s_ret (r_bl))) (rs_nil)) (rs_cons (s_set (ps_set (i := 7) sc_law.nd rfl (by first | exact .inl rfl | exact .inr rfl) (r_call h__law_carried (Room.mono hr (by decide)) (ra_cons (r_var 5 (pv 5)) (ra_cons (r_op o_add (r_ix o_ix (r_var 2 (pv 2)) (r_int)) (r_int)) (ra_cons (r_var 6 (pv 6)) (ra_nil))))))) (rs_cons (s_if (PW.pt (rw_or (rt_not (rt_val (r_call h__law_same_rule (Room.mono hr (by decide)) (ra_cons (r_call h_rule_of (Room.mono hr (by decide)) (ra_cons (r_ix o_ix (r_var 4 (pv 4)) (r_int)) (ra_cons (r_var 6 (pv 6)) (ra_nil)))) (ra_cons (r_var 7 (pv 7)) (ra_nil)))))) (rw_or1 (rt_cmp (o_ne ok hr.units) (r_ix o_ix (r_call h_grow (Room.mono hr (by decide)) (ra_cons (r_ix o_ix (r_var 4 (pv 4)) (r_int)) (ra_cons (r_var 7 (pv 7)) (ra_nil)))) (r_int)) (r_str 20))))) (rs_one (s_ret (r_bl))) (rs_nil)) (rs_cons (s_set (ps_set (i := 8) sc_law.nd rfl (by first | exact .inl rfl | exact .inr rfl) (r_call h__law_profiles (Room.mono hr (by decide)) (ra_cons (r_var 5 (pv 5)) (ra_nil))))) (rs_cons (s_for (i_range1 m_range (r_callB k_len m_len boot_len (ra_cons (r_var 8 (pv 8)) (ra_nil)))) (g_name (pg_name (i := 9) sc_law.nd rfl (by first | exact .inl rfl | exact .inr rfl))) (rs_one (s_if (rt_not (rt_val (r_call h__law_sold (Room.mono hr (by decide)) (ra_cons (r_var 3 (pv 3)) (ra_cons (r_ix o_ix (r_var 8 (pv 8)) (r_var 9 (pv 9))) (ra_cons (r_ix o_ix (r_var 7 (pv 7)) (r_var 9 (pv 9))) (ra_nil))))))) (rs_one (s_ret (r_bl))) (rs_nil)))) (rs_one (s_ret (r_call h__law_truthful (Room.mono hr (by decide)) (ra_cons (r_var 5 (pv 5)) (ra_cons (r_var 7 (pv 7)) (ra_nil))))))))))))))))
end
end U
end
noncomputable section
namespace U
open PySem PySem.Spec
open PyProof.Rows L2
/-! ## the nine shapes -/
def sl1 (n k : Nat) : Sl := [.und, .und, .tup [.int (.ofNat n), .int (.ofNat k)], .cell 2, .und, .und, .und, .und, .und, .und]
def cs1 (k : Nat) : CS := ⟨3, [(2, .lst false (bases 0 k))]⟩
def isT (r : Ro) : Bool := match r with
  | .rt a _ => (match a with
    | .bl b => b
    | _ => false)
  | _ => false
theorem isT_ok {r : Ro} (h : isT r = true) : ∃ cs, r = .rt (.bl true) cs := by
  unfold isT at h
  split at h
  · split at h
    · rename_i b
      cases b with
      | true => exact ⟨_, rfl⟩
      | false => cases h
    · cases h
  · cases h
theorem t11 : isT (B_rest (sl1 1 1) (cs1 1)) = true := by decide +kernel
theorem t14 : isT (B_rest (sl1 1 4) (cs1 4)) = true := by decide +kernel
theorem t21 : isT (B_rest (sl1 2 1) (cs1 1)) = true := by decide +kernel
theorem t22 : isT (B_rest (sl1 2 2) (cs1 2)) = true := by decide +kernel
theorem t23 : isT (B_rest (sl1 2 3) (cs1 3)) = true := by decide +kernel
theorem t24 : isT (B_rest (sl1 2 4) (cs1 4)) = true := by decide +kernel
theorem t31 : isT (B_rest (sl1 3 1) (cs1 1)) = true := by decide +kernel
theorem t32 : isT (B_rest (sl1 3 2) (cs1 2)) = true := by decide +kernel
theorem t13 : isT (B_rest (sl1 1 3) (cs1 3)) = true := by decide +kernel
/-! ## the law's run -/
def pairs : List AV := [.tup [.int 1, .int 1], .tup [.int 1, .int 4], .tup [.int 2, .int 1], .tup [.int 2, .int 2], .tup [.int 2, .int 3], .tup [.int 2, .int 4], .tup [.int 3, .int 1], .tup [.int 3, .int 2], .tup [.int 1, .int 3]]
theorem pick {r : Int} (h0 : 0 ≤ r) (h9 : r < 9) : ∃ n k : Nat, getS pairs r.toNat = .tup [.int (Int.ofNat n), .int (Int.ofNat k)] ∧ (k = 1 ∨ k = 2 ∨ k = 3 ∨ k = 4) ∧ isT (B_rest (sl1 n k) (cs1 k)) = true := by
  obtain ⟨
        m, rfl⟩ := Int.eq_ofNat_of_zero_le h0
  have hm : m < 9 := by omega
  match m, hm with
  | 0, _ => exact ⟨1, 1, rfl, by omega, t11⟩
  | 1, _ => exact ⟨1, 4, rfl, by omega, t14⟩
  | 2, _ => exact ⟨2, 1, rfl, by omega, t21⟩
  | 3, _ => exact ⟨2, 2, rfl, by omega, t22⟩
  | 4, _ => exact ⟨2, 3, rfl, by omega, t23⟩
  | 5, _ => exact ⟨2, 4, rfl, by omega, t24⟩
  | 6, _ => exact ⟨3, 1, rfl, by omega, t31⟩
  | 7, _ => exact ⟨3, 2, rfl, by omega, t32⟩
  | 8, _ => exact ⟨1, 3, rfl, by omega, t13⟩
theorem rawB_len (ρ : Rho) : ∀ n i, (rawB ρ i n).length = n
  | 0, _ => rfl
  | n + 1, i => congrArg Nat.succ (rawB_len ρ n (i + 1))
theorem law_run (ns : List Int) : ∃ ρ : Rho, ρ.Ok ∧ ∃ cs, B_law ρ [.und, .cell 0, .und, .und, .und, .und, .und, .und, .und, .und] ⟨1, [(0, deckC ns 0 0 7)]⟩ = .rt (.bl true) cs := by
  let L : AV := .und
  let cA : CS := ⟨1, [(0, deckC ns 0 0 7)]⟩
  let cB : CS := ⟨2, (1, .lst false pairs) :: cA.l⟩
  have gB0 : cB.get 0 = some (deckC ns 0 0 7) := by
    show CS.find ((1, _) :: (0, _) :: []) 0 = _
    rw [find_cons, if_neg (by omega), if_neg (by omega), find_cons, if_pos rfl]
  have gB1 : cB.get 1 = some (.lst false pairs) := by
    show CS.find ((1, _) :: (0, _) :: []) 1 = _
    rw [find_cons, if_pos rfl]
  obtain ⟨r, cC, e2, r0, r9, dC, fC⟩ := draw_ex (m := 9) (by omega) (⟨0, 0, 7, gB0⟩ : Dk ns 0 cB)
  have nC : cC.n = 2 := fC.1
  have gC1 : cC.get 1 = some (.lst false pairs) := (fC.2 1 (by omega)).trans gB1
  obtain ⟨n, k, ep, hk, ht⟩ := pick r0 r9
  obtain ⟨f, cD, fo, e3, gD, nD, dD, frD⟩ := values_ex (i := 0) (cs := cC) (by omega) dC k hk
  rw [nC] at e3 gD
  have gD1 : cD.get 1 = some (.lst false pairs) := (frD 1 (by omega) (by omega)).trans gC1
  obtain ⟨j, x, y, gD0⟩ := dD
  have nD3 : cD.n = 3 := by omega
  obtain ⟨cs', et⟩ := isT_ok ht
  refine ⟨f.rho, Four.rho_ok fo, cs', ?_⟩
  have ix1 : gIx (.cell 1) (.int r) cC = .ok (.tup [.int (Int.ofNat n), .int (Int.ofNat k)]) cC := by
    obtain ⟨m, rfl⟩ := Int.eq_ofNat_of_zero_le r0
    show (match itL (.cell 1) cC with
      | some xs => okV (getS xs m) cC
      | none => (match itT (.cell 1) with
        | some xs => okV (getS xs m) cC
        | none => .err)) = _
    rw [itL_cell gC1]
    show okV (getS pairs m) cC = _
    rw [show getS pairs m = _ from ep]
    rfl
  have s2 : S_law2 f.rho [L, .cell 0, .und, .und, .und, .und, .und, .und, .und, .und] cA = .nx [L, .cell 0, .tup [.int (Int.ofNat n), .int (Int.ofNat k)], .und, .und, .und, .und, .und, .und, .und] cC := by
    have ec : (cCel (aCons (cTup (aCons (cK (.int 1)) (aCons (cK (.int 1)) (aNil)))) (aCons (cTup (aCons (cK (.int 1)) (aCons (cK (.int 4)) (aNil)))) (aCons (cTup (aCons (cK (.int 2)) (aCons (cK (.int 1)) (aNil)))) (aCons (cTup (aCons (cK (.int 2)) (aCons (cK (.int 2)) (aNil)))) (aCons (cTup (aCons (cK (.int 2)) (aCons (cK (.int 3)) (aNil)))) (aCons (cTup (aCons (cK (.int 2)) (aCons (cK (.int 4)) (aNil)))) (aCons (cTup (aCons (cK (.int 3)) (aCons (cK (.int 1)) (aNil)))) (aCons (cTup (aCons (cK (.int 3)) (aCons (cK (.int 2)) (aNil)))) (aCons (cTup (aCons (cK (.int 1)) (aCons (cK (.int 3)) (aNil)))) (aNil))))))))))) [L, .cell 0, .und, .und, .und, .und, .und, .und, .und, .und] cA = .ok (.cell 1) cB := rfl
    unfold S_law2 sSet cBin
    rw [ec]
    simp only [cFn, cCall, aCons, aNil, cVar, cK, getS_zero, getS_succ, okV_cell, ok_bind, lenN_cons, lenN_nil, Nat.zero_add, Nat.beq_refl, e2, ix1, ok_go, setS_zero, setS_succ]
  let cE : CS := cD.set 2 (.lst false (bases 0 k))
  have eG : G_values f.rho [.cell 0, .int (Int.ofNat k)] cC = .ok (.cell 2) cE := by
    have ln := rawB_len f.rho k 0
    unfold G_values
    rw [e3]
    simp only [gD]
    rw [ln, if_pos ⟨rfl, by omega⟩]
  have s3 : S_law3 f.rho [L, .cell 0, .tup [.int (Int.ofNat n), .int (Int.ofNat k)], .und, .und, .und, .und, .und, .und, .und] cC = .nx [L, .cell 0, .tup [.int (Int.ofNat n), .int (Int.ofNat k)], .cell 2, .und, .und, .und, .und, .und, .und] cE := by
    simp only [S_law3, sSet, cBin, cFn, cCall, aCons, aNil, cVar, cK, getS_zero, getS_succ, okV_cell, okV_tup, okV_int, ok_bind, lenN_cons, lenN_nil, Nat.zero_add, Nat.beq_refl, ix_tup1, eG, ok_go, setS_zero, setS_succ]
  have gE2 : cE.get 2 = some (.lst false (bases 0 k)) := get_set_same gD
  have gE1 : cE.get 1 = some (.lst false pairs) := (get_set_ne (by omega)).trans gD1
  have gE0 : cE.get 0 = some (deckC ns j x y) := (get_set_ne (by omega)).trans gD0
  have nE : cE.n = 3 := nD3
  have s4 : sFg [0, 1] 2 B_rest [L, .cell 0, .tup [.int (Int.ofNat n), .int (Int.ofNat k)], .cell 2, .und, .und, .und, .und, .und, .und] cE = .rt (.bl true) cs' := by
    have mf : mayFg 2 cE 3 = true := by
      show (match cE.get 1 with
        | some co => (match stiff co with
          | true => false
          | false => mayFg 2 cE 1)
        | none => mayFg 2 cE 1) = true
      rw [gE1]
      show (match cE.get 0 with
        | some co => (match stiff co with
          | true => false
          | false => mayFg 2 cE 0)
        | none => mayFg 2 cE 0) = true
      rw [gE0]
      rfl
    unfold sFg
    rw [nE, mf]
    simp only [gE2]
    exact et
  show B_law f.rho [L, .cell 0, .und, .und, .und, .und, .und, .und, .und, .und] cA = _
  simp only [B_law, sSeq, s2, s3, s4]
end U
end
noncomputable section
namespace U
open PySem PySem.Spec
open PyProof.Rows L2
theorem ktup_of {K : PySem.W.Frag} {a : Addr} {xs : List V} (h : SqT K (fun _ => none) a xs) : KTup K a xs := by
  rcases h with h | h
  · rcases h with h | ⟨_, h⟩ <;> cases h
  · exact h
section
variable {c : Ct} {P : Program} {w : World} {K : PySem.W.Frag} {mg : Str → Option Value} {base : Heap}
theorem callee_of {k n m : Nat} {x : Str} {params : Arguments} {body : List Stmt} {scope : Scope} {dvs : List V} {kws : List (Str × V)} {f : Addr} {fd : FuncData} {N ps : List Str} {F : Stm} (D : FunD K x x params body scope dvs kws f fd) (S : FnScope N ps scope) (hn : N.length = n) (hm : ps.length = m) (hb : Body c P w K mg base k N x f scope body F) (hg : mg x = some (.ref f)) (bi : Binds K fd ps []) : Callee c P w K mg base (k + 1) x m (fnF n F) := ⟨f, fd, ps, hm, def_ok D S hn hm hb, hg, D.kp, bi⟩
theorem callee_ofD {k n m : Nat} {x : Str} {params : Arguments} {body : List Stmt} {scope : Scope} {dvs : List V} {kws : List (Str × V)} {f : Addr} {fd : FuncData} {N ps : List Str} {F : Stm} (D : FunD K x x params body scope dvs kws f fd) (S : FnScope N ps scope) (hn : N.length = n) (hm : ps.length = m) (hb : Body c P w K mg base k N x f scope body F) (hg : mg x = some (.ref f)) (bi : Binds K fd ps []) : Callee c P w K mg base (k + 1) x m (fnD n F) := ⟨f, fd, ps, hm, def_okD D S hn hm hb, hg, D.kp, bi⟩
theorem ok_err {k m : Nat} {x qual : Str} {params : Arguments} {body : List Stmt} {scope : Scope} {dvs : List V} {kws : List (Str × V)} {f : Addr} {fd : FuncData} {N ps : List Str} (D : FunD K x qual params body scope dvs kws f fd) (S : FnScope N ps scope) (hm : ps.length = m) : FnOk P w K mg base CX0 (k + 1) f fd ps (spOf c m fun _ _ => .err) :=
  D.ok S (fun vs H Q E h => h.1.trans hm.symm) fun cdv A outer s H vs Q E hr h => by
    obtain ⟨_, W, as, r, cs', hH, w, rs, hg, fin⟩ := h
    cases hg
theorem callee_rec {m0 n m : Nat} {x : Str} {params : Arguments} {body : List Stmt} {scope : Scope} {dvs : List V} {kws : List (Str × V)} {f : Addr} {fd : FuncData} {N ps : List Str} {B : Fn → Stm} {F : Nat → Fn} (D : FunD K x x params body scope dvs kws f fd) (S : FnScope N ps scope) (hn : N.length = n) (hm : ps.length = m)
    (h0 : F 0 = fun _ _ => .err) (hs : ∀ k, F (k + 1) = fnF n (B (F k))) (hg : mg x = some (.ref f)) (bi : Binds K fd ps []) (hb : ∀ lv rec, m0 ≤ lv → Callee c P w K mg base lv x m rec → Body c P w K mg base lv N x f scope body (B rec)) : ∀ k, Callee c P w K mg base (m0 + 1 + k) x m (F k)
  | 0 => by
    rw [h0]
    exact ⟨f, fd, ps, hm, ok_err D S hm, hg, D.kp, bi⟩
  | k + 1 => by
    rw [hs]
    exact callee_of D S hn hm (hb (m0 + 1 + k) (F k) (by omega) (callee_rec D S hn hm h0 hs hg bi hb k)) hg bi
theorem callee_recD {m0 n m : Nat} {x : Str} {params : Arguments} {body : List Stmt} {scope : Scope} {dvs : List V} {kws : List (Str × V)} {f : Addr} {fd : FuncData} {N ps : List Str} {B : Fn → Stm} {F : Nat → Fn} (D : FunD K x x params body scope dvs kws f fd) (S : FnScope N ps scope) (hn : N.length = n) (hm : ps.length = m)
    (h0 : F 0 = fun _ _ => .err) (hs : ∀ k, F (k + 1) = fnD n (B (F k))) (hg : mg x = some (.ref f)) (bi : Binds K fd ps []) (hb : ∀ lv rec, m0 ≤ lv → Callee c P w K mg base lv x m rec → Body c P w K mg base lv N x f scope body (B rec)) : ∀ k, Callee c P w K mg base (m0 + 1 + k) x m (F k)
  | 0 => by
    rw [h0]
    exact ⟨f, fd, ps, hm, ok_err D S hm, hg, D.kp, bi⟩
  | k + 1 => by
    rw [hs]
    exact callee_ofD D S hn hm (hb (m0 + 1 + k) (F k) (by omega) (callee_recD D S hn hm h0 hs hg bi hb k)) hg bi
theorem mcallee_rec {m0 n m cl : Nat} {x qual : Str} {params : Arguments} {body : List Stmt} {scope : Scope} {dvs : List V} {kws : List (Str × V)} {f : Addr} {fd : FuncData} {N ps : List Str} {B : Fn → Stm} {F : Nat → Fn} (D : FunD K x qual params body scope dvs kws f fd) (S : FnScope N ps scope) (hn : N.length = n) (hm : ps.length = m)
    (h0 : F 0 = fun _ _ => .err) (hs : ∀ k, F (k + 1) = fnF n (B (F k))) (hg : Meth K (c.cl cl) x f) (bi : Binds K fd ps []) (hb : ∀ lv rec, m0 ≤ lv → MCallee c P w K mg base lv cl x m rec → Body c P w K mg base lv N qual f scope body (B rec)) : ∀ k, MCallee c P w K mg base (m0 + 1 + k) cl x m (F k)
  | 0 => by
    rw [h0]
    exact ⟨f, fd, ps, hm, ok_err D S hm, hg, bi⟩
  | k + 1 => by
    rw [hs]
    exact ⟨f, fd, ps, hm, def_ok D S hn hm (hb (m0 + 1 + k) (F k) (by omega) (mcallee_rec D S hn hm h0 hs hg bi hb k)), hg, bi⟩
/-! ### the script's deck -/
def spDeck (K : PySem.W.Frag) : Sp := fun vs H Q _ => ∃ (a : Addr) (ns : List Int), vs = [.ref a] ∧ SqL K H a (ns.map V.int) ∧ ∀ p q, H p = none → upd H p (.lst (ns.map V.int)) q = none → Q (.ref q) (upd (upd H p (.lst (ns.map V.int))) q (.lst [.ref p, .int 0, .int 0, .int 7]))
def rListOf (K : PySem.W.Frag) : List V → Hp → VK → Prop := fun xs H Q => ∃ p ys, xs = [.ref p] ∧ (SqL K H p ys ∨ SqT K H p ys) ∧ ∀ l, H l = none → Q (.ref l) (upd H l (.lst ys))
def t_deck (K : PySem.W.Frag) : TS := tRet (tLst (tCons (tCB (rListOf K) (tCons (tVar 0) tNil)) (tCons (tC (.int 0)) (tCons (tC (.int 0)) (tCons (tC (.int 7)) tNil)))))
theorem ok_deck {f : Addr} {fd : FuncData} (D : FunD K "_law_deck" "_law_deck" (defArgs s__law_deck) (defBody s__law_deck) (defScope s__law_deck) [] [] f fd) (m_list : mg "list" = none) : FnOk P w K mg base CX0 1 f fd ["_law_script"] (spDeck K) := by
  refine D.ok sc__law_deck (fun vs H Q E h => ?_) (fun cdv A outer s H vs Q E hr h => ⟨t_deck K, PSs.nox ?_, ?_⟩)
  · obtain ⟨a, ns, rfl, _⟩ := h
    rfl
  · exact pss_one (ps_ret (pe_lst (pa_cons (pe_callTy call_list_of rfl m_list boot_list (pa_cons (pv 0) pa_nil)) (pa_cons pe_int (pa_cons pe_int (pa_cons pe_int pa_nil))))))
  · obtain ⟨a, ns, rfl, hs, q⟩ := h
    exact ⟨_, rfl, a, ns.map V.int, rfl, .inl hs, fun p hp => ⟨by show 4 ≤ sizeLine; decide, fun r hr => q p r hp hr⟩⟩
/-! ### the law -/
def spLaw (
      K : PySem.W.Frag) : Sp := fun vs H Q _ => ∃ (a : Addr) (ns : List Int), vs = [.ref a] ∧ SqL K H a (ns.map V.int) ∧ ∀ H', Q (.bl true) H'
end
theorem facts {P : Program} {w : World} {K : PySem.W.Frag} {h : Heap} {mg : Str → Option Value} {f : Addr} (X : K.In h) (G : h.Ns mainGlobals mg) (hfa : mg ("law" : Str) = some (.ref f)) (c : He.SaysD faL fnL K) (cx : exU K = true) :
    ∃ fd : FuncData, (∀ (s : Shared) (v : Value), BindsTo s fd ⟨[v], []⟩ [("_law_script", v)]) ∧ ∀ base : Heap, K.In base → base.Ns mainGlobals mg → FnOk P w K mg base CX0 51 f fd ["_law_script"] (spLaw K) := by
  have m_range : mg "range" = none := He.free_ok X G (c.fact 0 (f := .free "range") rfl)
  have m_int : mg "int" = none := He.free_ok X G (c.fact 1 (f := .free "int") rfl)
  have m_abs : mg "abs" = none := He.free_ok X G (c.fact 2 (f := .free "abs") rfl)
  have m_len : mg "len" = none := He.free_ok X G (c.fact 3 (f := .free "len") rfl)
  have m_all : mg "all" = none := He.free_ok X G (c.fact 4 (f := .free "all") rfl)
  have m_list : mg "list" = none := He.free_ok X G (c.fact 5 (f := .free "list") rfl)
  have m_zip : mg "zip" = none := He.free_ok X G (c.fact 6 (f := .free "zip") rfl)
  have m_enumerate : mg "enumerate" = none := He.free_ok X G (c.fact 7 (f := .free "enumerate") rfl)
  have m_isinstance : mg "isinstance" = none := He.free_ok X G (c.fact 8 (f := .free "isinstance") rfl)
  have m_bool : mg "bool" = none := He.free_ok X G (c.fact 9 (f := .free "bool") rfl)
  have m_set : mg "set" = none := He.free_ok X G (c.fact 10 (f := .free "set") rfl)
  have m_any : mg "any" = none := He.free_ok X G (c.fact 11 (f := .free "any") rfl)
  have m_tuple : mg "tuple" = none := He.free_ok X G (c.fact 12 (f := .free "tuple") rfl)
  have m_reversed : mg "reversed" = none := He.free_ok X G (c.fact 13 (f := .free "reversed") rfl)
  have m_str : mg "str" = none := He.free_ok X G (c.fact 14 (f := .free "str") rfl)
  have m_min : mg "min" = none := He.free_ok X G (c.fact 15 (f := .free "min") rfl)
  have m_max : mg "max" = none := He.free_ok X G (c.fact 16 (f := .free "max") rfl)
  have g_make : mg "make" = some (.ref (He.ga K "make")) := He.glo_ok X G (c.fact 17 (f := .glo "make") rfl)
  have g__law_gcd : mg "_law_gcd" = some (.ref (He.ga K "_law_gcd")) := He.glo_ok X G (c.fact 18 (f := .glo "_law_gcd") rfl)
  have g__law_ratio : mg "_law_ratio" = some (.ref (He.ga K "_law_ratio")) := He.glo_ok X G (c.fact 19 (f := .glo "_law_ratio") rfl)
  have g_negate : mg "negate" = some (.ref (He.ga K "negate")) := He.glo_ok X G (c.fact 20 (f := .glo "negate") rfl)
  have g_add : mg "add" = some (.ref (He.ga K "add")) := He.glo_ok X G (c.fact 21 (f := .glo "add") rfl)
  have g_subtract : mg "subtract" = some (.ref (He.ga K "subtract")) := He.glo_ok X G (c.fact 22 (f := .glo "subtract") rfl)
  have g_multiply : mg "multiply" = some (.ref (He.ga K "multiply")) := He.glo_ok X G (c.fact 23 (f := .glo "multiply") rfl)
  have g_compare : mg "compare" = some (.ref (He.ga K "compare")) := He.glo_ok X G (c.fact 24 (f := .glo "compare") rfl)
  have g_is_name : mg "is_name" = some (.ref (He.ga K "is_name")) := He.glo_ok X G (c.fact 25 (f := .glo "is_name") rfl)
  have g__law_add : mg "_law_add" = some (.ref (He.ga K "_law_add")) := He.glo_ok X G (c.fact 26 (f := .glo "_law_add") rfl)
  have g__law_times : mg "_law_times" = some (.ref (He.ga K "_law_times")) := He.glo_ok X G (c.fact 27 (f := .glo "_law_times") rfl)
  have g__law_minus : mg "_law_minus" = some (.ref (He.ga K "_law_minus")) := He.glo_ok X G (c.fact 28 (f := .glo "_law_minus") rfl)
  have g__law_order : mg "_law_order" = some (.ref (He.ga K "_law_order")) := He.glo_ok X G (c.fact 29 (f := .glo "_law_order") rfl)
  have g__law_deck : mg "_law_deck" = some (.ref (He.ga K "_law_deck")) := He.glo_ok X G (c.fact 30 (f := .glo "_law_deck") rfl)
  have g__law_draw : mg "_law_draw" = some (.ref (He.ga K "_law_draw")) := He.glo_ok X G (c.fact 31 (f := .glo "_law_draw") rfl)
  have g__law_small : mg "_law_small" = some (.ref (He.ga K "_law_small")) := He.glo_ok X G (c.fact 32 (f := .glo "_law_small") rfl)
  have g__law_values : mg "_law_values" = some (.ref (He.ga K "_law_values")) := He.glo_ok X G (c.fact 33 (f := .glo "_law_values") rfl)
  have g_sign : mg "sign" = some (.ref (He.ga K "sign")) := He.glo_ok X G (c.fact 34 (f := .glo "sign") rfl)
  have g_total : mg "total" = some (.ref (He.ga K "total")) := He.glo_ok X G (c.fact 35 (f := .glo "total") rfl)
  have g_dot : mg "dot" = some (.ref (He.ga K "dot")) := He.glo_ok X G (c.fact 36 (f := .glo "dot") rfl)
  have g_least_index : mg "least_index" = some (.ref (He.ga K "least_index")) := He.glo_ok X G (c.fact 37 (f := .glo "least_index") rfl)
  have g_greatest_index : mg "greatest_index" = some (.ref (He.ga K "greatest_index")) := He.glo_ok X G (c.fact 38 (f := .glo "greatest_index") rfl)
  have g_is_integer : mg "is_integer" = some (.ref (He.ga K "is_integer")) := He.glo_ok X G (c.fact 39 (f := .glo "is_integer") rfl)
  have g_is_index : mg "is_index" = some (.ref (He.ga K "is_index")) := He.glo_ok X G (c.fact 40 (f := .glo "is_index") rfl)
  have g_are_names : mg "are_names" = some (.ref (He.ga K "are_names")) := He.glo_ok X G (c.fact 41 (f := .glo "are_names") rfl)
  have g_is_need : mg "is_need" = some (.ref (He.ga K "is_need")) := He.glo_ok X G (c.fact 42 (f := .glo "is_need") rfl)
  have g_is_excluded : mg "is_excluded" = some (.ref (He.ga K "is_excluded")) := He.glo_ok X G (c.fact 43 (f := .glo "is_excluded") rfl)
  have g_check_limits : mg "check_limits" = some (.ref (He.ga K "check_limits")) := He.glo_ok X G (c.fact 44 (f := .glo "check_limits") rfl)
  have g_check_game : mg "check_game" = some (.ref (He.ga K "check_game")) := He.glo_ok X G (c.fact 45 (f := .glo "check_game") rfl)
  have g_copied_kinds : mg "copied_kinds" = some (.ref (He.ga K "copied_kinds")) := He.glo_ok X G (c.fact 46 (f := .glo "copied_kinds") rfl)
  have g_copied_need : mg "copied_need" = some (.ref (He.ga K "copied_need")) := He.glo_ok X G (c.fact 47 (f := .glo "copied_need") rfl)
  have g_profiles : mg "profiles" = some (.ref (He.ga K "profiles")) := He.glo_ok X G (c.fact 48 (f := .glo "profiles") rfl)
  have g_profile_number : mg "profile_number" = some (.ref (He.ga K "profile_number")) := He.glo_ok X G (c.fact 49 (f := .glo "profile_number") rfl)
  have g_check : mg "check" = some (.ref (He.ga K "check")) := He.glo_ok X G (c.fact 50 (f := .glo "check") rfl)
  have g_clock_game : mg "clock_game" = some (.ref (He.ga K "clock_game")) := He.glo_ok X G (c.fact 51 (f := .glo "clock_game") rfl)
  have g_sold : mg "sold" = some (.ref (He.ga K "sold")) := He.glo_ok X G (c.fact 52 (f := .glo "sold") rfl)
  have g_clock : mg "clock" = some (.ref (He.ga K "clock")) := He.glo_ok X G (c.fact 53 (f := .glo "clock") rfl)
  have g_has : mg "has" = some (.ref (He.ga K "has")) := He.glo_ok X G (c.fact 54 (f := .glo "has") rfl)
  have g_is_question : mg "is_question" = some (.ref (He.ga K "is_question")) := He.glo_ok X G (c.fact 55 (f := .glo "is_question") rfl)
  have g_has_parents : mg "has_parents" = some (.ref (He.ga K "has_parents")) := He.glo_ok X G (c.fact 56 (f := .glo "has_parents") rfl)
  have g_is_part : mg "is_part" = some (.ref (He.ga K "is_part")) := He.glo_ok X G (c.fact 57 (f := .glo "is_part") rfl)
  have g_split_box : mg "split_box" = some (.ref (He.ga K "split_box")) := He.glo_ok X G (c.fact 58 (f := .glo "split_box") rfl)
  have g_whole_box : mg "whole_box" = some (.ref (He.ga K "whole_box")) := He.glo_ok X G (c.fact 59 (f := .glo "whole_box") rfl)
  have g_is_end : mg "is_end" = some (.ref (He.ga K "is_end")) := He.glo_ok X G (c.fact 60 (f := .glo "is_end") rfl)
  have g_boxes_or_none : mg "boxes_or_none" = some (.ref (He.ga K "boxes_or_none")) := He.glo_ok X G (c.fact 61 (f := .glo "boxes_or_none") rfl)
  have g_boxes : mg "boxes" = some (.ref (He.ga K "boxes")) := He.glo_ok X G (c.fact 62 (f := .glo "boxes") rfl)
  have g_path_of : mg "path_of" = some (.ref (He.ga K "path_of")) := He.glo_ok X G (c.fact 63 (f := .glo "path_of") rfl)
  have g_rule_of : mg "rule_of" = some (.ref (He.ga K "rule_of")) := He.glo_ok X G (c.fact 64 (f := .glo "rule_of") rfl)
  have g_brings : mg "brings" = some (.ref (He.ga K "brings")) := He.glo_ok X G (c.fact 65 (f := .glo "brings") rfl)
  have g_ends_below : mg "ends_below" = some (.ref (He.ga K "ends_below")) := He.glo_ok X G (c.fact 66 (f := .glo "ends_below") rfl)
  have g_worst_and_best : mg "worst_and_best" = some (.ref (He.ga K "worst_and_best")) := He.glo_ok X G (c.fact 67 (f := .glo "worst_and_best") rfl)
  have g_first_doubt : mg "first_doubt" = some (.ref (He.ga K "first_doubt")) := He.glo_ok X G (c.fact 68 (f := .glo "first_doubt") rfl)
  have g_is_plain : mg "is_plain" = some (.ref (He.ga K "is_plain")) := He.glo_ok X G (c.fact 69 (f := .glo "is_plain") rfl)
  have g_in_box : mg "in_box" = some (.ref (He.ga K "in_box")) := He.glo_ok X G (c.fact 70 (f := .glo "in_box") rfl)
  have g_is_constant : mg "is_constant" = some (.ref (He.ga K "is_constant")) := He.glo_ok X G (c.fact 71 (f := .glo "is_constant") rfl)
  have g_allowed : mg "allowed" = some (.ref (He.ga K "allowed")) := He.glo_ok X G (c.fact 72 (f := .glo "allowed") rfl)
  have g_parts_of : mg "parts_of" = some (.ref (He.ga K "parts_of")) := He.glo_ok X G (c.fact 73 (f := .glo "parts_of") rfl)
  have g_first_split : mg "first_split" = some (.ref (He.ga K "first_split")) := He.glo_ok X G (c.fact 74 (f := .glo "first_split") rfl)
  have g_grow_below : mg "grow_below" = some (.ref (He.ga K "grow_below")) := He.glo_ok X G (c.fact 75 (f := .glo "grow_below") rfl)
  have g_grow : mg "grow" = some (.ref (He.ga K "grow")) := He.glo_ok X G (c.fact 76 (f := .glo "grow") rfl)
  have g__law_same : mg "_law_same" = some (.ref (He.ga K "_law_same")) := He.glo_ok X G (c.fact 77 (f := .glo "_law_same") rfl)
  have g__law_same_list : mg "_law_same_list" = some (.ref (He.ga K "_law_same_list")) := He.glo_ok X G (c.fact 78 (f := .glo "_law_same_list") rfl)
  have g__law_total : mg "_law_total" = some (.ref (He.ga K "_law_total")) := He.glo_ok X G (c.fact 79 (f := .glo "_law_total") rfl)
  have g__law_dot : mg "_law_dot" = some (.ref (He.ga K "_law_dot")) := He.glo_ok X G (c.fact 80 (f := .glo "_law_dot") rfl)
  have g__law_profiles : mg "_law_profiles" = some (.ref (He.ga K "_law_profiles")) := He.glo_ok X G (c.fact 81 (f := .glo "_law_profiles") rfl)
  have g__law_with : mg "_law_with" = some (.ref (He.ga K "_law_with")) := He.glo_ok X G (c.fact 82 (f := .glo "_law_with") rfl)
  have g__law_has : mg "_law_has" = some (.ref (He.ga K "_law_has")) := He.glo_ok X G (c.fact 83 (f := .glo "_law_has") rfl)
  have g__law_truthful : mg "_law_truthful" = some (.ref (He.ga K "_law_truthful")) := He.glo_ok X G (c.fact 84 (f := .glo "_law_truthful") rfl)
  have g__law_same_rule : mg "_law_same_rule" = some (.ref (He.ga K "_law_same_rule")) := He.glo_ok X G (c.fact 85 (f := .glo "_law_same_rule") rfl)
  have g__law_boxes : mg "_law_boxes" = some (.ref (He.ga K "_law_boxes")) := He.glo_ok X G (c.fact 86 (f := .glo "_law_boxes") rfl)
  have g__law_path : mg "_law_path" = some (.ref (He.ga K "_law_path")) := He.glo_ok X G (c.fact 87 (f := .glo "_law_path") rfl)
  have g__law_carried : mg "_law_carried" = some (.ref (He.ga K "_law_carried")) := He.glo_ok X G (c.fact 88 (f := .glo "_law_carried") rfl)
  have g__law_ends : mg "_law_ends" = some (.ref (He.ga K "_law_ends")) := He.glo_ok X G (c.fact 89 (f := .glo "_law_ends") rfl)
  have g__law_extreme : mg "_law_extreme" = some (.ref (He.ga K "_law_extreme")) := He.glo_ok X G (c.fact 90 (f := .glo "_law_extreme") rfl)
  have g__law_doubt : mg "_law_doubt" = some (.ref (He.ga K "_law_doubt")) := He.glo_ok X G (c.fact 91 (f := .glo "_law_doubt") rfl)
  have g__law_sold : mg "_law_sold" = some (.ref (He.ga K "_law_sold")) := He.glo_ok X G (c.fact 92 (f := .glo "_law_sold") rfl)
  have e_law := hfa.symm.trans (He.glo_ok X G (c.fact 93 (f := .glo "law") rfl))
  cases e_law
  have gC0 : mg "Game" = some (.ref (He.ga K "Game")) := He.glo_ok X G (c.fact 94 (f := .glo "Game") rfl)
  have gC1 : mg "Clock" = some (.ref (He.ga K "Clock")) := He.glo_ok X G (c.fact 95 (f := .glo "Clock") rfl)
  let cl : Nat → Addr := fun k => match k with
    | 0 => He.ga K "Game"
    | _ => He.ga K "Clock"
  have cls0 : Cls K (cl 0) := He.cls_ok (x := "Game") (c.fact 109 (f := .cls "Game") rfl)
  have mk0 : Mk K (cl 0) (He.ma K (He.ga K "Game") "__init__") := He.mkr_ok (x := "Game") (c.fact 111 (f := .mkr "Game") rfl)
  have cls1 : Cls K (cl 1) := He.cls_ok (x := "Clock") (c.fact 110 (f := .cls "Clock") rfl)
  have mk1 : Mk K (cl 1) (He.ma K (He.ga K "Clock") "__init__") := He.mkr_ok (x := "Clock") (c.fact 112 (f := .mkr "Clock") rfl)
  have mgrow : Meth K (cl 1) "grow" (He.ma K (He.ga K "Clock") "grow") := He.meth_ok (x := "Clock") (m := "grow") (c.fact 113 (f := .meth "Clock" "grow") rfl)
  have no23 : NoAttr K (cl 0) (tbl 23) := He.noat_ok (x := "Game") (f := "agents") (c.fact 114 (f := .noat "Game" "agents") rfl)
  have no24 : NoAttr K (cl 0) (tbl 24) := He.noat_ok (x := "Game") (f := "outcomes") (c.fact 115 (f := .noat "Game" "outcomes") rfl)
  have no25 : NoAttr K (cl 0) (tbl 25) := He.noat_ok (x := "Game") (f := "aim") (c.fact 116 (f := .noat "Game" "aim") rfl)
  have no26 : NoAttr K (cl 0) (tbl 26) := He.noat_ok (x := "Game") (f := "payments") (c.fact 117 (f := .noat "Game" "payments") rfl)
  have no27 : NoAttr K (cl 0) (tbl 27) := He.noat_ok (x := "Game") (f := "lots") (c.fact 118 (f := .noat "Game" "lots") rfl)
  have no28 : NoAttr K (cl 0) (tbl 28) := He.noat_ok (x := "Game") (f := "needs") (c.fact 119 (f := .noat "Game" "needs") rfl)
  have no21 : NoAttr K (cl 1) (tbl 21) := He.noat_ok (x := "Clock") (f := "price") (c.fact 120 (f := .noat "Clock" "price") rfl)
  have no22 : NoAttr K (cl 1) (tbl 22) := He.noat_ok (x := "Clock") (f := "bidders") (c.fact 121 (f := .noat "Clock" "bidders") rfl)
  have no20 : NoAttr K (cl 1) (tbl 20) := He.noat_ok (x := "Clock") (f := "tree") (c.fact 122 (f := .noat "Clock" "tree") rfl)
  obtain ⟨x_gcd, cx⟩ := He.ba cx
  obtain ⟨x_ZERO, cx⟩ := He.ba cx
  obtain ⟨x_ONE, cx⟩ := He.ba cx
  obtain ⟨x_AIMS, cx⟩ := He.ba cx
  obtain ⟨x_BIDDERS, cx⟩ := He.ba cx
  have x_KINDS := cx
  have g_gcd : mg "gcd" = some (.builtin "math.gcd") := PySem.W.mg_of X G (He.eqO_ok x_gcd)
  obtain ⟨fd_make, D_make⟩ := c.def_ 0 (d := d_make) rfl
  obtain ⟨fd__law_gcd, D__law_gcd⟩ := c.def_ 1 (d := d__law_gcd) rfl
  obtain ⟨fd__law_ratio, D__law_ratio⟩ := c.def_ 2 (d := d__law_ratio) rfl
  obtain ⟨fd_negate, D_negate⟩ := c.def_ 3 (d := d_negate) rfl
  obtain ⟨fd_add, D_add⟩ := c.def_ 4 (d := d_add) rfl
  obtain ⟨fd_subtract, D_subtract⟩ := c.def_ 5 (d := d_subtract) rfl
  obtain ⟨fd_multiply, D_multiply⟩ := c.def_ 6 (d := d_multiply) rfl
  obtain ⟨fd_compare, D_compare⟩ := c.def_ 7 (d := d_compare) rfl
  obtain ⟨fd_is_name, D_is_name⟩ := c.def_ 8 (d := d_is_name) rfl
  obtain ⟨fd__law_add, D__law_add⟩ := c.def_ 9 (d := d__law_add) rfl
  obtain ⟨fd__law_times, D__law_times⟩ := c.def_ 10 (d := d__law_times) rfl
  obtain ⟨fd__law_minus, D__law_minus⟩ := c.def_ 11 (d := d__law_minus) rfl
  obtain ⟨fd__law_order, D__law_order⟩ := c.def_ 12 (d := d__law_order) rfl
  obtain ⟨fd__law_deck, D__law_deck⟩ := c.def_ 13 (d := d__law_deck) rfl
  obtain ⟨fd__law_draw, D__law_draw⟩ := c.def_ 14 (d := d__law_draw) rfl
  obtain ⟨fd__law_small, D__law_small⟩ := c.def_ 15 (d := d__law_small) rfl
  obtain ⟨fd__law_values, D__law_values⟩ := c.def_ 16 (d := d__law_values) rfl
  obtain ⟨fd_sign, D_sign⟩ := c.def_ 17 (d := d_sign) rfl
  obtain ⟨fd_total, D_total⟩ := c.def_ 18 (d := d_total) rfl
  obtain ⟨fd_dot, D_dot⟩ := c.def_ 19 (d := d_dot) rfl
  obtain ⟨fd_least_index, D_least_index⟩ := c.def_ 20 (d := d_least_index) rfl
  obtain ⟨fd_greatest_index, D_greatest_index⟩ := c.def_ 21 (d := d_greatest_index) rfl
  obtain ⟨fd_is_integer, D_is_integer⟩ := c.def_ 22 (d := d_is_integer) rfl
  obtain ⟨fd_is_index, D_is_index⟩ := c.def_ 23 (d := d_is_index) rfl
  obtain ⟨fd_are_names, D_are_names⟩ := c.def_ 24 (d := d_are_names) rfl
  obtain ⟨fd_is_need, D_is_need⟩ := c.def_ 25 (d := d_is_need) rfl
  obtain ⟨fd_is_excluded, D_is_excluded⟩ := c.def_ 26 (d := d_is_excluded) rfl
  obtain ⟨fd_check_limits, D_check_limits⟩ := c.def_ 27 (d := d_check_limits) rfl
  obtain ⟨fd_check_game, D_check_game⟩ := c.def_ 28 (d := d_check_game) rfl
  obtain ⟨fd_copied_kinds, D_copied_kinds⟩ := c.def_ 29 (d := d_copied_kinds) rfl
  obtain ⟨fd_copied_need, D_copied_need⟩ := c.def_ 30 (d := d_copied_need) rfl
  obtain ⟨fd_Game___init__, D_Game___init__⟩ := c.def_ 31 (d := d_Game___init__) rfl
  obtain ⟨fd_profiles, D_profiles⟩ := c.def_ 32 (d := d_profiles) rfl
  obtain ⟨fd_profile_number, D_profile_number⟩ := c.def_ 33 (d := d_profile_number) rfl
  obtain ⟨fd_check, D_check⟩ := c.def_ 34 (d := d_check) rfl
  obtain ⟨fd_clock_game, D_clock_game⟩ := c.def_ 35 (d := d_clock_game) rfl
  obtain ⟨fd_sold, D_sold⟩ := c.def_ 36 (d := d_sold) rfl
  obtain ⟨fd_Clock___init__, D_Clock___init__⟩ := c.def_ 37 (d := d_Clock___init__) rfl
  obtain ⟨fd_Clock_grow, D_Clock_grow⟩ := c.def_ 38 (d := d_Clock_grow) rfl
  obtain ⟨fd_clock, D_clock⟩ := c.def_ 39 (d := d_clock) rfl
  obtain ⟨fd_has, D_has⟩ := c.def_ 40 (d := d_has) rfl
  obtain ⟨fd_is_question, D_is_question⟩ := c.def_ 41 (d := d_is_question) rfl
  obtain ⟨fd_has_parents, D_has_parents⟩ := c.def_ 42 (d := d_has_parents) rfl
  obtain ⟨fd_is_part, D_is_part⟩ := c.def_ 43 (d := d_is_part) rfl
  obtain ⟨fd_split_box, D_split_box⟩ := c.def_ 44 (d := d_split_box) rfl
  obtain ⟨fd_whole_box, D_whole_box⟩ := c.def_ 45 (d := d_whole_box) rfl
  obtain ⟨fd_is_end, D_is_end⟩ := c.def_ 46 (d := d_is_end) rfl
  obtain ⟨fd_boxes_or_none, D_boxes_or_none⟩ := c.def_ 47 (d := d_boxes_or_none) rfl
  obtain ⟨fd_boxes, D_boxes⟩ := c.def_ 48 (d := d_boxes) rfl
  obtain ⟨fd_path_of, D_path_of⟩ := c.def_ 49 (d := d_path_of) rfl
  obtain ⟨fd_rule_of, D_rule_of⟩ := c.def_ 50 (d := d_rule_of) rfl
  obtain ⟨fd_brings, D_brings⟩ := c.def_ 51 (d := d_brings) rfl
  obtain ⟨fd_ends_below, D_ends_below⟩ := c.def_ 52 (d := d_ends_below) rfl
  obtain ⟨fd_worst_and_best, D_worst_and_best⟩ := c.def_ 53 (d := d_worst_and_best) rfl
  obtain ⟨fd_first_doubt, D_first_doubt⟩ := c.def_ 54 (d := d_first_doubt) rfl
  obtain ⟨fd_is_plain, D_is_plain⟩ := c.def_ 55 (d := d_is_plain) rfl
  obtain ⟨fd_in_box, D_in_box⟩ := c.def_ 56 (d := d_in_box) rfl
  obtain ⟨fd_is_constant, D_is_constant⟩ := c.def_ 57 (d := d_is_constant) rfl
  obtain ⟨fd_allowed, D_allowed⟩ := c.def_ 58 (d := d_allowed) rfl
  obtain ⟨fd_parts_of, D_parts_of⟩ := c.def_ 59 (d := d_parts_of) rfl
  obtain ⟨fd_first_split, D_first_split⟩ := c.def_ 60 (d := d_first_split) rfl
  obtain ⟨fd_grow_below, D_grow_below⟩ := c.def_ 61 (d := d_grow_below) rfl
  obtain ⟨fd_grow, D_grow⟩ := c.def_ 62 (d := d_grow) rfl
  obtain ⟨fd__law_same, D__law_same⟩ := c.def_ 63 (d := d__law_same) rfl
  obtain ⟨fd__law_same_list, D__law_same_list⟩ := c.def_ 64 (d := d__law_same_list) rfl
  obtain ⟨fd__law_total, D__law_total⟩ := c.def_ 65 (d := d__law_total) rfl
  obtain ⟨fd__law_dot, D__law_dot⟩ := c.def_ 66 (d := d__law_dot) rfl
  obtain ⟨fd__law_profiles, D__law_profiles⟩ := c.def_ 67 (d := d__law_profiles) rfl
  obtain ⟨fd__law_with, D__law_with⟩ := c.def_ 68 (d := d__law_with) rfl
  obtain ⟨fd__law_has, D__law_has⟩ := c.def_ 69 (d := d__law_has) rfl
  obtain ⟨fd__law_truthful, D__law_truthful⟩ := c.def_ 70 (d := d__law_truthful) rfl
  obtain ⟨fd__law_same_rule, D__law_same_rule⟩ := c.def_ 71 (d := d__law_same_rule) rfl
  obtain ⟨fd__law_boxes, D__law_boxes⟩ := c.def_ 72 (d := d__law_boxes) rfl
  obtain ⟨fd__law_path, D__law_path⟩ := c.def_ 73 (d := d__law_path) rfl
  obtain ⟨fd__law_carried, D__law_carried⟩ := c.def_ 74 (d := d__law_carried) rfl
  obtain ⟨fd__law_ends, D__law_ends⟩ := c.def_ 75 (d := d__law_ends) rfl
  obtain ⟨fd__law_extreme, D__law_extreme⟩ := c.def_ 76 (d := d__law_extreme) rfl
  obtain ⟨fd__law_doubt, D__law_doubt⟩ := c.def_ 77 (d := d__law_doubt) rfl
  obtain ⟨fd__law_sold, D__law_sold⟩ := c.def_ 78 (d := d__law_sold) rfl
  obtain ⟨fd_law, D_law⟩ := c.def_ 79 (d := d_law) rfl
  refine ⟨fd_law, fun s v => FunD.bindsA (ps := ["_law_script"]) D_law (fun _ _ _ _ _ _ us hl => match us, hl with | [_], _ => rfl) s [v] rfl, fun base KB GB => ?_⟩
  have bi_make : Binds K fd_make ["p", "q"] [] := by
    obtain ⟨ds, vd, bd⟩ := FunD.binds1 (ps := ["p", "q"]) D_make 2 1 (by intro z; cases z) rfl fun T kV doc pm an cdv ct us its l1 l2 => match us, its, l1, l2 with | [_, _], [_], _, _ => ⟨_, rfl, rfl⟩
    have vd2 : Vals [] ds := vd
    cases vd2
    exact bd
  have bi__law_gcd : Binds K fd__law_gcd ["_law_a", "_law_b"] [] := D__law_gcd.bindsN fun _ _ _ _ _ _ us hl => match us, hl with | [_, _], _ => rfl
  have bi__law_ratio : Binds K fd__law_ratio ["_law_p", "_law_q"] [] := D__law_ratio.bindsN fun _ _ _ _ _ _ us hl => match us, hl with | [_, _], _ => rfl
  have bi_negate : Binds K fd_negate ["a"] [] := D_negate.bindsN fun _ _ _ _ _ _ us hl => match us, hl with | [_], _ => rfl
  have bi_add : Binds K fd_add ["a", "b"] [] := D_add.bindsN fun _ _ _ _ _ _ us hl => match us, hl with | [_, _], _ => rfl
  have bi_subtract : Binds K fd_subtract ["a", "b"] [] := D_subtract.bindsN fun _ _ _ _ _ _ us hl => match us, hl with | [_, _], _ => rfl
  have bi_multiply : Binds K fd_multiply ["a", "b"] [] := D_multiply.bindsN fun _ _ _ _ _ _ us hl => match us, hl with | [_, _], _ => rfl
  have bi_compare : Binds K fd_compare ["a", "b"] [] := D_compare.bindsN fun _ _ _ _ _ _ us hl => match us, hl with | [_, _], _ => rfl
  have bi_is_name : Binds K fd_is_name ["word"] [] := D_is_name.bindsN fun _ _ _ _ _ _ us hl => match us, hl with | [_], _ => rfl
  have bi__law_add : Binds K fd__law_add ["_law_a", "_law_b"] [] := D__law_add.bindsN fun _ _ _ _ _ _ us hl => match us, hl with | [_, _], _ => rfl
  have bi__law_times : Binds K fd__law_times ["_law_a", "_law_b"] [] := D__law_times.bindsN fun _ _ _ _ _ _ us hl => match us, hl with | [_, _], _ => rfl
  have bi__law_minus : Binds K fd__law_minus ["_law_a", "_law_b"] [] := D__law_minus.bindsN fun _ _ _ _ _ _ us hl => match us, hl with | [_, _], _ => rfl
  have bi__law_order : Binds K fd__law_order ["_law_a", "_law_b"] [] := D__law_order.bindsN fun _ _ _ _ _ _ us hl => match us, hl with | [_, _], _ => rfl
  have bi__law_deck : Binds K fd__law_deck ["_law_script"] [] := D__law_deck.bindsN fun _ _ _ _ _ _ us hl => match us, hl with | [_], _ => rfl
  have bi__law_draw : Binds K fd__law_draw ["_law_deck_here", "_law_most"] [] := D__law_draw.bindsN fun _ _ _ _ _ _ us hl => match us, hl with | [_, _], _ => rfl
  have bi__law_small : Binds K fd__law_small ["_law_deck_here"] [] := D__law_small.bindsN fun _ _ _ _ _ _ us hl => match us, hl with | [_], _ => rfl
  have bi__law_values : Binds K fd__law_values ["_law_deck_here", "_law_many"] [] := D__law_values.bindsN fun _ _ _ _ _ _ us hl => match us, hl with | [_, _], _ => rfl
  have bi_sign : Binds K fd_sign ["a"] [] := D_sign.bindsN fun _ _ _ _ _ _ us hl => match us, hl with | [_], _ => rfl
  have bi_total : Binds K fd_total ["values"] [] := D_total.bindsN fun _ _ _ _ _ _ us hl => match us, hl with | [_], _ => rfl
  have bi_dot : Binds K fd_dot ["first", "second"] [] := D_dot.bindsN fun _ _ _ _ _ _ us hl => match us, hl with | [_, _], _ => rfl
  have bi_least_index : Binds K fd_least_index ["values"] [] := D_least_index.bindsN fun _ _ _ _ _ _ us hl => match us, hl with | [_], _ => rfl
  have bi_greatest_index : Binds K fd_greatest_index ["values"] [] := D_greatest_index.bindsN fun _ _ _ _ _ _ us hl => match us, hl with | [_], _ => rfl
  have bi_is_integer : Binds K fd_is_integer ["value"] [] := D_is_integer.bindsN fun _ _ _ _ _ _ us hl => match us, hl with | [_], _ => rfl
  have bi_is_index : Binds K fd_is_index ["value", "count"] [] := D_is_index.bindsN fun _ _ _ _ _ _ us hl => match us, hl with | [_, _], _ => rfl
  have bi_are_names : Binds K fd_are_names ["words"] [] := D_are_names.bindsN fun _ _ _ _ _ _ us hl => match us, hl with | [_], _ => rfl
  have bi_is_need : Binds K fd_is_need ["need", "agent_count", "outcome_count"] [] := D_is_need.bindsN fun _ _ _ _ _ _ us hl => match us, hl with | [_, _, _], _ => rfl
  have bi_is_excluded : Binds K fd_is_excluded ["need", "earlier"] [] := D_is_excluded.bindsN fun _ _ _ _ _ _ us hl => match us, hl with | [_, _], _ => rfl
  have bi_check_limits : Binds K fd_check_limits ["agents", "outcomes", "needs"] [] := D_check_limits.bindsN fun _ _ _ _ _ _ us hl => match us, hl with | [_, _, _], _ => rfl
  have bi_check_game : Binds K fd_check_game ["agents", "outcomes", "aim", "needs"] [] := D_check_game.bindsN fun _ _ _ _ _ _ us hl => match us, hl with | [_, _, _, _], _ => rfl
  have bi_copied_kinds : Binds K fd_copied_kinds ["kinds"] [] := D_copied_kinds.bindsN fun _ _ _ _ _ _ us hl => match us, hl with | [_], _ => rfl
  have bi_copied_need : Binds K fd_copied_need ["need"] [] := D_copied_need.bindsN fun _ _ _ _ _ _ us hl => match us, hl with | [_], _ => rfl
  have bi_profiles : Binds K fd_profiles ["game"] [] := D_profiles.bindsN fun _ _ _ _ _ _ us hl => match us, hl with | [_], _ => rfl
  have bi_profile_number : Binds K fd_profile_number ["game", "profile"] [] := D_profile_number.bindsN fun _ _ _ _ _ _ us hl => match us, hl with | [_, _], _ => rfl
  have bi_check : Binds K fd_check ["values", "bidders"] [] := D_check.bindsN fun _ _ _ _ _ _ us hl => match us, hl with | [_, _], _ => rfl
  have bi_clock_game : Binds K fd_clock_game ["values", "bidders"] [] := D_clock_game.bindsN fun _ _ _ _ _ _ us hl => match us, hl with | [_, _], _ => rfl
  have bi_sold : Binds K fd_sold ["values", "bidders", "winner", "level"] [] := D_sold.bindsN fun _ _ _ _ _ _ us hl => match us, hl with | [_, _, _, _], _ => rfl
  have bi_Clock___init__ : Binds K fd_Clock___init__ ["self", "values", "bidders"] [] := D_Clock___init__.bindsN fun _ _ _ _ _ _ us hl => match us, hl with | [_, _, _], _ => rfl
  have bi_Clock_grow : Binds K fd_Clock_grow ["self", "level", "waiting", "inside", "said"] [] := D_Clock_grow.bindsN fun _ _ _ _ _ _ us hl => match us, hl with | [_, _, _, _, _], _ => rfl
  have bi_clock : Binds K fd_clock ["values", "bidders"] [] := D_clock.bindsN fun _ _ _ _ _ _ us hl => match us, hl with | [_, _], _ => rfl
  have bi_has : Binds K fd_has ["game", "rule", "agent", "kind", "profile"] [] := D_has.bindsN fun _ _ _ _ _ _ us hl => match us, hl with | [_, _, _, _, _], _ => rfl
  have bi_is_question : Binds K fd_is_question ["node"] [] := D_is_question.bindsN fun _ _ _ _ _ _ us hl => match us, hl with | [_], _ => rfl
  have bi_has_parents : Binds K fd_has_parents ["tree"] [] := D_has_parents.bindsN fun _ _ _ _ _ _ us hl => match us, hl with | [_], _ => rfl
  have bi_is_part : Binds K fd_is_part ["part", "possible"] [] := D_is_part.bindsN fun _ _ _ _ _ _ us hl => match us, hl with | [_, _], _ => rfl
  have bi_split_box : Binds K fd_split_box ["box", "agent", "part"] [] := D_split_box.bindsN fun _ _ _ _ _ _ us hl => match us, hl with | [_, _, _], _ => rfl
  have bi_whole_box : Binds K fd_whole_box ["game"] [] := D_whole_box.bindsN fun _ _ _ _ _ _ us hl => match us, hl with | [_], _ => rfl
  have bi_is_end : Binds K fd_is_end ["game", "node"] [] := D_is_end.bindsN fun _ _ _ _ _ _ us hl => match us, hl with | [_, _], _ => rfl
  have bi_boxes_or_none : Binds K fd_boxes_or_none ["game", "tree"] [] := D_boxes_or_none.bindsN fun _ _ _ _ _ _ us hl => match us, hl with | [_, _], _ => rfl
  have bi_boxes : Binds K fd_boxes ["game", "tree"] [] := D_boxes.bindsN fun _ _ _ _ _ _ us hl => match us, hl with | [_, _], _ => rfl
  have bi_path_of : Binds K fd_path_of ["tree", "profile"] [] := D_path_of.bindsN fun _ _ _ _ _ _ us hl => match us, hl with | [_, _], _ => rfl
  have bi_rule_of : Binds K fd_rule_of ["game", "tree"] [] := D_rule_of.bindsN fun _ _ _ _ _ _ us hl => match us, hl with | [_, _], _ => rfl
  have bi_brings : Binds K fd_brings ["game", "node", "agent", "kind"] [] := D_brings.bindsN fun _ _ _ _ _ _ us hl => match us, hl with | [_, _, _, _], _ => rfl
  have bi_ends_below : Binds K fd_ends_below ["tree", "start", "agent", "kind"] [] := D_ends_below.bindsN fun _ _ _ _ _ _ us hl => match us, hl with | [_, _, _, _], _ => rfl
  have bi_worst_and_best : Binds K fd_worst_and_best ["game", "tree", "node", "kind"] [] := D_worst_and_best.bindsN fun _ _ _ _ _ _ us hl => match us, hl with | [_, _, _, _], _ => rfl
  have bi_first_doubt : Binds K fd_first_doubt ["game", "tree"] [] := D_first_doubt.bindsN fun _ _ _ _ _ _ us hl => match us, hl with | [_, _], _ => rfl
  have bi_is_plain : Binds K fd_is_plain ["rule"] [] := D_is_plain.bindsN fun _ _ _ _ _ _ us hl => match us, hl with | [_], _ => rfl
  have bi_in_box : Binds K fd_in_box ["game", "box"] [] := D_in_box.bindsN fun _ _ _ _ _ _ us hl => match us, hl with | [_, _], _ => rfl
  have bi_is_constant : Binds K fd_is_constant ["game", "rule", "box"] [] := D_is_constant.bindsN fun _ _ _ _ _ _ us hl => match us, hl with | [_, _, _], _ => rfl
  have bi_allowed : Binds K fd_allowed ["game", "rule", "box", "agent", "part"] [] := D_allowed.bindsN fun _ _ _ _ _ _ us hl => match us, hl with | [_, _, _, _, _], _ => rfl
  have bi_parts_of : Binds K fd_parts_of ["kinds"] [] := D_parts_of.bindsN fun _ _ _ _ _ _ us hl => match us, hl with | [_], _ => rfl
  have bi_first_split : Binds K fd_first_split ["game", "rule", "box"] [] := D_first_split.bindsN fun _ _ _ _ _ _ us hl => match us, hl with | [_, _, _], _ => rfl
  have bi_grow_below : Binds K fd_grow_below ["game", "rule", "box", "tree"] [] := D_grow_below.bindsN fun _ _ _ _ _ _ us hl => match us, hl with | [_, _, _, _], _ => rfl
  have bi_grow : Binds K fd_grow ["game", "rule"] [] := D_grow.bindsN fun _ _ _ _ _ _ us hl => match us, hl with | [_, _], _ => rfl
  have bi__law_same : Binds K fd__law_same ["_law_actual", "_law_due"] [] := D__law_same.bindsN fun _ _ _ _ _ _ us hl => match us, hl with | [_, _], _ => rfl
  have bi__law_same_list : Binds K fd__law_same_list ["_law_actual", "_law_due"] [] := D__law_same_list.bindsN fun _ _ _ _ _ _ us hl => match us, hl with | [_, _], _ => rfl
  have bi__law_total : Binds K fd__law_total ["_law_values_here"] [] := D__law_total.bindsN fun _ _ _ _ _ _ us hl => match us, hl with | [_], _ => rfl
  have bi__law_dot : Binds K fd__law_dot ["_law_first", "_law_second"] [] := D__law_dot.bindsN fun _ _ _ _ _ _ us hl => match us, hl with | [_, _], _ => rfl
  have bi__law_profiles : Binds K fd__law_profiles ["_law_agents"] [] := D__law_profiles.bindsN fun _ _ _ _ _ _ us hl => match us, hl with | [_], _ => rfl
  have bi__law_with : Binds K fd__law_with ["_law_profile", "_law_agent", "_law_kind"] [] := D__law_with.bindsN fun _ _ _ _ _ _ us hl => match us, hl with | [_, _, _], _ => rfl
  have bi__law_has : Binds K fd__law_has ["_law_agents", "_law_rule", "_law_agent", "_law_kind", "_law_number"] [] := D__law_has.bindsN fun _ _ _ _ _ _ us hl => match us, hl with | [_, _, _, _, _], _ => rfl
  have bi__law_truthful : Binds K fd__law_truthful ["_law_agents", "_law_rule"] [] := D__law_truthful.bindsN fun _ _ _ _ _ _ us hl => match us, hl with | [_, _], _ => rfl
  have bi__law_same_rule : Binds K fd__law_same_rule ["_law_actual", "_law_due"] [] := D__law_same_rule.bindsN fun _ _ _ _ _ _ us hl => match us, hl with | [_, _], _ => rfl
  have bi__law_boxes : Binds K fd__law_boxes ["_law_agents", "_law_tree"] [] := D__law_boxes.bindsN fun _ _ _ _ _ _ us hl => match us, hl with | [_, _], _ => rfl
  have bi__law_path : Binds K fd__law_path ["_law_tree", "_law_profile"] [] := D__law_path.bindsN fun _ _ _ _ _ _ us hl => match us, hl with | [_, _], _ => rfl
  have bi__law_carried : Binds K fd__law_carried ["_law_agents", "_law_outs", "_law_tree"] [] := D__law_carried.bindsN fun _ _ _ _ _ _ us hl => match us, hl with | [_, _, _], _ => rfl
  have bi__law_ends : Binds K fd__law_ends ["_law_tree", "_law_start", "_law_agent", "_law_kind"] [] := D__law_ends.bindsN fun _ _ _ _ _ _ us hl => match us, hl with | [_, _, _, _], _ => rfl
  have bi__law_extreme : Binds K fd__law_extreme ["_law_values_here", "_law_wanted"] [] := D__law_extreme.bindsN fun _ _ _ _ _ _ us hl => match us, hl with | [_, _], _ => rfl
  have bi__law_doubt : Binds K fd__law_doubt ["_law_agents", "_law_tree"] [] := D__law_doubt.bindsN fun _ _ _ _ _ _ us hl => match us, hl with | [_, _], _ => rfl
  have bi__law_sold : Binds K fd__law_sold ["_law_values_here", "_law_profile", "_law_entry"] [] := D__law_sold.bindsN fun _ _ _ _ _ _ us hl => match us, hl with | [_, _, _], _ => rfl
  have hK : ∃ mv : List Value, KBn K fd_Game___init__ ["self", "agents", "outcomes", "aim", "payments", "lots", "needs"] 3 ["aim", "payments", "lots", "needs"] (fun us ws => us ++ ws) (fun vs zs => vs ++ zs) := FunD.kbinds0 D_Game___init__ 3 ["aim", "payments", "lots", "needs"] [] (fun us _ ws => us ++ ws) (by intro z; cases z) (fun q hq => by cases hq) (fun r1 _ r2 => Vals.append r1 r2) fun D doc pm an cdv ct us mv ws l1 l2 l3 => match us, mv, ws, l1, l2, l3 with | [_, _, _], [], [_, _, _, _], _, _, _ => rfl
  obtain ⟨_, kbn⟩ := hK
  have okDeck : FnOk P w K mg base CX0 1 (He.ga K "_law_deck") fd__law_deck ["_law_script"] (spDeck K) := ok_deck D__law_deck m_list
  have all : ∀ ρ : Rho, ρ.Ok → ∀ (cdv : Value) (A : Around) (outer : List Env) (s : Shared) (H : Hp) (E : XK), Room 50 (A.deeper (envOfC "law" (defScope s_law) s.heap.objs.size (He.ga K "law") cdv)) → PSs (cxOf CX0 P w K mg base N_law "law" (defScope s_law) (He.ga K "law") cdv A outer s H E).nox ((defBody s_law).drop 1) (evS (ct ρ K cl) (B_law ρ)) := by
    intro ρ ok
    have k_MOST_AGENTS : Konst (ct ρ K cl) mg "MOST_AGENTS" (.int 4) := konst_int (He.int_ok X G (c.fact 96 (f := .int "MOST_AGENTS" 4) rfl))
    have k_MOST_KINDS : Konst (ct ρ K cl) mg "MOST_KINDS" (.int 4) := konst_int (He.int_ok X G (c.fact 97 (f := .int "MOST_KINDS" 4) rfl))
    have k_MOST_OUTCOMES : Konst (ct ρ K cl) mg "MOST_OUTCOMES" (.int 6) := konst_int (He.int_ok X G (c.fact 98 (f := .int "MOST_OUTCOMES" 6) rfl))
    have k_MOST_NEEDS : Konst (ct ρ K cl) mg "MOST_NEEDS" (.int 12) := konst_int (He.int_ok X G (c.fact 99 (f := .int "MOST_NEEDS" 12) rfl))
    have k_MOST_PROFILES_games : Konst (ct ρ K cl) mg "MOST_PROFILES_games" (.int 16) := konst_int (He.int_ok X G (c.fact 100 (f := .int "MOST_PROFILES_games" 16) rfl))
    have k_MOST_PROFILES_clocks : Konst (ct ρ K cl) mg "MOST_PROFILES_clocks" (.int 16) := konst_int (He.int_ok X G (c.fact 101 (f := .int "MOST_PROFILES_clocks" 16) rfl))
    have k_MOST_NODES : Konst (ct ρ K cl) mg "MOST_NODES" (.int 200) := konst_int (He.int_ok X G (c.fact 102 (f := .int "MOST_NODES" 200) rfl))
    have k_LETTERS : Konst (ct ρ K cl) mg "LETTERS" (.str 29) := konst_str (by decide) (He.str_ok X G (c.fact 103 (f := .str "LETTERS" "abcdefghijklmnopqrstuvwxyz") rfl))
    have k_ZERO : Konst (ct ρ K cl) mg "ZERO" (.tup [.int 0, .int 1]) := konst_tup (vs := [V.int 0, V.int 1]) (He.glo_ok X G (c.fact 104 (f := .glo "ZERO") rfl)) (ktup_of (He.tupB_ok x_ZERO (fun _ => none))) rfl
    have k_ONE : Konst (ct ρ K cl) mg "ONE" (.tup [.int 1, .int 1]) := konst_tup (vs := [V.int 1, V.int 1]) (He.glo_ok X G (c.fact 105 (f := .glo "ONE") rfl)) (ktup_of (He.tupB_ok x_ONE (fun _ => none))) rfl
    have k_AIMS : Konst (ct ρ K cl) mg "AIMS" (.tup [.str 10, .str 11, .str 12]) := konst_tup (vs := [V.str "total", V.str "worst", V.str "paid"]) (He.glo_ok X G (c.fact 106 (f := .glo "AIMS") rfl)) (ktup_of (He.tupB_ok x_AIMS (fun _ => none))) rfl
    have k_BIDDERS : Konst (ct ρ K cl) mg "BIDDERS" (.tup [.str 3, .str 4, .str 5]) := konst_tup (vs := [V.str "one", V.str "two", V.str "three"]) (He.glo_ok X G (c.fact 107 (f := .glo "BIDDERS") rfl)) (ktup_of (He.tupB_ok x_BIDDERS (fun _ => none))) rfl
    have k_KINDS : Konst (ct ρ K cl) mg "KINDS" (.tup [.str 6, .str 7, .str 8, .str 9]) := konst_tup (vs := [V.str "a", V.str "b", V.str "c", V.str "d"]) (He.glo_ok X G (c.fact 108 (f := .glo "KINDS") rfl)) (ktup_of (He.tupB_ok x_KINDS (fun _ => none))) rfl
    have r_make : Callee (ct ρ K cl) P w K mg base 2 "make" 2 G_make := Callee.ref (callee_of D_make sc_make rfl rfl (b_make ok (g_gcd := g_gcd)) g_make bi_make) (fun as cs r cs' h => ref_make h)
    have h_make := r_make
    have r__law_gcd : Callee (ct ρ K cl) P w K mg base 1 "_law_gcd" 2 G__law_gcd := Callee.ref (callee_of D__law_gcd sc__law_gcd rfl rfl (b__law_gcd ok (m_range := m_range) (m_int := m_int)) g__law_gcd bi__law_gcd) (fun as cs r cs' h => ref_gcd h)
    have h__law_gcd := r__law_gcd
    have r__law_ratio : Callee (ct ρ K cl) P w K mg base 2 "_law_ratio" 2 G__law_ratio := Callee.ref (callee_of D__law_ratio sc__law_ratio rfl rfl (b__law_ratio ok (m_abs := m_abs) (h__law_gcd := r__law_gcd)) g__law_ratio bi__law_ratio) (fun as cs r cs' h => ref_ratio h)
    have h__law_ratio := r__law_ratio
    have r_negate : Callee (ct ρ K cl) P w K mg base 1 "negate" 1 G_negate := Callee.ref (callee_of D_negate sc_negate rfl rfl (b_negate ok ) g_negate bi_negate) (fun as cs r cs' h => ref_negate h)
    have h_negate : Callee (ct ρ K cl) P w K mg base 1 "negate" 1 F_negate := r_negate.imp (lift_negate ok)
    have r_add : Callee (ct ρ K cl) P w K mg base 3 "add" 2 G_add := Callee.ref (callee_of D_add sc_add rfl rfl (b_add ok (h_make := r_make)) g_add bi_add) (fun as cs r cs' h => ref_add h)
    have h_add : Callee (ct ρ K cl) P w K mg base 3 "add" 2 F_add := r_add.imp (lift_add ok)
    have r_subtract : Callee (ct ρ K cl) P w K mg base 4 "subtract" 2 F_subtract := Callee.ref (callee_of D_subtract sc_subtract rfl rfl (b_subtract ok (h_negate := h_negate) (h_add := h_add)) g_subtract bi_subtract) (fun as cs r cs' h => ref_subtract h)
    have h_subtract := r_subtract
    have r_multiply : Callee (ct ρ K cl) P w K mg base 3 "multiply" 2 G_multiply := Callee.ref (callee_of D_multiply sc_multiply rfl rfl (b_multiply ok (h_make := r_make)) g_multiply bi_multiply) (fun as cs r cs' h => (ref_mul h).1)
    have h_multiply : Callee (ct ρ K cl) P w K mg base 3 "multiply" 2 F_multiply := r_multiply.imp (lift_mul ok)
    have r_compare : Callee (ct ρ K cl) P w K mg base 1 "compare" 2 G_compare := Callee.ref (callee_of D_compare sc_compare rfl rfl (b_compare ok (m_int := m_int)) g_compare bi_compare) (fun as cs r cs' h => (ref_cmp h).1)
    have h_compare : Callee (ct ρ K cl) P w K mg base 1 "compare" 2 F_compare := r_compare.imp (lift_cmp ok)
    have r_is_name : Callee (ct ρ K cl) P w K mg base 2 "is_name" 1 F_is_name := Callee.ref (callee_of D_is_name sc_is_name rfl rfl (b_is_name ok (m_len := m_len) (k_LETTERS := k_LETTERS) (m_all := m_all)) g_is_name bi_is_name) (fun as cs r cs' h => ref_is_name h)
    have h_is_name := r_is_name
    have r__law_add : Callee (ct ρ K cl) P w K mg base 3 "_law_add" 2 G__law_add := Callee.ref (callee_of D__law_add sc__law_add rfl rfl (b__law_add ok (h__law_ratio := r__law_ratio)) g__law_add bi__law_add) (fun as cs r cs' h => ref_ladd h)
    have h__law_add : Callee (ct ρ K cl) P w K mg base 3 "_law_add" 2 F__law_add := r__law_add.imp (lift_add ok)
    have r__law_times : Callee (ct ρ K cl) P w K mg base 3 "_law_times" 2 G_multiply := Callee.ref (callee_of D__law_times sc__law_times rfl rfl (b__law_times ok (h__law_ratio := r__law_ratio)) g__law_times bi__law_times) (fun as cs r cs' h => (ref_mul h).2)
    have h__law_times : Callee (ct ρ K cl) P w K mg base 3 "_law_times" 2 F__law_times := r__law_times.imp (lift_mul ok)
    have r__law_minus : Callee (ct ρ K cl) P w K mg base 4 "_law_minus" 2 G_minus := Callee.ref (callee_of D__law_minus sc__law_minus rfl rfl (b__law_minus ok (h__law_add := r__law_add)) g__law_minus bi__law_minus) (fun as cs r cs' h => ref_lminus h)
    have h__law_minus : Callee (ct ρ K cl) P w K mg base 4 "_law_minus" 2 F__law_minus := r__law_minus.imp (lift_minus ok)
    have r__law_order : Callee (ct ρ K cl) P w K mg base 1 "_law_order" 2 G_compare := Callee.ref (callee_of D__law_order sc__law_order rfl rfl (b__law_order ok (m_int := m_int)) g__law_order bi__law_order) (fun as cs r cs' h => (ref_cmp h).2)
    have h__law_order : Callee (ct ρ K cl) P w K mg base 1 "_law_order" 2 F__law_order := r__law_order.imp (lift_cmp ok)
    have h__law_draw : Callee (ct ρ K cl) P w K mg base 1 "_law_draw" 2 F__law_draw := callee_of D__law_draw sc__law_draw rfl rfl (b__law_draw ok (m_int := m_int) (m_len := m_len)) g__law_draw bi__law_draw
    have h__law_small : Callee (ct ρ K cl) P w K mg base 4 "_law_small" 1 F__law_small := callee_of D__law_small sc__law_small rfl rfl (b__law_small ok (h__law_draw := h__law_draw) (h__law_ratio := r__law_ratio)) g__law_small bi__law_small
    have h__law_values : Callee (ct ρ K cl) P w K mg base 5 "_law_values" 2 F__law_values := callee_of D__law_values sc__law_values rfl rfl (b__law_values ok (h__law_small := h__law_small) (m_range := m_range) (h__law_draw := h__law_draw) (h__law_ratio := r__law_ratio) (h__law_add := r__law_add)) g__law_values bi__law_values
    have r__law_values : Callee (ct ρ K cl) P w K mg base 5 "_law_values" 2 (G_values ρ) := h__law_values.imp lift_values
    have h_sign : Callee (ct ρ K cl) P w K mg base 2 "sign" 1 F_sign := callee_of D_sign sc_sign rfl rfl (b_sign ok (k_ZERO := k_ZERO) (h_compare := h_compare)) g_sign bi_sign
    have h_total : Callee (ct ρ K cl) P w K mg base 4 "total" 1 F_total := callee_ofD D_total sc_total rfl rfl (b_total ok (k_ZERO := k_ZERO) (h_add := h_add)) g_total bi_total
    have h_dot : Callee (ct ρ K cl) P w K mg base 5 "dot" 2 F_dot := callee_ofD D_dot sc_dot rfl rfl (b_dot ok (m_zip := m_zip) (h_multiply := h_multiply) (h_total := h_total)) g_dot bi_dot
    have h_least_index : Callee (ct ρ K cl) P w K mg base 2 "least_index" 1 F_least_index := callee_ofD D_least_index sc_least_index rfl rfl (b_least_index ok (m_enumerate := m_enumerate) (h_compare := h_compare)) g_least_index bi_least_index
    have h_greatest_index : Callee (ct ρ K cl) P w K mg base 3 "greatest_index" 1 F_greatest_index := callee_ofD D_greatest_index sc_greatest_index rfl rfl (b_greatest_index ok (h_negate := h_negate) (h_least_index := h_least_index)) g_greatest_index bi_greatest_index
    have h_is_integer : Callee (ct ρ K cl) P w K mg base 1 "is_integer" 1 F_is_integer := callee_ofD D_is_integer sc_is_integer rfl rfl (b_is_integer ok (m_isinstance := m_isinstance) (m_int := m_int) (m_bool := m_bool)) g_is_integer bi_is_integer
    have h_is_index : Callee (ct ρ K cl) P w K mg base 2 "is_index" 2 F_is_index := callee_ofD D_is_index sc_is_index rfl rfl (b_is_index ok (h_is_integer := h_is_integer)) g_is_index bi_is_index
    have h_are_names : Callee (ct ρ K cl) P w K mg base 3 "are_names" 1 F_are_names := callee_ofD D_are_names sc_are_names rfl rfl (b_are_names ok (m_len := m_len) (h_is_name := h_is_name) (m_all := m_all) (m_set := m_set)) g_are_names bi_are_names
    have h_is_need : Callee (ct ρ K cl) P w K mg base 1 "is_need" 3 F_is_need := callee_ofD D_is_need sc_is_need rfl rfl (b_is_need ok ) g_is_need bi_is_need
    have h_is_excluded : Callee (ct ρ K cl) P w K mg base 1 "is_excluded" 2 F_is_excluded := callee_ofD D_is_excluded sc_is_excluded rfl rfl (b_is_excluded ok ) g_is_excluded bi_is_excluded
    have h_check_limits : Callee (ct ρ K cl) P w K mg base 1 "check_limits" 3 F_check_limits := callee_ofD D_check_limits sc_check_limits rfl rfl (b_check_limits ok (m_len := m_len) (k_MOST_AGENTS := k_MOST_AGENTS) (k_MOST_KINDS := k_MOST_KINDS) (k_MOST_OUTCOMES := k_MOST_OUTCOMES) (k_MOST_NEEDS := k_MOST_NEEDS) (k_MOST_PROFILES_games := k_MOST_PROFILES_games)) g_check_limits bi_check_limits
    have h_check_game : Callee (ct ρ K cl) P w K mg base 4 "check_game" 4 F_check_game := callee_ofD D_check_game sc_check_game rfl rfl (b_check_game ok (h_are_names := h_are_names) (h_sign := h_sign) (m_any := m_any) (m_len := m_len) (k_AIMS := k_AIMS) (m_enumerate := m_enumerate) (h_is_need := h_is_need) (h_is_excluded := h_is_excluded)) g_check_game bi_check_game
    have h_copied_kinds : Callee (ct ρ K cl) P w K mg base 1 "copied_kinds" 1 F_copied_kinds := callee_of D_copied_kinds sc_copied_kinds rfl rfl (b_copied_kinds ok (m_list := m_list)) g_copied_kinds bi_copied_kinds
    have h_copied_need : Callee (ct ρ K cl) P w K mg base 1 "copied_need" 1 F_copied_need := callee_of D_copied_need sc_copied_need rfl rfl (b_copied_need ok (m_isinstance := m_isinstance) (m_list := m_list) (m_tuple := m_tuple)) g_copied_need bi_copied_need
    have h_Game : KCallee (ct ρ K cl) P w K mg base 5 0 "Game" 2 4 ["aim", "payments", "lots", "needs"] F_Game___init__ := ⟨_, _, _, _, rfl, def_ok D_Game___init__ sc_Game___init__ rfl rfl (b_Game___init__ ok (h_check_limits := h_check_limits) (h_check_game := h_check_game) (h_copied_kinds := h_copied_kinds) (cls0 := cls0) (no23 := no23) (m_list := m_list) (no24 := no24) (no25 := no25) (no26 := no26) (no27 := no27) (h_copied_need := h_copied_need) (no28 := no28)), mk0, gC0, kbn⟩
    have h_profiles : Callee (ct ρ K cl) P w K mg base 1 "profiles" 1 F_profiles := callee_of D_profiles sc_profiles rfl rfl (b_profiles ok (cls0 := cls0) (no23 := no23) (m_len := m_len) (m_range := m_range)) g_profiles bi_profiles
    have h_profile_number : Callee (ct ρ K cl) P w K mg base 3 "profile_number" 2 F_profile_number := callee_ofD D_profile_number sc_profile_number rfl rfl (b_profile_number ok (m_len := m_len) (cls0 := cls0) (no23 := no23) (m_enumerate := m_enumerate) (h_is_index := h_is_index)) g_profile_number bi_profile_number
    have h_check : Callee (ct ρ K cl) P w K mg base 2 "check" 2 F_check := callee_ofD D_check sc_check rfl rfl (b_check ok (h_is_integer := h_is_integer) (m_len := m_len) (m_range := m_range) (h_compare := h_compare) (k_KINDS := k_KINDS) (k_MOST_PROFILES_clocks := k_MOST_PROFILES_clocks)) g_check bi_check
    have h_clock_game : Callee (ct ρ K cl) P w K mg base 7 "clock_game" 2 F_clock_game := callee_of D_clock_game sc_clock_game rfl rfl (b_clock_game ok (k_BIDDERS := k_BIDDERS) (m_list := m_list) (m_range := m_range) (m_enumerate := m_enumerate) (k_ZERO := k_ZERO) (k_KINDS := k_KINDS) (k_ONE := k_ONE) (h_Game := h_Game)) g_clock_game bi_clock_game
    have h_sold : Callee (ct ρ K cl) P w K mg base 1 "sold" 4 F_sold := callee_of D_sold sc_sold rfl rfl (b_sold ok (m_range := m_range) (k_ZERO := k_ZERO)) g_sold bi_sold
    have h_Clock : CCallee (ct ρ K cl) P w K mg base 1 1 "Clock" 3 F_Clock___init__ := ⟨_, _, _, rfl, def_ok D_Clock___init__ sc_Clock___init__ rfl rfl (b_Clock___init__ ok (m_list := m_list) (cls1 := cls1) (no21 := no21) (no22 := no22) (no20 := no20)), mk1, gC1, bi_Clock___init__⟩
    have h_Clock_grow : MCallee (ct ρ K cl) P w K mg base 42 1 "grow" 5 F_Clock_grow := mcallee_rec (m0 := 1) (F := F_Clock_grow_) (B := B_Clock_grow) D_Clock_grow sc_Clock_grow rfl rfl rfl (fun _ => rfl) mgrow bi_Clock_grow (fun lv rec hlv hr => b_Clock_grow ok hlv (m_len := m_len) (cls1 := cls1) (no20 := no20) (no21 := no21) (no22 := no22) (h_sold := h_sold) (m_list := m_list) (m_reversed := m_reversed) (m_range := m_range) (h_grow := hr)) 40
    have h_clock : Callee (ct ρ K cl) P w K mg base 43 "clock" 2 F_clock := callee_of D_clock sc_clock rfl rfl (b_clock ok (h_check := h_check) (h_Clock := h_Clock) (m_list := m_list) (m_range := m_range) (h_grow := h_Clock_grow) (cls1 := cls1) (h_clock_game := h_clock_game) (no20 := no20)) g_clock bi_clock
    have h_has : Callee (ct ρ K cl) P w K mg base 6 "has" 5 F_has := callee_ofD D_has sc_has rfl rfl (b_has ok (h_profile_number := h_profile_number) (cls0 := cls0) (no23 := no23) (h_dot := h_dot) (h_subtract := h_subtract)) g_has bi_has
    have h_is_question : Callee (ct ρ K cl) P w K mg base 1 "is_question" 1 F_is_question := callee_ofD D_is_question sc_is_question rfl rfl (b_is_question ok ) g_is_question bi_is_question
    have h_has_parents : Callee (ct ρ K cl) P w K mg base 2 "has_parents" 1 F_has_parents := callee_ofD D_has_parents sc_has_parents rfl rfl (b_has_parents ok (m_enumerate := m_enumerate) (h_is_question := h_is_question) (m_len := m_len) (m_all := m_all)) g_has_parents bi_has_parents
    have h_is_part : Callee (ct ρ K cl) P w K mg base 1 "is_part" 2 F_is_part := callee_ofD D_is_part sc_is_part rfl rfl (b_is_part ok (m_enumerate := m_enumerate) (m_len := m_len)) g_is_part bi_is_part
    have h_split_box : Callee (ct ρ K cl) P w K mg base 1 "split_box" 3 F_split_box := callee_of D_split_box sc_split_box rfl rfl (b_split_box ok (m_list := m_list)) g_split_box bi_split_box
    have h_whole_box : Callee (ct ρ K cl) P w K mg base 1 "whole_box" 1 F_whole_box := callee_of D_whole_box sc_whole_box rfl rfl (b_whole_box ok (cls0 := cls0) (no23 := no23) (m_list := m_list) (m_range := m_range) (m_len := m_len)) g_whole_box bi_whole_box
    have h_is_end : Callee (ct ρ K cl) P w K mg base 1 "is_end" 2 F_is_end := callee_ofD D_is_end sc_is_end rfl rfl (b_is_end ok (cls0 := cls0) (no24 := no24) (m_len := m_len) (no23 := no23) (no26 := no26) (k_ZERO := k_ZERO) (m_all := m_all)) g_is_end bi_is_end
    have h_boxes_or_none : Callee (ct ρ K cl) P w K mg base 3 "boxes_or_none" 2 F_boxes_or_none := callee_of D_boxes_or_none sc_boxes_or_none rfl rfl (b_boxes_or_none ok (m_len := m_len) (k_MOST_NODES := k_MOST_NODES) (h_has_parents := h_has_parents) (h_whole_box := h_whole_box) (m_enumerate := m_enumerate) (h_is_question := h_is_question) (cls0 := cls0) (no23 := no23) (h_is_part := h_is_part) (h_split_box := h_split_box) (h_is_end := h_is_end)) g_boxes_or_none bi_boxes_or_none
    have h_boxes : Callee (ct ρ K cl) P w K mg base 4 "boxes" 2 F_boxes := callee_of D_boxes sc_boxes rfl rfl (b_boxes ok (h_boxes_or_none := h_boxes_or_none)) g_boxes bi_boxes
    have h_path_of : Callee (ct ρ K cl) P w K mg base 2 "path_of" 2 F_path_of := callee_of D_path_of sc_path_of rfl rfl (b_path_of ok (h_is_question := h_is_question)) g_path_of bi_path_of
    have h_rule_of : Callee (ct ρ K cl) P w K mg base 5 "rule_of" 2 F_rule_of := callee_of D_rule_of sc_rule_of rfl rfl (b_rule_of ok (h_boxes := h_boxes) (h_profiles := h_profiles) (h_path_of := h_path_of) (m_len := m_len) (cls0 := cls0) (no24 := no24) (m_range := m_range) (k_ONE := k_ONE) (k_ZERO := k_ZERO) (m_list := m_list)) g_rule_of bi_rule_of
    have h_brings : Callee (ct ρ K cl) P w K mg base 5 "brings" 4 F_brings := callee_ofD D_brings sc_brings rfl rfl (b_brings ok (cls0 := cls0) (no23 := no23) (h_subtract := h_subtract)) g_brings bi_brings
    have h_ends_below : Callee (ct ρ K cl) P w K mg base 2 "ends_below" 4 F_ends_below := callee_of D_ends_below sc_ends_below rfl rfl (b_ends_below ok (m_len := m_len) (h_is_question := h_is_question)) g_ends_below bi_ends_below
    have h_worst_and_best : Callee (ct ρ K cl) P w K mg base 6 "worst_and_best" 4 F_worst_and_best := callee_ofD D_worst_and_best sc_worst_and_best rfl rfl (b_worst_and_best ok (h_ends_below := h_ends_below) (h_brings := h_brings) (h_least_index := h_least_index) (h_greatest_index := h_greatest_index)) g_worst_and_best bi_worst_and_best
    have h_first_doubt : Callee (ct ρ K cl) P w K mg base 7 "first_doubt" 2 F_first_doubt := callee_ofD D_first_doubt sc_first_doubt rfl rfl (b_first_doubt ok (h_boxes := h_boxes) (m_enumerate := m_enumerate) (h_is_question := h_is_question) (h_worst_and_best := h_worst_and_best) (h_compare := h_compare)) g_first_doubt bi_first_doubt
    have h_is_plain : Callee (ct ρ K cl) P w K mg base 1 "is_plain" 1 F_is_plain := callee_ofD D_is_plain sc_is_plain rfl rfl (b_is_plain ok (k_ONE := k_ONE) (m_all := m_all)) g_is_plain bi_is_plain
    have h_in_box : Callee (ct ρ K cl) P w K mg base 2 "in_box" 2 F_in_box := callee_of D_in_box sc_in_box rfl rfl (b_in_box ok (h_profiles := h_profiles) (m_enumerate := m_enumerate) (m_all := m_all)) g_in_box bi_in_box
    have h_is_constant : Callee (ct ρ K cl) P w K mg base 4 "is_constant" 3 F_is_constant := callee_ofD D_is_constant sc_is_constant rfl rfl (b_is_constant ok (h_in_box := h_in_box) (h_profile_number := h_profile_number) (m_all := m_all)) g_is_constant bi_is_constant
    have h_allowed : Callee (ct ρ K cl) P w K mg base 7 "allowed" 5 F_allowed := callee_ofD D_allowed sc_allowed rfl rfl (b_allowed ok (h_in_box := h_in_box) (h_has := h_has) (h_least_index := h_least_index) (h_greatest_index := h_greatest_index) (h_compare := h_compare)) g_allowed bi_allowed
    have h_parts_of : Callee (ct ρ K cl) P w K mg base 1 "parts_of" 1 F_parts_of := callee_of D_parts_of sc_parts_of rfl rfl (b_parts_of ok (m_len := m_len) (m_range := m_range) (m_enumerate := m_enumerate)) g_parts_of bi_parts_of
    have h_first_split : Callee (ct ρ K cl) P w K mg base 8 "first_split" 3 F_first_split := callee_ofD D_first_split sc_first_split rfl rfl (b_first_split ok (m_len := m_len) (m_range := m_range) (h_parts_of := h_parts_of) (h_allowed := h_allowed)) g_first_split bi_first_split
    have h_grow_below : Callee (ct ρ K cl) P w K mg base 49 "grow_below" 4 F_grow_below := callee_rec (m0 := 8) (F := F_grow_below_) (B := B_grow_below) D_grow_below sc_grow_below rfl rfl rfl (fun _ => rfl) g_grow_below bi_grow_below (fun lv rec hlv hr => b_grow_below ok hlv (h_is_constant := h_is_constant) (h_in_box := h_in_box) (h_profile_number := h_profile_number) (k_ONE := k_ONE) (m_list := m_list) (h_first_split := h_first_split) (h_split_box := h_split_box) (m_len := m_len) (h_rec := hr)) 40
    have h_grow : Callee (ct ρ K cl) P w K mg base 50 "grow" 2 F_grow := callee_of D_grow sc_grow rfl rfl (b_grow ok (h_is_plain := h_is_plain) (h_whole_box := h_whole_box) (h_grow_below := h_grow_below)) g_grow bi_grow
    have h__law_same : Callee (ct ρ K cl) P w K mg base 5 "_law_same" 2 F__law_same := callee_recD (m0 := 0) (F := F__law_same_) (B := B__law_same) D__law_same sc__law_same rfl rfl rfl (fun _ => rfl) g__law_same bi__law_same (fun lv rec hlv hr => b__law_same ok hlv (m_isinstance := m_isinstance) (m_tuple := m_tuple) (m_len := m_len) (m_range := m_range) (m_bool := m_bool) (m_int := m_int) (m_str := m_str) (h_rec := hr)) 4
    have h__law_same_list : Callee (ct ρ K cl) P w K mg base 6 "_law_same_list" 2 F__law_same_list := callee_ofD D__law_same_list sc__law_same_list rfl rfl (b__law_same_list ok (m_isinstance := m_isinstance) (m_list := m_list) (m_len := m_len) (m_range := m_range) (h__law_same := h__law_same)) g__law_same_list bi__law_same_list
    have h__law_total : Callee (ct ρ K cl) P w K mg base 4 "_law_total" 1 F__law_total := callee_ofD D__law_total sc__law_total rfl rfl (b__law_total ok (h__law_add := h__law_add)) g__law_total bi__law_total
    have h__law_dot : Callee (ct ρ K cl) P w K mg base 5 "_law_dot" 2 F__law_dot := callee_ofD D__law_dot sc__law_dot rfl rfl (b__law_dot ok (m_len := m_len) (m_min := m_min) (m_range := m_range) (h__law_times := h__law_times) (h__law_total := h__law_total)) g__law_dot bi__law_dot
    have h__law_profiles : Callee (ct ρ K cl) P w K mg base 1 "_law_profiles" 1 F__law_profiles := callee_of D__law_profiles sc__law_profiles rfl rfl (b__law_profiles ok (m_len := m_len) (m_range := m_range)) g__law_profiles bi__law_profiles
    have h__law_with : Callee (ct ρ K cl) P w K mg base 1 "_law_with" 3 F__law_with := callee_ofD D__law_with sc__law_with rfl rfl (b__law_with ok ) g__law_with bi__law_with
    have h__law_has : Callee (ct ρ K cl) P w K mg base 6 "_law_has" 5 F__law_has := callee_ofD D__law_has sc__law_has rfl rfl (b__law_has ok (h__law_dot := h__law_dot) (h__law_minus := h__law_minus)) g__law_has bi__law_has
    have h__law_truthful : Callee (ct ρ K cl) P w K mg base 7 "_law_truthful" 2 F__law_truthful := callee_ofD D__law_truthful sc__law_truthful rfl rfl (b__law_truthful ok (h__law_profiles := h__law_profiles) (m_len := m_len) (m_range := m_range) (h__law_with := h__law_with) (h__law_has := h__law_has) (h__law_order := h__law_order)) g__law_truthful bi__law_truthful
    have h__law_same_rule : Callee (ct ρ K cl) P w K mg base 7 "_law_same_rule" 2 F__law_same_rule := callee_ofD D__law_same_rule sc__law_same_rule rfl rfl (b__law_same_rule ok (m_isinstance := m_isinstance) (m_list := m_list) (m_len := m_len) (m_range := m_range) (m_tuple := m_tuple) (h__law_same_list := h__law_same_list)) g__law_same_rule bi__law_same_rule
    have h__law_boxes : Callee (ct ρ K cl) P w K mg base 1 "_law_boxes" 2 F__law_boxes := callee_of D__law_boxes sc__law_boxes rfl rfl (b__law_boxes ok (m_list := m_list) (m_range := m_range) (m_len := m_len)) g__law_boxes bi__law_boxes
    have h__law_path : Callee (ct ρ K cl) P w K mg base 1 "_law_path" 2 F__law_path := callee_of D__law_path sc__law_path rfl rfl (b__law_path ok (m_len := m_len) (m_range := m_range)) g__law_path bi__law_path
    have h__law_carried : Callee (ct ρ K cl) P w K mg base 2 "_law_carried" 3 F__law_carried := callee_of D__law_carried sc__law_carried rfl rfl (b__law_carried ok (h__law_profiles := h__law_profiles) (h__law_path := h__law_path) (m_len := m_len) (m_range := m_range) (m_int := m_int) (m_list := m_list)) g__law_carried bi__law_carried
    have h__law_ends : Callee (ct ρ K cl) P w K mg base 1 "_law_ends" 4 F__law_ends := callee_of D__law_ends sc__law_ends rfl rfl (b__law_ends ok (m_range := m_range)) g__law_ends bi__law_ends
    have h__law_extreme : Callee (ct ρ K cl) P w K mg base 2 "_law_extreme" 2 F__law_extreme := callee_ofD D__law_extreme sc__law_extreme rfl rfl (b__law_extreme ok (h__law_order := h__law_order)) g__law_extreme bi__law_extreme
    have h__law_doubt : Callee (ct ρ K cl) P w K mg base 5 "_law_doubt" 2 F__law_doubt := callee_ofD D__law_doubt sc__law_doubt rfl rfl (b__law_doubt ok (h__law_boxes := h__law_boxes) (m_len := m_len) (m_range := m_range) (h__law_ends := h__law_ends) (h__law_minus := h__law_minus) (h__law_extreme := h__law_extreme) (h__law_order := h__law_order)) g__law_doubt bi__law_doubt
    have h__law_sold : Callee (ct ρ K cl) P w K mg base 2 "_law_sold" 3 F__law_sold := callee_ofD D__law_sold sc__law_sold rfl rfl (b__law_sold ok (m_max := m_max) (m_len := m_len) (m_range := m_range) (h__law_order := h__law_order)) g__law_sold bi__law_sold
    exact fun cdv A outer s H E hr => b_law ok (h__law_draw := h__law_draw) (h__law_values := r__law_values) (m_list := m_list) (h_clock := h_clock) (cls0 := cls0) (no23 := no23) (h__law_doubt := h__law_doubt) (h_first_doubt := h_first_doubt) (h__law_carried := h__law_carried) (h_rule_of := h_rule_of) (h__law_same_rule := h__law_same_rule) (h_grow := h_grow) (h__law_profiles := h__law_profiles) (m_len := m_len) (m_range := m_range) (h__law_sold := h__law_sold) (h__law_truthful := h__law_truthful) cdv A outer s H E hr
  refine D_law.ok sc_law (fun vs H Q E h => ?_) (fun cdv A outer s H vs Q E hr h => ?_)
  · obtain ⟨a, ns, rfl, _⟩ := h
    rfl
  · obtain ⟨a, ns, rfl, hs, q⟩ := h
    obtain ⟨ρ, ok, cs, run⟩ := law_run ns
    have bi : Binds K fd__law_deck ["_law_script"] [] := bi__law_deck
    refine ⟨tSeq (tAsg (tCall (spDeck K) [] E0 (tCons (tVar 0) tNil)) (gName 1)) (evS (ct ρ K cl) (B_law ρ)), PSs.nox (pss_cons (ps_set (i := 1) sc_law.nd rfl (by first | exact .inl rfl | exact .inr rfl) (pe_call okDeck (Room.mono hr (by decide)) rfl g__law_deck D__law_deck.kp bi .nil pass0 (pa_cons (pv 0) pa_nil))) (all ρ ok cdv A outer s H E hr)), ?_⟩
    refine ⟨_, rfl, a, ns, rfl, hs, fun p q' hp hq => ?_⟩
    have pq : p ≠ q' := fun z => by
      rw [← z, upd_same] at hq
      cases hq
    let W : Wd := ⟨fun _ => q', upd (upd H p (.lst (ns.map V.int))) q' (.lst [.ref p, .int 0, .int 0, .int 7]), ⟨1, [(0, deckC ns 0 0 7)]⟩, fun _ => False⟩
    have Hq : W.H q' = some (.lst [.ref p, .int 0, .int 0, .int 7]) := upd_same
    have Hp_ : W.H p = some (.lst (ns.map V.int)) := (upd_ne pq).trans upd_same
    have nin : ¬ W.In p := fun z => by
      rcases z with ⟨_, _, e⟩ | z
      · exact pq e.symm
      · exact z
    have rl : ∀ l : List Int, Reps (ct ρ K cl) W (l.map AV.int) (l.map V.int) := fun l => by
      induction l with
      | nil => exact .nil
      | cons z r ih => exact .cons (.int z) ih
    have okf : ∀ i co, W.cs.get i = some co → i < W.cs.n ∧ COk (ct ρ K cl) W co (W.γ i) := fun i co e => by
      have e' : CS.find [(0, deckC ns 0 0 7)] i = some co := e
      rw [find_cons] at e'
      by_cases z : 0 = i
      · rw [if_pos z] at e'
        cases e'
        subst z
        exact ⟨Nat.one_pos, _, Hq, .cons (.lst Hp_ nin (rl ns)) (.cons (.int 0) (.cons (.int 0) (.cons (.int 7) .nil)))⟩
      · rw [if_neg z] at e'
        split at e' <;> cases e'
    have w0 : WOk (ct ρ K cl) W := ⟨fun i j hi hj _ => by
        have hi' : i < 1 := hi
        have hj' : j < 1 := hj
        omega, fun i hi => ⟨_, Hq, rfl⟩, okf, fun b hb => hb.elim⟩
    refine ⟨W, [.und, .cell 0, .und, .und, .und, .und, .und, .und, .und, .und], rfl, w0, ⟨rfl, fun i b hb => ?_⟩, ?_⟩
    · match i, hb with
      | 0, hb => exact .inl (Option.some.inj hb).symm
      | 1, hb => exact .inr ⟨.ref q', rfl, (Option.some.inj hb) ▸ Rep.cell (c := ct ρ K cl) (W := W) 0 Nat.one_pos⟩
      | 2, hb => exact .inl (Option.some.inj hb).symm
      | 3, hb => exact .inl (Option.some.inj hb).symm
      | 4, hb => exact .inl (Option.some.inj hb).symm
      | 5, hb => exact .inl (Option.some.inj hb).symm
      | 6, hb => exact .inl (Option.some.inj hb).symm
      | 7, hb => exact .inl (Option.some.inj hb).symm
      | 8, hb => exact .inl (Option.some.inj hb).symm
      | 9, hb => exact .inl (Option.some.inj hb).symm
      | i + 10, hb => cases hb
    · rw [show B_law ρ [.und, .cell 0, .und, .und, .und, .und, .und, .und, .und, .und] W.cs = _ from run]
      exact fun v W' w' x e r => by
        cases r
        exact q W'.H
end U
end
namespace U
open PySem PySem.Spec
open PyProof.Rows L2
end U
open PySem PySem.W
open PySem.Calls PyProof.Rows
theorem PySem.Challenge.cw_unbent_k61_whole_clocks_are_obvious_holds : PySem.Challenge.rw_unbent_k61_whole_clocks_are_obvious.Holds := by
  w_on; o_law
  refine HandSHeadRun.head_imp (r := OpenLaw.row PySem.Challenge.rw_unbent_k61_whole_clocks_are_obvious) (q := view (OpenLaw.row PySem.Challenge.rw_unbent_k61_whole_clocks_are_obvious).prog [0, 112]) (H := U.hkU) (ob := U.obU) (M := 5000) (loose := U.looseA) (d := HandSHeadRun.topDef (OpenLaw.row PySem.Challenge.rw_unbent_k61_whole_clocks_are_obvious).prog 112) (kwd := []) U.obU_eq U.runU
    (by kernel_rfl) (by kernel_rfl) (by kernel_rfl) (by rfl) (by first | assumption | decide +kernel) (by decide +kernel) ⟨rfl, rfl, rfl, rfl, rfl, by decide +kernel⟩ ?hw ?hc
  case hw => w_witness2
  case hc =>
    refine L2.walk_ofE (l := PySem.Challenge.rw_unbent_k61_whole_clocks_are_obvious) (n := 63) (k := 51) (x := "_law_script") (CX := L2.CX0) rfl (by decide) (by kernel_rfl) ⟨rfl, by decide, by decide⟩ ?F (fun _ _ _ _ z => z)
    intro w mg fa h Y G hmg0
    obtain ⟨K, KX, c, cx⟩ := Y
    have hmg : mg (
          "law" : PySem.Str) = some (.ref fa) := by
      have e : (HandSHeadRun.topDef (OpenLaw.row PySem.Challenge.rw_unbent_k61_whole_clocks_are_obvious).prog 112).name = ("law" : PySem.Str) := by kernel_rfl
      rw [← e]
      exact hmg0
    obtain ⟨fd, hb, hF⟩ := U.facts (P := (PySem.Challenge.rw_unbent_k61_whole_clocks_are_obvious).prog) (w := w) KX G hmg c cx
    exact ⟨K, fd, U.spLaw K, KX, hb, fun H a ns hl _ hS => ⟨a, ns, rfl, hS, fun _ => rfl⟩, hF⟩
