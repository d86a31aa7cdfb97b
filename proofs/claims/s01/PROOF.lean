import PyProof.Rows.All
import Wide.All
import OpenK.AllK
import Wide.FinOn
import KE.KStateDown
import Open.SpecLaws
import KE.OsGo
import HandS.ForSpec
import HandS.ForMost
import HandS.Codes
import HandS.Walk
import HandS.Style
import HandS.Conv
import HandS.Zip
import HandS.More
import HandS.Defaults
import HandS.Head0
import HandS.Head1
import HandS.Head2
import HandS.Head3
import HandS.Head4
import HandS.HeadEnd
import HandS.HeadHook1
import HandS.HeadHook2
import KE.DataMinMax
import PySem.Challenge.RW_homemoves_s01_answers
import Lean
import KE.DatumOrd
import PyProof.Claim2Refuses
set_option Elab.async false
set_option linter.all false
section
set_option Elab.async false
set_option linter.all false
set_option maxRecDepth 100000
set_option maxHeartbeats 4000000
namespace Hm
open PySem PySem.Spec PyProof.Rows L2
def top (i : Nat) : Stmt := PySem.Challenge.pw_homemoves_s01_answers.main.body.getD i (.Pass ⟨0, 0, 0, 0⟩)
def names0 : List PySem.Str := ["NONE", "costs_of", "rows_at", "cheapest_change", "changes_of", "Chains", "least_homes", "homes_cost", "least_cost", "changed", "first_home", "best_homes"]
def names1 : List PySem.Str := ["prices_of", "crowded", "priced_with_room", "is_cheaper_elsewhere", "first_unhappy", "assignment_fault", "Row", "within", "is_marked", "marked_version", "SHAPES", "MOST_FACTOR"]
def names2 : List PySem.Str := ["MOST_VERSIONS", "MOST_LENGTH", "MOST_ROW", "MOST_USES", "MOST_ROWS", "MOST_VALUES", "MOST_VALUE", "MOST_WEIGHT", "MOST_LIMIT", "TREE", "DISTANCE", "ADD"]
def names3 : List PySem.Str := ["USE", "ROW", "COUNTERS", "SCHEDULE_COST", "BEST", "BOUND", "CHECK_BOUND", "MEDIAN", "CHECK_MEDIAN", "ASSIGN", "CHECK_ASSIGNMENT", "REMOVE"]
def names4 : List PySem.Str := ["STATUS", "are_within", "is_version", "is_row", "are_parents", "is_tree", "are_limits", "is_check", "is_list_right", "are_right", "weighed_cost", "median"]
def names5 : List PySem.Str := ["weight_beyond", "heavier_side", "schedule_cost", "costs_ahead", "costs_by", "cost_table", "best_schedule", "first_pair", "next_pair", "edge_pairs", "reported", "pair_at"]
def names6 : List PySem.Str := ["bound_of", "fault_at_first", "fault_at", "first_fault", "Tree", "way_up", "ways_up", "BAD_ARGUMENT", "NO_TREE", "NO_ROW", "NO_VERSION", "WRONG_COUNT"]
def names7 : List PySem.Str := ["NO_PLACE", "TOO_MANY_USES", "NO_ROOM", "ROW_CALLS", "counted", "Desk", "lists_from"]
def names : List PySem.Str := names0 ++ (names1 ++ (names2 ++ (names3 ++ (names4 ++ (names5 ++ (names6 ++ (names7)))))))
abbrev s_costs_of : Stmt := top 2
abbrev s_rows_at : Stmt := top 3
abbrev s_cheapest_change : Stmt := top 4
abbrev s_changes_of : Stmt := top 5
abbrev s_Chains_init : Stmt := inClass (top 6) 0
abbrev s_Chains_better : Stmt := inClass (top 6) 1
abbrev s_Chains_go_on : Stmt := inClass (top 6) 2
abbrev s_Chains_settle : Stmt := inClass (top 6) 3
abbrev s_Chains_end : Stmt := inClass (top 6) 4
abbrev s_Chains_homes_behind : Stmt := inClass (top 6) 5
abbrev s_least_homes : Stmt := top 7
abbrev s_homes_cost : Stmt := top 8
abbrev s_least_cost : Stmt := top 9
abbrev s_changed : Stmt := top 10
abbrev s_first_home : Stmt := top 11
abbrev s_best_homes : Stmt := top 12
abbrev s_prices_of : Stmt := top 13
abbrev s_crowded : Stmt := top 14
abbrev s_priced_with_room : Stmt := top 15
abbrev s_is_cheaper_elsewhere : Stmt := top 16
abbrev s_first_unhappy : Stmt := top 17
abbrev s_assignment_fault : Stmt := top 18
abbrev s_Row_init : Stmt := inClass (top 20) 0
abbrev s_Row_follow : Stmt := inClass (top 20) 1
abbrev s_Row_use : Stmt := inClass (top 20) 2
abbrev s_Row_told_counters : Stmt := inClass (top 20) 3
abbrev s_within : Stmt := top 21
abbrev s_is_marked : Stmt := top 22
abbrev s_marked_version : Stmt := top 23
abbrev s_are_within : Stmt := top 52
abbrev s_is_version : Stmt := top 53
abbrev s_is_row : Stmt := top 54
abbrev s_are_parents : Stmt := top 55
abbrev s_is_tree : Stmt := top 56
abbrev s_are_limits : Stmt := top 57
abbrev s_is_check : Stmt := top 58
abbrev s_is_list_right : Stmt := top 59
abbrev s_are_right : Stmt := top 60
abbrev s_weighed_cost : Stmt := top 62
abbrev s_median : Stmt := top 63
abbrev s_weight_beyond : Stmt := top 64
abbrev s_heavier_side : Stmt := top 65
abbrev s_schedule_cost : Stmt := top 67
abbrev s_costs_ahead : Stmt := top 68
abbrev s_costs_by : Stmt := top 69
abbrev s_cost_table : Stmt := top 70
abbrev s_best_schedule : Stmt := top 71
abbrev s_first_pair : Stmt := top 72
abbrev s_next_pair : Stmt := top 73
abbrev s_edge_pairs : Stmt := top 74
abbrev s_reported : Stmt := top 75
abbrev s_pair_at : Stmt := top 76
abbrev s_bound_of : Stmt := top 77
abbrev s_fault_at_first : Stmt := top 78
abbrev s_fault_at : Stmt := top 79
abbrev s_first_fault : Stmt := top 80
abbrev s_Tree_init : Stmt := inClass (top 82) 0
abbrev s_Tree_edges : Stmt := inClass (top 82) 1
abbrev s_Tree_is_lower : Stmt := inClass (top 82) 2
abbrev s_Tree_edges_between : Stmt := inClass (top 82) 3
abbrev s_Tree_measured : Stmt := inClass (top 82) 4
abbrev s_Tree_distances : Stmt := inClass (top 82) 5
abbrev s_Tree_distance : Stmt := inClass (top 82) 6
abbrev s_Tree_way : Stmt := inClass (top 82) 7
abbrev s_Tree_neighbours : Stmt := inClass (top 82) 8
abbrev s_Tree_are_joined : Stmt := inClass (top 82) 9
abbrev s_Tree_beyond : Stmt := inClass (top 82) 10
abbrev s_Tree_fixed_cost : Stmt := inClass (top 82) 11
abbrev s_way_up : Stmt := top 83
abbrev s_ways_up : Stmt := top 84
abbrev s_counted : Stmt := top 95
abbrev s_Desk_init : Stmt := inClass (top 96) 0
abbrev s_Desk_row_at : Stmt := inClass (top 96) 1
abbrev s_Desk_are_there : Stmt := inClass (top 96) 2
abbrev s_Desk_answer : Stmt := inClass (top 96) 3
abbrev s_Desk_answer_tree : Stmt := inClass (top 96) 4
abbrev s_Desk_answer_row : Stmt := inClass (top 96) 5
abbrev s_Desk_set_tree : Stmt := inClass (top 96) 6
abbrev s_Desk_distance : Stmt := inClass (top 96) 7
abbrev s_Desk_add : Stmt := inClass (top 96) 8
abbrev s_Desk_use : Stmt := inClass (top 96) 9
abbrev s_Desk_told_row : Stmt := inClass (top 96) 10
abbrev s_Desk_told_schedule_cost : Stmt := inClass (top 96) 11
abbrev s_Desk_bound : Stmt := inClass (top 96) 12
abbrev s_Desk_check_bound : Stmt := inClass (top 96) 13
abbrev s_Desk_told_median : Stmt := inClass (top 96) 14
abbrev s_Desk_check_median : Stmt := inClass (top 96) 15
abbrev s_Desk_fixed_costs : Stmt := inClass (top 96) 16
abbrev s_Desk_assign : Stmt := inClass (top 96) 17
abbrev s_Desk_check_assignment : Stmt := inClass (top 96) 18
abbrev s_Desk_remove : Stmt := inClass (top 96) 19
abbrev s_Desk_status : Stmt := inClass (top 96) 20
abbrev s_lists_from : Stmt := top 98
abbrev s_answers : Stmt := top 99
def fa0 : List He.Fa := [.cls "Chains", .mkr "Chains", .noat "Chains" "homes", .noat "Chains" "changes", .noat "Chains" "sums", .noat "Chains" "ahead", .noat "Chains" "rows", .noat "Chains" "limits", .cls "Row", .mkr "Row", .noat "Row" "number", .noat "Row" "first"]
def fa1 : List He.Fa := [.noat "Row" "home", .noat "Row" "marks", .noat "Row" "counters", .noat "Row" "uses", .noat "Row" "cost", .noat "Row" "moves", .cls "Tree", .mkr "Tree", .noat "Tree" "factor", .noat "Tree" "parents", .noat "Tree" "lengths", .noat "Tree" "count"]
def fa2 : List He.Fa := [.noat "Tree" "ups", .noat "Tree" "table", .cls "Desk", .mkr "Desk", .noat "Desk" "tree", .noat "Desk" "rows", .glo "costs_of", .glo "rows_at", .glo "cheapest_change", .glo "changes_of", .meth "Chains" "better", .meth "Chains" "go_on"]
def fa3 : List He.Fa := [.meth "Chains" "settle", .meth "Chains" "end", .meth "Chains" "homes_behind", .glo "least_homes", .glo "homes_cost", .glo "least_cost", .glo "changed", .glo "first_home", .glo "best_homes", .glo "prices_of", .glo "crowded", .glo "priced_with_room"]
def fa4 : List He.Fa := [.glo "is_cheaper_elsewhere", .glo "first_unhappy", .glo "assignment_fault", .meth "Row" "follow", .meth "Row" "use", .meth "Row" "told_counters", .glo "within", .glo "is_marked", .glo "marked_version", .glo "are_within", .glo "is_version", .glo "is_row"]
def fa5 : List He.Fa := [.glo "are_parents", .glo "is_tree", .glo "are_limits", .glo "is_check", .glo "is_list_right", .glo "are_right", .glo "weighed_cost", .glo "median", .glo "weight_beyond", .glo "heavier_side", .glo "schedule_cost", .glo "costs_ahead"]
def fa6 : List He.Fa := [.glo "costs_by", .glo "cost_table", .glo "best_schedule", .glo "first_pair", .glo "next_pair", .glo "edge_pairs", .glo "reported", .glo "pair_at", .glo "bound_of", .glo "fault_at_first", .glo "fault_at", .glo "first_fault"]
def fa7 : List He.Fa := [.meth "Tree" "edges", .meth "Tree" "is_lower", .meth "Tree" "edges_between", .meth "Tree" "measured", .meth "Tree" "distances", .meth "Tree" "distance", .meth "Tree" "way", .meth "Tree" "neighbours", .meth "Tree" "are_joined", .meth "Tree" "beyond", .meth "Tree" "fixed_cost", .glo "way_up"]
def fa8 : List He.Fa := [.glo "ways_up", .glo "counted", .meth "Desk" "row_at", .meth "Desk" "are_there", .meth "Desk" "answer", .meth "Desk" "answer_tree", .meth "Desk" "answer_row", .meth "Desk" "set_tree", .meth "Desk" "distance", .meth "Desk" "add", .meth "Desk" "use", .meth "Desk" "told_row"]
def fa9 : List He.Fa := [.meth "Desk" "told_schedule_cost", .meth "Desk" "bound", .meth "Desk" "check_bound", .meth "Desk" "told_median", .meth "Desk" "check_median", .meth "Desk" "fixed_costs", .meth "Desk" "assign", .meth "Desk" "check_assignment", .meth "Desk" "remove", .meth "Desk" "status", .glo "lists_from", .glo "answers"]
def fa10 : List He.Fa := [.glo "Chains", .glo "Row", .glo "Tree", .glo "Desk", .int "NONE" (-1), .int "MOST_FACTOR" (20), .int "MOST_VERSIONS" (10), .int "MOST_LENGTH" (100), .int "MOST_ROW" (9999), .int "MOST_USES" (60), .int "MOST_ROWS" (12), .int "MOST_VALUES" (1200)]
def fa11 : List He.Fa := [.int "MOST_VALUE" (1000000000), .int "MOST_WEIGHT" (1000), .int "MOST_LIMIT" (12), .int "TREE" (0), .int "DISTANCE" (1), .int "ADD" (2), .int "USE" (3), .int "ROW" (4), .int "COUNTERS" (5), .int "SCHEDULE_COST" (6), .int "BEST" (7), .int "BOUND" (8)]
def fa12 : List He.Fa := [.int "CHECK_BOUND" (9), .int "MEDIAN" (10), .int "CHECK_MEDIAN" (11), .int "ASSIGN" (12), .int "CHECK_ASSIGNMENT" (13), .int "REMOVE" (14), .int "STATUS" (15), .free "len", .free "sum", .free "min", .free "max", .free "all"]
def fa13 : List He.Fa := [.free "range", .free "enumerate", .free "zip", .free "list", .free "int", .free "abs", .glo "SHAPES", .glo "ROW_CALLS", .glo "BAD_ARGUMENT", .glo "NO_TREE", .glo "NO_ROW", .glo "NO_VERSION"]
def fa14 : List He.Fa := [.glo "WRONG_COUNT", .glo "NO_PLACE", .glo "TOO_MANY_USES", .glo "NO_ROOM"]
def fa : List He.Fa := fa0 ++ (fa1 ++ (fa2 ++ (fa3 ++ (fa4 ++ (fa5 ++ (fa6 ++ (fa7 ++ (fa8 ++ (fa9 ++ (fa10 ++ (fa11 ++ (fa12 ++ (fa13 ++ (fa14))))))))))))))
def fn0 : List He.DefD := [⟨("costs_of", none), "costs_of", "costs_of", defArgs s_costs_of, defBody s_costs_of, defScope s_costs_of, [], []⟩, ⟨("rows_at", none), "rows_at", "rows_at", defArgs s_rows_at, defBody s_rows_at, defScope s_rows_at, [], []⟩, ⟨("cheapest_change", none), "cheapest_change", "cheapest_change", defArgs s_cheapest_change, defBody s_cheapest_change, defScope s_cheapest_change, [], []⟩, ⟨("changes_of", none), "changes_of", "changes_of", defArgs s_changes_of, defBody s_changes_of, defScope s_changes_of, [], []⟩, ⟨("Chains", some "__init__"), "__init__", "Chains.__init__", defArgs s_Chains_init, defBody s_Chains_init, defScope s_Chains_init, [], []⟩, ⟨("Chains", some "better"), "better", "Chains.better", defArgs s_Chains_better, defBody s_Chains_better, defScope s_Chains_better, [], []⟩]
def fn1 : List He.DefD := [⟨("Chains", some "go_on"), "go_on", "Chains.go_on", defArgs s_Chains_go_on, defBody s_Chains_go_on, defScope s_Chains_go_on, [], []⟩, ⟨("Chains", some "settle"), "settle", "Chains.settle", defArgs s_Chains_settle, defBody s_Chains_settle, defScope s_Chains_settle, [], []⟩, ⟨("Chains", some "end"), "end", "Chains.end", defArgs s_Chains_end, defBody s_Chains_end, defScope s_Chains_end, [], []⟩, ⟨("Chains", some "homes_behind"), "homes_behind", "Chains.homes_behind", defArgs s_Chains_homes_behind, defBody s_Chains_homes_behind, defScope s_Chains_homes_behind, [], []⟩, ⟨("least_homes", none), "least_homes", "least_homes", defArgs s_least_homes, defBody s_least_homes, defScope s_least_homes, [], []⟩, ⟨("homes_cost", none), "homes_cost", "homes_cost", defArgs s_homes_cost, defBody s_homes_cost, defScope s_homes_cost, [], []⟩]
def fn2 : List He.DefD := [⟨("least_cost", none), "least_cost", "least_cost", defArgs s_least_cost, defBody s_least_cost, defScope s_least_cost, [], []⟩, ⟨("changed", none), "changed", "changed", defArgs s_changed, defBody s_changed, defScope s_changed, [], []⟩, ⟨("first_home", none), "first_home", "first_home", defArgs s_first_home, defBody s_first_home, defScope s_first_home, [], []⟩, ⟨("best_homes", none), "best_homes", "best_homes", defArgs s_best_homes, defBody s_best_homes, defScope s_best_homes, [], []⟩, ⟨("prices_of", none), "prices_of", "prices_of", defArgs s_prices_of, defBody s_prices_of, defScope s_prices_of, [], []⟩, ⟨("crowded", none), "crowded", "crowded", defArgs s_crowded, defBody s_crowded, defScope s_crowded, [], []⟩]
def fn3 : List He.DefD := [⟨("priced_with_room", none), "priced_with_room", "priced_with_room", defArgs s_priced_with_room, defBody s_priced_with_room, defScope s_priced_with_room, [], []⟩, ⟨("is_cheaper_elsewhere", none), "is_cheaper_elsewhere", "is_cheaper_elsewhere", defArgs s_is_cheaper_elsewhere, defBody s_is_cheaper_elsewhere, defScope s_is_cheaper_elsewhere, [], []⟩, ⟨("first_unhappy", none), "first_unhappy", "first_unhappy", defArgs s_first_unhappy, defBody s_first_unhappy, defScope s_first_unhappy, [], []⟩, ⟨("assignment_fault", none), "assignment_fault", "assignment_fault", defArgs s_assignment_fault, defBody s_assignment_fault, defScope s_assignment_fault, [], []⟩, ⟨("Row", some "__init__"), "__init__", "Row.__init__", defArgs s_Row_init, defBody s_Row_init, defScope s_Row_init, [], []⟩, ⟨("Row", some "follow"), "follow", "Row.follow", defArgs s_Row_follow, defBody s_Row_follow, defScope s_Row_follow, [], []⟩]
def fn4 : List He.DefD := [⟨("Row", some "use"), "use", "Row.use", defArgs s_Row_use, defBody s_Row_use, defScope s_Row_use, [], []⟩, ⟨("Row", some "told_counters"), "told_counters", "Row.told_counters", defArgs s_Row_told_counters, defBody s_Row_told_counters, defScope s_Row_told_counters, [], []⟩, ⟨("within", none), "within", "within", defArgs s_within, defBody s_within, defScope s_within, [], []⟩, ⟨("is_marked", none), "is_marked", "is_marked", defArgs s_is_marked, defBody s_is_marked, defScope s_is_marked, [], []⟩, ⟨("marked_version", none), "marked_version", "marked_version", defArgs s_marked_version, defBody s_marked_version, defScope s_marked_version, [], []⟩, ⟨("are_within", none), "are_within", "are_within", defArgs s_are_within, defBody s_are_within, defScope s_are_within, [], []⟩]
def fn5 : List He.DefD := [⟨("is_version", none), "is_version", "is_version", defArgs s_is_version, defBody s_is_version, defScope s_is_version, [], []⟩, ⟨("is_row", none), "is_row", "is_row", defArgs s_is_row, defBody s_is_row, defScope s_is_row, [], []⟩, ⟨("are_parents", none), "are_parents", "are_parents", defArgs s_are_parents, defBody s_are_parents, defScope s_are_parents, [], []⟩, ⟨("is_tree", none), "is_tree", "is_tree", defArgs s_is_tree, defBody s_is_tree, defScope s_is_tree, [], []⟩, ⟨("are_limits", none), "are_limits", "are_limits", defArgs s_are_limits, defBody s_are_limits, defScope s_are_limits, [], []⟩, ⟨("is_check", none), "is_check", "is_check", defArgs s_is_check, defBody s_is_check, defScope s_is_check, [], []⟩]
def fn6 : List He.DefD := [⟨("is_list_right", none), "is_list_right", "is_list_right", defArgs s_is_list_right, defBody s_is_list_right, defScope s_is_list_right, [], []⟩, ⟨("are_right", none), "are_right", "are_right", defArgs s_are_right, defBody s_are_right, defScope s_are_right, [], []⟩, ⟨("weighed_cost", none), "weighed_cost", "weighed_cost", defArgs s_weighed_cost, defBody s_weighed_cost, defScope s_weighed_cost, [], []⟩, ⟨("median", none), "median", "median", defArgs s_median, defBody s_median, defScope s_median, [], []⟩, ⟨("weight_beyond", none), "weight_beyond", "weight_beyond", defArgs s_weight_beyond, defBody s_weight_beyond, defScope s_weight_beyond, [], []⟩, ⟨("heavier_side", none), "heavier_side", "heavier_side", defArgs s_heavier_side, defBody s_heavier_side, defScope s_heavier_side, [], []⟩]
def fn7 : List He.DefD := [⟨("schedule_cost", none), "schedule_cost", "schedule_cost", defArgs s_schedule_cost, defBody s_schedule_cost, defScope s_schedule_cost, [], []⟩, ⟨("costs_ahead", none), "costs_ahead", "costs_ahead", defArgs s_costs_ahead, defBody s_costs_ahead, defScope s_costs_ahead, [], []⟩, ⟨("costs_by", none), "costs_by", "costs_by", defArgs s_costs_by, defBody s_costs_by, defScope s_costs_by, [], []⟩, ⟨("cost_table", none), "cost_table", "cost_table", defArgs s_cost_table, defBody s_cost_table, defScope s_cost_table, [], []⟩, ⟨("best_schedule", none), "best_schedule", "best_schedule", defArgs s_best_schedule, defBody s_best_schedule, defScope s_best_schedule, [], []⟩, ⟨("first_pair", none), "first_pair", "first_pair", defArgs s_first_pair, defBody s_first_pair, defScope s_first_pair, [], []⟩]
def fn8 : List He.DefD := [⟨("next_pair", none), "next_pair", "next_pair", defArgs s_next_pair, defBody s_next_pair, defScope s_next_pair, [], []⟩, ⟨("edge_pairs", none), "edge_pairs", "edge_pairs", defArgs s_edge_pairs, defBody s_edge_pairs, defScope s_edge_pairs, [], []⟩, ⟨("reported", none), "reported", "reported", defArgs s_reported, defBody s_reported, defScope s_reported, [], []⟩, ⟨("pair_at", none), "pair_at", "pair_at", defArgs s_pair_at, defBody s_pair_at, defScope s_pair_at, [], []⟩, ⟨("bound_of", none), "bound_of", "bound_of", defArgs s_bound_of, defBody s_bound_of, defScope s_bound_of, [], []⟩, ⟨("fault_at_first", none), "fault_at_first", "fault_at_first", defArgs s_fault_at_first, defBody s_fault_at_first, defScope s_fault_at_first, [], []⟩]
def fn9 : List He.DefD := [⟨("fault_at", none), "fault_at", "fault_at", defArgs s_fault_at, defBody s_fault_at, defScope s_fault_at, [], []⟩, ⟨("first_fault", none), "first_fault", "first_fault", defArgs s_first_fault, defBody s_first_fault, defScope s_first_fault, [], []⟩, ⟨("Tree", some "__init__"), "__init__", "Tree.__init__", defArgs s_Tree_init, defBody s_Tree_init, defScope s_Tree_init, [], []⟩, ⟨("Tree", some "edges"), "edges", "Tree.edges", defArgs s_Tree_edges, defBody s_Tree_edges, defScope s_Tree_edges, [], []⟩, ⟨("Tree", some "is_lower"), "is_lower", "Tree.is_lower", defArgs s_Tree_is_lower, defBody s_Tree_is_lower, defScope s_Tree_is_lower, [], []⟩, ⟨("Tree", some "edges_between"), "edges_between", "Tree.edges_between", defArgs s_Tree_edges_between, defBody s_Tree_edges_between, defScope s_Tree_edges_between, [], []⟩]
def fn10 : List He.DefD := [⟨("Tree", some "measured"), "measured", "Tree.measured", defArgs s_Tree_measured, defBody s_Tree_measured, defScope s_Tree_measured, [], []⟩, ⟨("Tree", some "distances"), "distances", "Tree.distances", defArgs s_Tree_distances, defBody s_Tree_distances, defScope s_Tree_distances, [], []⟩, ⟨("Tree", some "distance"), "distance", "Tree.distance", defArgs s_Tree_distance, defBody s_Tree_distance, defScope s_Tree_distance, [], []⟩, ⟨("Tree", some "way"), "way", "Tree.way", defArgs s_Tree_way, defBody s_Tree_way, defScope s_Tree_way, [], []⟩, ⟨("Tree", some "neighbours"), "neighbours", "Tree.neighbours", defArgs s_Tree_neighbours, defBody s_Tree_neighbours, defScope s_Tree_neighbours, [], []⟩, ⟨("Tree", some "are_joined"), "are_joined", "Tree.are_joined", defArgs s_Tree_are_joined, defBody s_Tree_are_joined, defScope s_Tree_are_joined, [], []⟩]
def fn11 : List He.DefD := [⟨("Tree", some "beyond"), "beyond", "Tree.beyond", defArgs s_Tree_beyond, defBody s_Tree_beyond, defScope s_Tree_beyond, [], []⟩, ⟨("Tree", some "fixed_cost"), "fixed_cost", "Tree.fixed_cost", defArgs s_Tree_fixed_cost, defBody s_Tree_fixed_cost, defScope s_Tree_fixed_cost, [], []⟩, ⟨("way_up", none), "way_up", "way_up", defArgs s_way_up, defBody s_way_up, defScope s_way_up, [], []⟩, ⟨("ways_up", none), "ways_up", "ways_up", defArgs s_ways_up, defBody s_ways_up, defScope s_ways_up, [], []⟩, ⟨("counted", none), "counted", "counted", defArgs s_counted, defBody s_counted, defScope s_counted, [], []⟩, ⟨("Desk", some "__init__"), "__init__", "Desk.__init__", defArgs s_Desk_init, defBody s_Desk_init, defScope s_Desk_init, [], []⟩]
def fn12 : List He.DefD := [⟨("Desk", some "row_at"), "row_at", "Desk.row_at", defArgs s_Desk_row_at, defBody s_Desk_row_at, defScope s_Desk_row_at, [], []⟩, ⟨("Desk", some "are_there"), "are_there", "Desk.are_there", defArgs s_Desk_are_there, defBody s_Desk_are_there, defScope s_Desk_are_there, [], []⟩, ⟨("Desk", some "answer"), "answer", "Desk.answer", defArgs s_Desk_answer, defBody s_Desk_answer, defScope s_Desk_answer, [], []⟩, ⟨("Desk", some "answer_tree"), "answer_tree", "Desk.answer_tree", defArgs s_Desk_answer_tree, defBody s_Desk_answer_tree, defScope s_Desk_answer_tree, [], []⟩, ⟨("Desk", some "answer_row"), "answer_row", "Desk.answer_row", defArgs s_Desk_answer_row, defBody s_Desk_answer_row, defScope s_Desk_answer_row, [], []⟩, ⟨("Desk", some "set_tree"), "set_tree", "Desk.set_tree", defArgs s_Desk_set_tree, defBody s_Desk_set_tree, defScope s_Desk_set_tree, [], []⟩]
def fn13 : List He.DefD := [⟨("Desk", some "distance"), "distance", "Desk.distance", defArgs s_Desk_distance, defBody s_Desk_distance, defScope s_Desk_distance, [], []⟩, ⟨("Desk", some "add"), "add", "Desk.add", defArgs s_Desk_add, defBody s_Desk_add, defScope s_Desk_add, [], []⟩, ⟨("Desk", some "use"), "use", "Desk.use", defArgs s_Desk_use, defBody s_Desk_use, defScope s_Desk_use, [], []⟩, ⟨("Desk", some "told_row"), "told_row", "Desk.told_row", defArgs s_Desk_told_row, defBody s_Desk_told_row, defScope s_Desk_told_row, [], []⟩, ⟨("Desk", some "told_schedule_cost"), "told_schedule_cost", "Desk.told_schedule_cost", defArgs s_Desk_told_schedule_cost, defBody s_Desk_told_schedule_cost, defScope s_Desk_told_schedule_cost, [], []⟩, ⟨("Desk", some "bound"), "bound", "Desk.bound", defArgs s_Desk_bound, defBody s_Desk_bound, defScope s_Desk_bound, [], []⟩]
def fn14 : List He.DefD := [⟨("Desk", some "check_bound"), "check_bound", "Desk.check_bound", defArgs s_Desk_check_bound, defBody s_Desk_check_bound, defScope s_Desk_check_bound, [], []⟩, ⟨("Desk", some "told_median"), "told_median", "Desk.told_median", defArgs s_Desk_told_median, defBody s_Desk_told_median, defScope s_Desk_told_median, [], []⟩, ⟨("Desk", some "check_median"), "check_median", "Desk.check_median", defArgs s_Desk_check_median, defBody s_Desk_check_median, defScope s_Desk_check_median, [], []⟩, ⟨("Desk", some "fixed_costs"), "fixed_costs", "Desk.fixed_costs", defArgs s_Desk_fixed_costs, defBody s_Desk_fixed_costs, defScope s_Desk_fixed_costs, [], []⟩, ⟨("Desk", some "assign"), "assign", "Desk.assign", defArgs s_Desk_assign, defBody s_Desk_assign, defScope s_Desk_assign, [], []⟩, ⟨("Desk", some "check_assignment"), "check_assignment", "Desk.check_assignment", defArgs s_Desk_check_assignment, defBody s_Desk_check_assignment, defScope s_Desk_check_assignment, [], []⟩]
def fn15 : List He.DefD := [⟨("Desk", some "remove"), "remove", "Desk.remove", defArgs s_Desk_remove, defBody s_Desk_remove, defScope s_Desk_remove, [], []⟩, ⟨("Desk", some "status"), "status", "Desk.status", defArgs s_Desk_status, defBody s_Desk_status, defScope s_Desk_status, [], []⟩, ⟨("lists_from", none), "lists_from", "lists_from", defArgs s_lists_from, defBody s_lists_from, defScope s_lists_from, [], []⟩, ⟨("answers", none), "answers", "answers", defArgs s_answers, defBody s_answers, defScope s_answers, [], []⟩]
def fn : List He.DefD := fn0 ++ (fn1 ++ (fn2 ++ (fn3 ++ (fn4 ++ (fn5 ++ (fn6 ++ (fn7 ++ (fn8 ++ (fn9 ++ (fn10 ++ (fn11 ++ (fn12 ++ (fn13 ++ (fn14 ++ (fn15)))))))))))))))
def tracked : List Addr := [3, 84, 200, 491, 672, 83, 199, 490, 671, 35, 36, 37, 38, 39, 40, 41, 42, 43, 44, 45, 46, 47, 48, 49, 50, 51, 52, 53, 54, 55, 56, 57, 58, 59, 60, 61, 62, 63, 64, 65, 66, 67, 68, 69, 70, 71, 72, 73, 74, 75, 76, 77, 78, 79, 80, 81, 82, 19, 24, 29, 34, 95, 100, 107, 112, 119, 126, 131, 138, 145, 150, 157, 164, 211, 216, 221, 243, 250, 257, 262, 269, 276, 283, 290, 295, 300, 305, 310, 317, 324, 331, 338, 345, 352, 359, 366, 373, 380, 387, 392, 399, 406, 413, 502, 507, 523, 683, 690, 176, 183, 190, 197, 425, 432, 439, 444, 449, 454, 461, 466, 471, 478, 483, 488, 537, 544, 549, 556, 563, 570, 577, 584, 589, 596, 603, 610, 617, 624, 631, 638, 643, 650, 657, 662, 669, 18, 23, 28, 33, 94, 99, 106, 111, 118, 125, 130, 137, 144, 149, 156, 163, 210, 215, 220, 242, 249, 256, 261, 268, 275, 282, 289, 294, 299, 304, 309, 316, 323, 330, 337, 344, 351, 358, 365, 372, 379, 386, 391, 398, 405, 412, 501, 506, 522, 682, 689, 175, 182, 189, 196, 424, 431, 438, 443, 448, 453, 460, 465, 470, 477, 482, 487, 536, 543, 548, 555, 562, 569, 576, 583, 588, 595, 602, 609, 616, 623, 630, 637, 642, 649, 656, 661, 668, 238, 222, 223, 224, 225, 226, 227, 228, 229, 230, 231, 232, 233, 234, 235, 236, 237, 508, 509, 510, 511, 512, 513, 514, 515, 516]
def tupA (K : PySem.W.Frag) (a : Addr) (vs : List V) : Bool := match K.lookup a with
  | some ⟨.type c, _, .seq its _, _⟩ => decide (c = "tuple") && (decide (its.size ≤ sizeLine) && He.relAll vs its.toList)
  | _ => false
theorem tupA_ok {K : PySem.W.Frag} {a : Addr} {vs : List V} (h : tupA K a vs = true) (H : Hp) : SqT K H a vs := by
  unfold tupA at h
  split at h
  · rename_i c od its n sl q
    obtain ⟨h1, h2⟩ := He.ba h
    obtain ⟨h3, h4⟩ := He.ba h2
    exact .inr ⟨_, its, n, q, congrArg Value.type (of_decide_eq_true h1), rfl, of_decide_eq_true h3, He.relAll_ok h4⟩
  · cases h
/-- the shapes' pairs stand at 222 and on -/
def shapePairs : List (Int × Int) := [(1, 2), (2, 0), (2, 0), (1, 1), (1, 0), (1, 0), (1, 1), (1, 0), (1, 0), (1, 1), (0, 1), (1, 1), (0, 1), (0, 3), (1, 0), (0, 0)]
def shapeAt (i : Nat) : Addr := 222 + i
def xtra (K : PySem.W.Frag) : Bool := He.tupB K "SHAPES" ((List.range 16).map fun i => .adr fun _ => shapeAt i) && ((List.range 16).all (fun i => tupA K (shapeAt i) [.int (shapePairs.getD i (0, 0)).1, .int (shapePairs.getD i (0, 0)).2]) &&
  (He.tupB K "ROW_CALLS" [.int 3, .int 4, .int 5, .int 6, .int 7, .int 8, .int 9, .int 14] && (He.lstB K "BAD_ARGUMENT" [.int (-1)] && (He.lstB K "NO_TREE" [.int (-2)] && (He.lstB K "NO_ROW" [.int (-3)] && (He.lstB K "NO_VERSION" [.int (-4)] && (He.lstB K "WRONG_COUNT" [.int (-5)] && (He.lstB K "NO_PLACE" [.int (-6)] && (He.lstB K "TOO_MANY_USES" [.int (-7)] && (He.lstB K "NO_ROOM" [.int (-8)]))))))))))
def obsX (K : PySem.W.Frag) : Bool × He.AlD := (xtra K, He.obsD fa fn K)
def hkX : PySem.W.Hook where
  α := Bool × He.AlD
  obs := fun s => obsX (He.frG s.heap.get? tracked)
  val := fun _ => (true, He.valD fn)
  says := fun _ h => ∃ K : PySem.W.Frag, K.In h ∧ xtra K = true ∧ He.SaysD fa fn K
  of := fun _ _ e => ⟨_, He.frG_in, congrArg (fun z : Bool × He.AlD => z.1) e, congrArg (fun z : Bool × He.AlD => z.2) e⟩
  keeps := fun _ _ _ ⟨K, hK, c⟩ k => ⟨K, PySem.W.Frag.In.keeps hK k, c⟩
/-- what the top has written -/
structure Top (K : PySem.W.Frag) (mg : Str → Option Value) : Prop where
  says : He.SaysD fa fn K
  xt : xtra K = true
  ns : ∃ h : Heap, K.In h ∧ h.Ns mainGlobals mg
section
variable {K : PySem.W.Frag} {mg : Str → Option Value}
theorem Top.glo (T : Top K mg) {x : Str} (i : Nat) (h : fa[i]? = some (.glo x) := by rfl) : mg x = some (.ref (He.ga K x)) := by
  obtain ⟨hp, X, G⟩ := T.ns
  exact He.glo_ok X G (T.says.fact i h)
theorem Top.free (T : Top K mg) {x : Str} (i : Nat) (h : fa[i]? = some (.free x) := by rfl) : mg x = none := by
  obtain ⟨hp, X, G⟩ := T.ns
  exact He.free_ok X G (T.says.fact i h)
theorem Top.int (T : Top K mg) {x : Str} {n : Int} (i : Nat) (h : fa[i]? = some (.int x n) := by rfl) : ∃ u, mg x = some u ∧ RelV (.int n) u := by
  obtain ⟨hp, X, G⟩ := T.ns
  obtain ⟨t, e⟩ := He.int_ok X G (T.says.fact i h)
  exact ⟨_, e, t, rfl⟩
theorem Top.obj (T : Top K mg) {x : Str} (i : Nat) (h : fa[i]? = some (.glo x) := by rfl) : ∃ u, mg x = some u ∧ RelV (.ref (He.ga K x)) u := ⟨_, T.glo i h, rfl⟩
theorem g_NONE (T : Top K mg) : ∃ u, mg "NONE" = some u ∧ RelV (.int (-1)) u := T.int 124
theorem g_MOST_FACTOR (T : Top K mg) : ∃ u, mg "MOST_FACTOR" = some u ∧ RelV (.int (20)) u := T.int 125
theorem g_MOST_VERSIONS (T : Top K mg) : ∃ u, mg "MOST_VERSIONS" = some u ∧ RelV (.int (10)) u := T.int 126
theorem g_MOST_LENGTH (T : Top K mg) : ∃ u, mg "MOST_LENGTH" = some u ∧ RelV (.int (100)) u := T.int 127
theorem g_MOST_ROW (T : Top K mg) : ∃ u, mg "MOST_ROW" = some u ∧ RelV (.int (9999)) u := T.int 128
theorem g_MOST_USES (T : Top K mg) : ∃ u, mg "MOST_USES" = some u ∧ RelV (.int (60)) u := T.int 129
theorem g_MOST_ROWS (T : Top K mg) : ∃ u, mg "MOST_ROWS" = some u ∧ RelV (.int (12)) u := T.int 130
theorem g_MOST_VALUES (T : Top K mg) : ∃ u, mg "MOST_VALUES" = some u ∧ RelV (.int (1200)) u := T.int 131
theorem g_MOST_VALUE (T : Top K mg) : ∃ u, mg "MOST_VALUE" = some u ∧ RelV (.int (1000000000)) u := T.int 132
theorem g_MOST_WEIGHT (T : Top K mg) : ∃ u, mg "MOST_WEIGHT" = some u ∧ RelV (.int (1000)) u := T.int 133
theorem g_MOST_LIMIT (T : Top K mg) : ∃ u, mg "MOST_LIMIT" = some u ∧ RelV (.int (12)) u := T.int 134
theorem g_TREE (T : Top K mg) : ∃ u, mg "TREE" = some u ∧ RelV (.int (0)) u := T.int 135
theorem g_DISTANCE (T : Top K mg) : ∃ u, mg "DISTANCE" = some u ∧ RelV (.int (1)) u := T.int 136
theorem g_ADD (T : Top K mg) : ∃ u, mg "ADD" = some u ∧ RelV (.int (2)) u := T.int 137
theorem g_USE (T : Top K mg) : ∃ u, mg "USE" = some u ∧ RelV (.int (3)) u := T.int 138
theorem g_ROW (T : Top K mg) : ∃ u, mg "ROW" = some u ∧ RelV (.int (4)) u := T.int 139
theorem g_COUNTERS (T : Top K mg) : ∃ u, mg "COUNTERS" = some u ∧ RelV (.int (5)) u := T.int 140
theorem g_SCHEDULE_COST (T : Top K mg) : ∃ u, mg "SCHEDULE_COST" = some u ∧ RelV (.int (6)) u := T.int 141
theorem g_BEST (T : Top K mg) : ∃ u, mg "BEST" = some u ∧ RelV (.int (7)) u := T.int 142
theorem g_BOUND (T : Top K mg) : ∃ u, mg "BOUND" = some u ∧ RelV (.int (8)) u := T.int 143
theorem g_CHECK_BOUND (T : Top K mg) : ∃ u, mg "CHECK_BOUND" = some u ∧ RelV (.int (9)) u := T.int 144
theorem g_MEDIAN (T : Top K mg) : ∃ u, mg "MEDIAN" = some u ∧ RelV (.int (10)) u := T.int 145
theorem g_CHECK_MEDIAN (T : Top K mg) : ∃ u, mg "CHECK_MEDIAN" = some u ∧ RelV (.int (11)) u := T.int 146
theorem g_ASSIGN (T : Top K mg) : ∃ u, mg "ASSIGN" = some u ∧ RelV (.int (12)) u := T.int 147
theorem g_CHECK_ASSIGNMENT (T : Top K mg) : ∃ u, mg "CHECK_ASSIGNMENT" = some u ∧ RelV (.int (13)) u := T.int 148
theorem g_REMOVE (T : Top K mg) : ∃ u, mg "REMOVE" = some u ∧ RelV (.int (14)) u := T.int 149
theorem g_STATUS (T : Top K mg) : ∃ u, mg "STATUS" = some u ∧ RelV (.int (15)) u := T.int 150
theorem g_SHAPES (T : Top K mg) : ∃ u, mg "SHAPES" = some u ∧ RelV (.ref (He.ga K "SHAPES")) u := T.obj 162
theorem g_ROW_CALLS (T : Top K mg) : ∃ u, mg "ROW_CALLS" = some u ∧ RelV (.ref (He.ga K "ROW_CALLS")) u := T.obj 163
theorem g_BAD_ARGUMENT (T : Top K mg) : ∃ u, mg "BAD_ARGUMENT" = some u ∧ RelV (.ref (He.ga K "BAD_ARGUMENT")) u := T.obj 164
theorem g_NO_TREE (T : Top K mg) : ∃ u, mg "NO_TREE" = some u ∧ RelV (.ref (He.ga K "NO_TREE")) u := T.obj 165
theorem g_NO_ROW (T : Top K mg) : ∃ u, mg "NO_ROW" = some u ∧ RelV (.ref (He.ga K "NO_ROW")) u := T.obj 166
theorem g_NO_VERSION (T : Top K mg) : ∃ u, mg "NO_VERSION" = some u ∧ RelV (.ref (He.ga K "NO_VERSION")) u := T.obj 167
theorem g_WRONG_COUNT (T : Top K mg) : ∃ u, mg "WRONG_COUNT" = some u ∧ RelV (.ref (He.ga K "WRONG_COUNT")) u := T.obj 168
theorem g_NO_PLACE (T : Top K mg) : ∃ u, mg "NO_PLACE" = some u ∧ RelV (.ref (He.ga K "NO_PLACE")) u := T.obj 169
theorem g_TOO_MANY_USES (T : Top K mg) : ∃ u, mg "TOO_MANY_USES" = some u ∧ RelV (.ref (He.ga K "TOO_MANY_USES")) u := T.obj 170
theorem g_NO_ROOM (T : Top K mg) : ∃ u, mg "NO_ROOM" = some u ∧ RelV (.ref (He.ga K "NO_ROOM")) u := T.obj 171
theorem T_len (T : Top K mg) : mg "len" = none := T.free 151
theorem T_sum (T : Top K mg) : mg "sum" = none := T.free 152
theorem T_min (T : Top K mg) : mg "min" = none := T.free 153
theorem T_max (T : Top K mg) : mg "max" = none := T.free 154
theorem T_all (T : Top K mg) : mg "all" = none := T.free 155
theorem T_range (T : Top K mg) : mg "range" = none := T.free 156
theorem T_enumerate (T : Top K mg) : mg "enumerate" = none := T.free 157
theorem T_zip (T : Top K mg) : mg "zip" = none := T.free 158
theorem T_list (T : Top K mg) : mg "list" = none := T.free 159
theorem T_int (T : Top K mg) : mg "int" = none := T.free 160
theorem T_abs (T : Top K mg) : mg "abs" = none := T.free 161
theorem b_len : bootBuiltins "len" = some (.builtin "len") := by decide +kernel
theorem b_sum : bootBuiltins "sum" = some (.builtin "sum") := by decide +kernel
theorem b_min : bootBuiltins "min" = some (.builtin "min") := by decide +kernel
theorem b_max : bootBuiltins "max" = some (.builtin "max") := by decide +kernel
theorem b_all : bootBuiltins "all" = some (.builtin "all") := by decide +kernel
theorem b_abs : bootBuiltins "abs" = some (.builtin "abs") := by decide +kernel
theorem b_list : bootBuiltins "list" = some (.type "list") := by decide +kernel
theorem b_int : bootBuiltins "int" = some (.type "int") := by decide +kernel
abbrev C_Chains (K : PySem.W.Frag) : Addr := He.ga K "Chains"
theorem cl_Chains (T : Top K mg) : Cls K (C_Chains K) := He.cls_ok (x := "Chains") (T.says.fact 0)
theorem mk_Chains (T : Top K mg) : Mk K (C_Chains K) (He.fAd K ("Chains", some "__init__")) := He.mkr_ok (x := "Chains") (T.says.fact 1)
theorem gc_Chains (T : Top K mg) : mg "Chains" = some (.ref (C_Chains K)) := T.glo 120
theorem na_Chains_homes (T : Top K mg) : NoAttr K (C_Chains K) "homes" := He.noat_ok (x := "Chains") (f := "homes") (T.says.fact 2)
theorem na_Chains_changes (T : Top K mg) : NoAttr K (C_Chains K) "changes" := He.noat_ok (x := "Chains") (f := "changes") (T.says.fact 3)
theorem na_Chains_sums (T : Top K mg) : NoAttr K (C_Chains K) "sums" := He.noat_ok (x := "Chains") (f := "sums") (T.says.fact 4)
theorem na_Chains_ahead (T : Top K mg) : NoAttr K (C_Chains K) "ahead" := He.noat_ok (x := "Chains") (f := "ahead") (T.says.fact 5)
theorem na_Chains_rows (T : Top K mg) : NoAttr K (C_Chains K) "rows" := He.noat_ok (x := "Chains") (f := "rows") (T.says.fact 6)
theorem na_Chains_limits (T : Top K mg) : NoAttr K (C_Chains K) "limits" := He.noat_ok (x := "Chains") (f := "limits") (T.says.fact 7)
abbrev C_Row (K : PySem.W.Frag) : Addr := He.ga K "Row"
theorem cl_Row (T : Top K mg) : Cls K (C_Row K) := He.cls_ok (x := "Row") (T.says.fact 8)
theorem mk_Row (T : Top K mg) : Mk K (C_Row K) (He.fAd K ("Row", some "__init__")) := He.mkr_ok (x := "Row") (T.says.fact 9)
theorem gc_Row (T : Top K mg) : mg "Row" = some (.ref (C_Row K)) := T.glo 121
theorem na_Row_number (T : Top K mg) : NoAttr K (C_Row K) "number" := He.noat_ok (x := "Row") (f := "number") (T.says.fact 10)
theorem na_Row_first (T : Top K mg) : NoAttr K (C_Row K) "first" := He.noat_ok (x := "Row") (f := "first") (T.says.fact 11)
theorem na_Row_home (T : Top K mg) : NoAttr K (C_Row K) "home" := He.noat_ok (x := "Row") (f := "home") (T.says.fact 12)
theorem na_Row_marks (T : Top K mg) : NoAttr K (C_Row K) "marks" := He.noat_ok (x := "Row") (f := "marks") (T.says.fact 13)
theorem na_Row_counters (T : Top K mg) : NoAttr K (C_Row K) "counters" := He.noat_ok (x := "Row") (f := "counters") (T.says.fact 14)
theorem na_Row_uses (T : Top K mg) : NoAttr K (C_Row K) "uses" := He.noat_ok (x := "Row") (f := "uses") (T.says.fact 15)
theorem na_Row_cost (T : Top K mg) : NoAttr K (C_Row K) "cost" := He.noat_ok (x := "Row") (f := "cost") (T.says.fact 16)
theorem na_Row_moves (T : Top K mg) : NoAttr K (C_Row K) "moves" := He.noat_ok (x := "Row") (f := "moves") (T.says.fact 17)
abbrev C_Tree (K : PySem.W.Frag) : Addr := He.ga K "Tree"
theorem cl_Tree (T : Top K mg) : Cls K (C_Tree K) := He.cls_ok (x := "Tree") (T.says.fact 18)
theorem mk_Tree (T : Top K mg) : Mk K (C_Tree K) (He.fAd K ("Tree", some "__init__")) := He.mkr_ok (x := "Tree") (T.says.fact 19)
theorem gc_Tree (T : Top K mg) : mg "Tree" = some (.ref (C_Tree K)) := T.glo 122
theorem na_Tree_factor (T : Top K mg) : NoAttr K (C_Tree K) "factor" := He.noat_ok (x := "Tree") (f := "factor") (T.says.fact 20)
theorem na_Tree_parents (T : Top K mg) : NoAttr K (C_Tree K) "parents" := He.noat_ok (x := "Tree") (f := "parents") (T.says.fact 21)
theorem na_Tree_lengths (T : Top K mg) : NoAttr K (C_Tree K) "lengths" := He.noat_ok (x := "Tree") (f := "lengths") (T.says.fact 22)
theorem na_Tree_count (T : Top K mg) : NoAttr K (C_Tree K) "count" := He.noat_ok (x := "Tree") (f := "count") (T.says.fact 23)
theorem na_Tree_ups (T : Top K mg) : NoAttr K (C_Tree K) "ups" := He.noat_ok (x := "Tree") (f := "ups") (T.says.fact 24)
theorem na_Tree_table (T : Top K mg) : NoAttr K (C_Tree K) "table" := He.noat_ok (x := "Tree") (f := "table") (T.says.fact 25)
abbrev C_Desk (K : PySem.W.Frag) : Addr := He.ga K "Desk"
theorem cl_Desk (T : Top K mg) : Cls K (C_Desk K) := He.cls_ok (x := "Desk") (T.says.fact 26)
theorem mk_Desk (T : Top K mg) : Mk K (C_Desk K) (He.fAd K ("Desk", some "__init__")) := He.mkr_ok (x := "Desk") (T.says.fact 27)
theorem gc_Desk (T : Top K mg) : mg "Desk" = some (.ref (C_Desk K)) := T.glo 123
theorem na_Desk_tree (T : Top K mg) : NoAttr K (C_Desk K) "tree" := He.noat_ok (x := "Desk") (f := "tree") (T.says.fact 28)
theorem na_Desk_rows (T : Top K mg) : NoAttr K (C_Desk K) "rows" := He.noat_ok (x := "Desk") (f := "rows") (T.says.fact 29)
theorem gf_costs_of (T : Top K mg) : mg "costs_of" = some (.ref (He.fAd K ("costs_of", none))) := T.glo 30
theorem F_costs_of (T : Top K mg) : ∃ fd, FunD K "costs_of" "costs_of" (defArgs s_costs_of) (defBody s_costs_of) (defScope s_costs_of) [] [] (He.fAd K ("costs_of", none)) fd := T.says.def_ 0
theorem gf_rows_at (T : Top K mg) : mg "rows_at" = some (.ref (He.fAd K ("rows_at", none))) := T.glo 31
theorem F_rows_at (T : Top K mg) : ∃ fd, FunD K "rows_at" "rows_at" (defArgs s_rows_at) (defBody s_rows_at) (defScope s_rows_at) [] [] (He.fAd K ("rows_at", none)) fd := T.says.def_ 1
theorem gf_cheapest_change (T : Top K mg) : mg "cheapest_change" = some (.ref (He.fAd K ("cheapest_change", none))) := T.glo 32
theorem F_cheapest_change (T : Top K mg) : ∃ fd, FunD K "cheapest_change" "cheapest_change" (defArgs s_cheapest_change) (defBody s_cheapest_change) (defScope s_cheapest_change) [] [] (He.fAd K ("cheapest_change", none)) fd := T.says.def_ 2
theorem gf_changes_of (T : Top K mg) : mg "changes_of" = some (.ref (He.fAd K ("changes_of", none))) := T.glo 33
theorem F_changes_of (T : Top K mg) : ∃ fd, FunD K "changes_of" "changes_of" (defArgs s_changes_of) (defBody s_changes_of) (defScope s_changes_of) [] [] (He.fAd K ("changes_of", none)) fd := T.says.def_ 3
theorem F_Chains_init (T : Top K mg) : ∃ fd, FunD K "__init__" "Chains.__init__" (defArgs s_Chains_init) (defBody s_Chains_init) (defScope s_Chains_init) [] [] (He.fAd K ("Chains", some "__init__")) fd := T.says.def_ 4
theorem me_Chains_better (T : Top K mg) : Meth K (C_Chains K) "better" (He.fAd K ("Chains", some "better")) := He.meth_ok (x := "Chains") (m := "better") (T.says.fact 34)
theorem F_Chains_better (T : Top K mg) : ∃ fd, FunD K "better" "Chains.better" (defArgs s_Chains_better) (defBody s_Chains_better) (defScope s_Chains_better) [] [] (He.fAd K ("Chains", some "better")) fd := T.says.def_ 5
theorem me_Chains_go_on (T : Top K mg) : Meth K (C_Chains K) "go_on" (He.fAd K ("Chains", some "go_on")) := He.meth_ok (x := "Chains") (m := "go_on") (T.says.fact 35)
theorem F_Chains_go_on (T : Top K mg) : ∃ fd, FunD K "go_on" "Chains.go_on" (defArgs s_Chains_go_on) (defBody s_Chains_go_on) (defScope s_Chains_go_on) [] [] (He.fAd K ("Chains", some "go_on")) fd := T.says.def_ 6
theorem me_Chains_settle (T : Top K mg) : Meth K (C_Chains K) "settle" (He.fAd K ("Chains", some "settle")) := He.meth_ok (x := "Chains") (m := "settle") (T.says.fact 36)
theorem F_Chains_settle (T : Top K mg) : ∃ fd, FunD K "settle" "Chains.settle" (defArgs s_Chains_settle) (defBody s_Chains_settle) (defScope s_Chains_settle) [] [] (He.fAd K ("Chains", some "settle")) fd := T.says.def_ 7
theorem me_Chains_end (T : Top K mg) : Meth K (C_Chains K) "end" (He.fAd K ("Chains", some "end")) := He.meth_ok (x := "Chains") (m := "end") (T.says.fact 37)
theorem F_Chains_end (T : Top K mg) : ∃ fd, FunD K "end" "Chains.end" (defArgs s_Chains_end) (defBody s_Chains_end) (defScope s_Chains_end) [] [] (He.fAd K ("Chains", some "end")) fd := T.says.def_ 8
theorem me_Chains_homes_behind (T : Top K mg) : Meth K (C_Chains K) "homes_behind" (He.fAd K ("Chains", some "homes_behind")) := He.meth_ok (x := "Chains") (m := "homes_behind") (T.says.fact 38)
theorem F_Chains_homes_behind (T : Top K mg) : ∃ fd, FunD K "homes_behind" "Chains.homes_behind" (defArgs s_Chains_homes_behind) (defBody s_Chains_homes_behind) (defScope s_Chains_homes_behind) [] [] (He.fAd K ("Chains", some "homes_behind")) fd := T.says.def_ 9
theorem gf_least_homes (T : Top K mg) : mg "least_homes" = some (.ref (He.fAd K ("least_homes", none))) := T.glo 39
theorem F_least_homes (T : Top K mg) : ∃ fd, FunD K "least_homes" "least_homes" (defArgs s_least_homes) (defBody s_least_homes) (defScope s_least_homes) [] [] (He.fAd K ("least_homes", none)) fd := T.says.def_ 10
theorem gf_homes_cost (T : Top K mg) : mg "homes_cost" = some (.ref (He.fAd K ("homes_cost", none))) := T.glo 40
theorem F_homes_cost (T : Top K mg) : ∃ fd, FunD K "homes_cost" "homes_cost" (defArgs s_homes_cost) (defBody s_homes_cost) (defScope s_homes_cost) [] [] (He.fAd K ("homes_cost", none)) fd := T.says.def_ 11
theorem gf_least_cost (T : Top K mg) : mg "least_cost" = some (.ref (He.fAd K ("least_cost", none))) := T.glo 41
theorem F_least_cost (T : Top K mg) : ∃ fd, FunD K "least_cost" "least_cost" (defArgs s_least_cost) (defBody s_least_cost) (defScope s_least_cost) [] [] (He.fAd K ("least_cost", none)) fd := T.says.def_ 12
theorem gf_changed (T : Top K mg) : mg "changed" = some (.ref (He.fAd K ("changed", none))) := T.glo 42
theorem F_changed (T : Top K mg) : ∃ fd, FunD K "changed" "changed" (defArgs s_changed) (defBody s_changed) (defScope s_changed) [] [] (He.fAd K ("changed", none)) fd := T.says.def_ 13
theorem gf_first_home (T : Top K mg) : mg "first_home" = some (.ref (He.fAd K ("first_home", none))) := T.glo 43
theorem F_first_home (T : Top K mg) : ∃ fd, FunD K "first_home" "first_home" (defArgs s_first_home) (defBody s_first_home) (defScope s_first_home) [] [] (He.fAd K ("first_home", none)) fd := T.says.def_ 14
theorem gf_best_homes (T : Top K mg) : mg "best_homes" = some (.ref (He.fAd K ("best_homes", none))) := T.glo 44
theorem F_best_homes (T : Top K mg) : ∃ fd, FunD K "best_homes" "best_homes" (defArgs s_best_homes) (defBody s_best_homes) (defScope s_best_homes) [] [] (He.fAd K ("best_homes", none)) fd := T.says.def_ 15
theorem gf_prices_of (T : Top K mg) : mg "prices_of" = some (.ref (He.fAd K ("prices_of", none))) := T.glo 45
theorem F_prices_of (T : Top K mg) : ∃ fd, FunD K "prices_of" "prices_of" (defArgs s_prices_of) (defBody s_prices_of) (defScope s_prices_of) [] [] (He.fAd K ("prices_of", none)) fd := T.says.def_ 16
theorem gf_crowded (T : Top K mg) : mg "crowded" = some (.ref (He.fAd K ("crowded", none))) := T.glo 46
theorem F_crowded (T : Top K mg) : ∃ fd, FunD K "crowded" "crowded" (defArgs s_crowded) (defBody s_crowded) (defScope s_crowded) [] [] (He.fAd K ("crowded", none)) fd := T.says.def_ 17
theorem gf_priced_with_room (T : Top K mg) : mg "priced_with_room" = some (.ref (He.fAd K ("priced_with_room", none))) := T.glo 47
theorem F_priced_with_room (T : Top K mg) : ∃ fd, FunD K "priced_with_room" "priced_with_room" (defArgs s_priced_with_room) (defBody s_priced_with_room) (defScope s_priced_with_room) [] [] (He.fAd K ("priced_with_room", none)) fd := T.says.def_ 18
theorem gf_is_cheaper_elsewhere (T : Top K mg) : mg "is_cheaper_elsewhere" = some (.ref (He.fAd K ("is_cheaper_elsewhere", none))) := T.glo 48
theorem F_is_cheaper_elsewhere (T : Top K mg) : ∃ fd, FunD K "is_cheaper_elsewhere" "is_cheaper_elsewhere" (defArgs s_is_cheaper_elsewhere) (defBody s_is_cheaper_elsewhere) (defScope s_is_cheaper_elsewhere) [] [] (He.fAd K ("is_cheaper_elsewhere", none)) fd := T.says.def_ 19
theorem gf_first_unhappy (T : Top K mg) : mg "first_unhappy" = some (.ref (He.fAd K ("first_unhappy", none))) := T.glo 49
theorem F_first_unhappy (T : Top K mg) : ∃ fd, FunD K "first_unhappy" "first_unhappy" (defArgs s_first_unhappy) (defBody s_first_unhappy) (defScope s_first_unhappy) [] [] (He.fAd K ("first_unhappy", none)) fd := T.says.def_ 20
theorem gf_assignment_fault (T : Top K mg) : mg "assignment_fault" = some (.ref (He.fAd K ("assignment_fault", none))) := T.glo 50
theorem F_assignment_fault (T : Top K mg) : ∃ fd, FunD K "assignment_fault" "assignment_fault" (defArgs s_assignment_fault) (defBody s_assignment_fault) (defScope s_assignment_fault) [] [] (He.fAd K ("assignment_fault", none)) fd := T.says.def_ 21
theorem F_Row_init (T : Top K mg) : ∃ fd, FunD K "__init__" "Row.__init__" (defArgs s_Row_init) (defBody s_Row_init) (defScope s_Row_init) [] [] (He.fAd K ("Row", some "__init__")) fd := T.says.def_ 22
theorem me_Row_follow (T : Top K mg) : Meth K (C_Row K) "follow" (He.fAd K ("Row", some "follow")) := He.meth_ok (x := "Row") (m := "follow") (T.says.fact 51)
theorem F_Row_follow (T : Top K mg) : ∃ fd, FunD K "follow" "Row.follow" (defArgs s_Row_follow) (defBody s_Row_follow) (defScope s_Row_follow) [] [] (He.fAd K ("Row", some "follow")) fd := T.says.def_ 23
theorem me_Row_use (T : Top K mg) : Meth K (C_Row K) "use" (He.fAd K ("Row", some "use")) := He.meth_ok (x := "Row") (m := "use") (T.says.fact 52)
theorem F_Row_use (T : Top K mg) : ∃ fd, FunD K "use" "Row.use" (defArgs s_Row_use) (defBody s_Row_use) (defScope s_Row_use) [] [] (He.fAd K ("Row", some "use")) fd := T.says.def_ 24
theorem me_Row_told_counters (T : Top K mg) : Meth K (C_Row K) "told_counters" (He.fAd K ("Row", some "told_counters")) := He.meth_ok (x := "Row") (m := "told_counters") (T.says.fact 53)
theorem F_Row_told_counters (T : Top K mg) : ∃ fd, FunD K "told_counters" "Row.told_counters" (defArgs s_Row_told_counters) (defBody s_Row_told_counters) (defScope s_Row_told_counters) [] [] (He.fAd K ("Row", some "told_counters")) fd := T.says.def_ 25
theorem gf_within (T : Top K mg) : mg "within" = some (.ref (He.fAd K ("within", none))) := T.glo 54
theorem F_within (T : Top K mg) : ∃ fd, FunD K "within" "within" (defArgs s_within) (defBody s_within) (defScope s_within) [] [] (He.fAd K ("within", none)) fd := T.says.def_ 26
theorem gf_is_marked (T : Top K mg) : mg "is_marked" = some (.ref (He.fAd K ("is_marked", none))) := T.glo 55
theorem F_is_marked (T : Top K mg) : ∃ fd, FunD K "is_marked" "is_marked" (defArgs s_is_marked) (defBody s_is_marked) (defScope s_is_marked) [] [] (He.fAd K ("is_marked", none)) fd := T.says.def_ 27
theorem gf_marked_version (T : Top K mg) : mg "marked_version" = some (.ref (He.fAd K ("marked_version", none))) := T.glo 56
theorem F_marked_version (T : Top K mg) : ∃ fd, FunD K "marked_version" "marked_version" (defArgs s_marked_version) (defBody s_marked_version) (defScope s_marked_version) [] [] (He.fAd K ("marked_version", none)) fd := T.says.def_ 28
theorem gf_are_within (T : Top K mg) : mg "are_within" = some (.ref (He.fAd K ("are_within", none))) := T.glo 57
theorem F_are_within (T : Top K mg) : ∃ fd, FunD K "are_within" "are_within" (defArgs s_are_within) (defBody s_are_within) (defScope s_are_within) [] [] (He.fAd K ("are_within", none)) fd := T.says.def_ 29
theorem gf_is_version (T : Top K mg) : mg "is_version" = some (.ref (He.fAd K ("is_version", none))) := T.glo 58
theorem F_is_version (T : Top K mg) : ∃ fd, FunD K "is_version" "is_version" (defArgs s_is_version) (defBody s_is_version) (defScope s_is_version) [] [] (He.fAd K ("is_version", none)) fd := T.says.def_ 30
theorem gf_is_row (T : Top K mg) : mg "is_row" = some (.ref (He.fAd K ("is_row", none))) := T.glo 59
theorem F_is_row (T : Top K mg) : ∃ fd, FunD K "is_row" "is_row" (defArgs s_is_row) (defBody s_is_row) (defScope s_is_row) [] [] (He.fAd K ("is_row", none)) fd := T.says.def_ 31
theorem gf_are_parents (T : Top K mg) : mg "are_parents" = some (.ref (He.fAd K ("are_parents", none))) := T.glo 60
theorem F_are_parents (T : Top K mg) : ∃ fd, FunD K "are_parents" "are_parents" (defArgs s_are_parents) (defBody s_are_parents) (defScope s_are_parents) [] [] (He.fAd K ("are_parents", none)) fd := T.says.def_ 32
theorem gf_is_tree (T : Top K mg) : mg "is_tree" = some (.ref (He.fAd K ("is_tree", none))) := T.glo 61
theorem F_is_tree (T : Top K mg) : ∃ fd, FunD K "is_tree" "is_tree" (defArgs s_is_tree) (defBody s_is_tree) (defScope s_is_tree) [] [] (He.fAd K ("is_tree", none)) fd := T.says.def_ 33
theorem gf_are_limits (T : Top K mg) : mg "are_limits" = some (.ref (He.fAd K ("are_limits", none))) := T.glo 62
theorem F_are_limits (T : Top K mg) : ∃ fd, FunD K "are_limits" "are_limits" (defArgs s_are_limits) (defBody s_are_limits) (defScope s_are_limits) [] [] (He.fAd K ("are_limits", none)) fd := T.says.def_ 34
theorem gf_is_check (T : Top K mg) : mg "is_check" = some (.ref (He.fAd K ("is_check", none))) := T.glo 63
theorem F_is_check (T : Top K mg) : ∃ fd, FunD K "is_check" "is_check" (defArgs s_is_check) (defBody s_is_check) (defScope s_is_check) [] [] (He.fAd K ("is_check", none)) fd := T.says.def_ 35
theorem gf_is_list_right (T : Top K mg) : mg "is_list_right" = some (.ref (He.fAd K ("is_list_right", none))) := T.glo 64
theorem F_is_list_right (T : Top K mg) : ∃ fd, FunD K "is_list_right" "is_list_right" (defArgs s_is_list_right) (defBody s_is_list_right) (defScope s_is_list_right) [] [] (He.fAd K ("is_list_right", none)) fd := T.says.def_ 36
theorem gf_are_right (T : Top K mg) : mg "are_right" = some (.ref (He.fAd K ("are_right", none))) := T.glo 65
theorem F_are_right (T : Top K mg) : ∃ fd, FunD K "are_right" "are_right" (defArgs s_are_right) (defBody s_are_right) (defScope s_are_right) [] [] (He.fAd K ("are_right", none)) fd := T.says.def_ 37
theorem gf_weighed_cost (T : Top K mg) : mg "weighed_cost" = some (.ref (He.fAd K ("weighed_cost", none))) := T.glo 66
theorem F_weighed_cost (T : Top K mg) : ∃ fd, FunD K "weighed_cost" "weighed_cost" (defArgs s_weighed_cost) (defBody s_weighed_cost) (defScope s_weighed_cost) [] [] (He.fAd K ("weighed_cost", none)) fd := T.says.def_ 38
theorem gf_median (T : Top K mg) : mg "median" = some (.ref (He.fAd K ("median", none))) := T.glo 67
theorem F_median (T : Top K mg) : ∃ fd, FunD K "median" "median" (defArgs s_median) (defBody s_median) (defScope s_median) [] [] (He.fAd K ("median", none)) fd := T.says.def_ 39
theorem gf_weight_beyond (T : Top K mg) : mg "weight_beyond" = some (.ref (He.fAd K ("weight_beyond", none))) := T.glo 68
theorem F_weight_beyond (T : Top K mg) : ∃ fd, FunD K "weight_beyond" "weight_beyond" (defArgs s_weight_beyond) (defBody s_weight_beyond) (defScope s_weight_beyond) [] [] (He.fAd K ("weight_beyond", none)) fd := T.says.def_ 40
theorem gf_heavier_side (T : Top K mg) : mg "heavier_side" = some (.ref (He.fAd K ("heavier_side", none))) := T.glo 69
theorem F_heavier_side (T : Top K mg) : ∃ fd, FunD K "heavier_side" "heavier_side" (defArgs s_heavier_side) (defBody s_heavier_side) (defScope s_heavier_side) [] [] (He.fAd K ("heavier_side", none)) fd := T.says.def_ 41
theorem gf_schedule_cost (T : Top K mg) : mg "schedule_cost" = some (.ref (He.fAd K ("schedule_cost", none))) := T.glo 70
theorem F_schedule_cost (T : Top K mg) : ∃ fd, FunD K "schedule_cost" "schedule_cost" (defArgs s_schedule_cost) (defBody s_schedule_cost) (defScope s_schedule_cost) [] [] (He.fAd K ("schedule_cost", none)) fd := T.says.def_ 42
theorem gf_costs_ahead (T : Top K mg) : mg "costs_ahead" = some (.ref (He.fAd K ("costs_ahead", none))) := T.glo 71
theorem F_costs_ahead (T : Top K mg) : ∃ fd, FunD K "costs_ahead" "costs_ahead" (defArgs s_costs_ahead) (defBody s_costs_ahead) (defScope s_costs_ahead) [] [] (He.fAd K ("costs_ahead", none)) fd := T.says.def_ 43
theorem gf_costs_by (T : Top K mg) : mg "costs_by" = some (.ref (He.fAd K ("costs_by", none))) := T.glo 72
theorem F_costs_by (T : Top K mg) : ∃ fd, FunD K "costs_by" "costs_by" (defArgs s_costs_by) (defBody s_costs_by) (defScope s_costs_by) [] [] (He.fAd K ("costs_by", none)) fd := T.says.def_ 44
theorem gf_cost_table (T : Top K mg) : mg "cost_table" = some (.ref (He.fAd K ("cost_table", none))) := T.glo 73
theorem F_cost_table (T : Top K mg) : ∃ fd, FunD K "cost_table" "cost_table" (defArgs s_cost_table) (defBody s_cost_table) (defScope s_cost_table) [] [] (He.fAd K ("cost_table", none)) fd := T.says.def_ 45
theorem gf_best_schedule (T : Top K mg) : mg "best_schedule" = some (.ref (He.fAd K ("best_schedule", none))) := T.glo 74
theorem F_best_schedule (T : Top K mg) : ∃ fd, FunD K "best_schedule" "best_schedule" (defArgs s_best_schedule) (defBody s_best_schedule) (defScope s_best_schedule) [] [] (He.fAd K ("best_schedule", none)) fd := T.says.def_ 46
theorem gf_first_pair (T : Top K mg) : mg "first_pair" = some (.ref (He.fAd K ("first_pair", none))) := T.glo 75
theorem F_first_pair (T : Top K mg) : ∃ fd, FunD K "first_pair" "first_pair" (defArgs s_first_pair) (defBody s_first_pair) (defScope s_first_pair) [] [] (He.fAd K ("first_pair", none)) fd := T.says.def_ 47
theorem gf_next_pair (T : Top K mg) : mg "next_pair" = some (.ref (He.fAd K ("next_pair", none))) := T.glo 76
theorem F_next_pair (T : Top K mg) : ∃ fd, FunD K "next_pair" "next_pair" (defArgs s_next_pair) (defBody s_next_pair) (defScope s_next_pair) [] [] (He.fAd K ("next_pair", none)) fd := T.says.def_ 48
theorem gf_edge_pairs (T : Top K mg) : mg "edge_pairs" = some (.ref (He.fAd K ("edge_pairs", none))) := T.glo 77
theorem F_edge_pairs (T : Top K mg) : ∃ fd, FunD K "edge_pairs" "edge_pairs" (defArgs s_edge_pairs) (defBody s_edge_pairs) (defScope s_edge_pairs) [] [] (He.fAd K ("edge_pairs", none)) fd := T.says.def_ 49
theorem gf_reported (T : Top K mg) : mg "reported" = some (.ref (He.fAd K ("reported", none))) := T.glo 78
theorem F_reported (T : Top K mg) : ∃ fd, FunD K "reported" "reported" (defArgs s_reported) (defBody s_reported) (defScope s_reported) [] [] (He.fAd K ("reported", none)) fd := T.says.def_ 50
theorem gf_pair_at (T : Top K mg) : mg "pair_at" = some (.ref (He.fAd K ("pair_at", none))) := T.glo 79
theorem F_pair_at (T : Top K mg) : ∃ fd, FunD K "pair_at" "pair_at" (defArgs s_pair_at) (defBody s_pair_at) (defScope s_pair_at) [] [] (He.fAd K ("pair_at", none)) fd := T.says.def_ 51
theorem gf_bound_of (T : Top K mg) : mg "bound_of" = some (.ref (He.fAd K ("bound_of", none))) := T.glo 80
theorem F_bound_of (T : Top K mg) : ∃ fd, FunD K "bound_of" "bound_of" (defArgs s_bound_of) (defBody s_bound_of) (defScope s_bound_of) [] [] (He.fAd K ("bound_of", none)) fd := T.says.def_ 52
theorem gf_fault_at_first (T : Top K mg) : mg "fault_at_first" = some (.ref (He.fAd K ("fault_at_first", none))) := T.glo 81
theorem F_fault_at_first (T : Top K mg) : ∃ fd, FunD K "fault_at_first" "fault_at_first" (defArgs s_fault_at_first) (defBody s_fault_at_first) (defScope s_fault_at_first) [] [] (He.fAd K ("fault_at_first", none)) fd := T.says.def_ 53
theorem gf_fault_at (T : Top K mg) : mg "fault_at" = some (.ref (He.fAd K ("fault_at", none))) := T.glo 82
theorem F_fault_at (T : Top K mg) : ∃ fd, FunD K "fault_at" "fault_at" (defArgs s_fault_at) (defBody s_fault_at) (defScope s_fault_at) [] [] (He.fAd K ("fault_at", none)) fd := T.says.def_ 54
theorem gf_first_fault (T : Top K mg) : mg "first_fault" = some (.ref (He.fAd K ("first_fault", none))) := T.glo 83
theorem F_first_fault (T : Top K mg) : ∃ fd, FunD K "first_fault" "first_fault" (defArgs s_first_fault) (defBody s_first_fault) (defScope s_first_fault) [] [] (He.fAd K ("first_fault", none)) fd := T.says.def_ 55
theorem F_Tree_init (T : Top K mg) : ∃ fd, FunD K "__init__" "Tree.__init__" (defArgs s_Tree_init) (defBody s_Tree_init) (defScope s_Tree_init) [] [] (He.fAd K ("Tree", some "__init__")) fd := T.says.def_ 56
theorem me_Tree_edges (T : Top K mg) : Meth K (C_Tree K) "edges" (He.fAd K ("Tree", some "edges")) := He.meth_ok (x := "Tree") (m := "edges") (T.says.fact 84)
theorem F_Tree_edges (T : Top K mg) : ∃ fd, FunD K "edges" "Tree.edges" (defArgs s_Tree_edges) (defBody s_Tree_edges) (defScope s_Tree_edges) [] [] (He.fAd K ("Tree", some "edges")) fd := T.says.def_ 57
theorem me_Tree_is_lower (T : Top K mg) : Meth K (C_Tree K) "is_lower" (He.fAd K ("Tree", some "is_lower")) := He.meth_ok (x := "Tree") (m := "is_lower") (T.says.fact 85)
theorem F_Tree_is_lower (T : Top K mg) : ∃ fd, FunD K "is_lower" "Tree.is_lower" (defArgs s_Tree_is_lower) (defBody s_Tree_is_lower) (defScope s_Tree_is_lower) [] [] (He.fAd K ("Tree", some "is_lower")) fd := T.says.def_ 58
theorem me_Tree_edges_between (T : Top K mg) : Meth K (C_Tree K) "edges_between" (He.fAd K ("Tree", some "edges_between")) := He.meth_ok (x := "Tree") (m := "edges_between") (T.says.fact 86)
theorem F_Tree_edges_between (T : Top K mg) : ∃ fd, FunD K "edges_between" "Tree.edges_between" (defArgs s_Tree_edges_between) (defBody s_Tree_edges_between) (defScope s_Tree_edges_between) [] [] (He.fAd K ("Tree", some "edges_between")) fd := T.says.def_ 59
theorem me_Tree_measured (T : Top K mg) : Meth K (C_Tree K) "measured" (He.fAd K ("Tree", some "measured")) := He.meth_ok (x := "Tree") (m := "measured") (T.says.fact 87)
theorem F_Tree_measured (T : Top K mg) : ∃ fd, FunD K "measured" "Tree.measured" (defArgs s_Tree_measured) (defBody s_Tree_measured) (defScope s_Tree_measured) [] [] (He.fAd K ("Tree", some "measured")) fd := T.says.def_ 60
theorem me_Tree_distances (T : Top K mg) : Meth K (C_Tree K) "distances" (He.fAd K ("Tree", some "distances")) := He.meth_ok (x := "Tree") (m := "distances") (T.says.fact 88)
theorem F_Tree_distances (T : Top K mg) : ∃ fd, FunD K "distances" "Tree.distances" (defArgs s_Tree_distances) (defBody s_Tree_distances) (defScope s_Tree_distances) [] [] (He.fAd K ("Tree", some "distances")) fd := T.says.def_ 61
theorem me_Tree_distance (T : Top K mg) : Meth K (C_Tree K) "distance" (He.fAd K ("Tree", some "distance")) := He.meth_ok (x := "Tree") (m := "distance") (T.says.fact 89)
theorem F_Tree_distance (T : Top K mg) : ∃ fd, FunD K "distance" "Tree.distance" (defArgs s_Tree_distance) (defBody s_Tree_distance) (defScope s_Tree_distance) [] [] (He.fAd K ("Tree", some "distance")) fd := T.says.def_ 62
theorem me_Tree_way (T : Top K mg) : Meth K (C_Tree K) "way" (He.fAd K ("Tree", some "way")) := He.meth_ok (x := "Tree") (m := "way") (T.says.fact 90)
theorem F_Tree_way (T : Top K mg) : ∃ fd, FunD K "way" "Tree.way" (defArgs s_Tree_way) (defBody s_Tree_way) (defScope s_Tree_way) [] [] (He.fAd K ("Tree", some "way")) fd := T.says.def_ 63
theorem me_Tree_neighbours (T : Top K mg) : Meth K (C_Tree K) "neighbours" (He.fAd K ("Tree", some "neighbours")) := He.meth_ok (x := "Tree") (m := "neighbours") (T.says.fact 91)
theorem F_Tree_neighbours (T : Top K mg) : ∃ fd, FunD K "neighbours" "Tree.neighbours" (defArgs s_Tree_neighbours) (defBody s_Tree_neighbours) (defScope s_Tree_neighbours) [] [] (He.fAd K ("Tree", some "neighbours")) fd := T.says.def_ 64
theorem me_Tree_are_joined (T : Top K mg) : Meth K (C_Tree K) "are_joined" (He.fAd K ("Tree", some "are_joined")) := He.meth_ok (x := "Tree") (m := "are_joined") (T.says.fact 92)
theorem F_Tree_are_joined (T : Top K mg) : ∃ fd, FunD K "are_joined" "Tree.are_joined" (defArgs s_Tree_are_joined) (defBody s_Tree_are_joined) (defScope s_Tree_are_joined) [] [] (He.fAd K ("Tree", some "are_joined")) fd := T.says.def_ 65
theorem me_Tree_beyond (T : Top K mg) : Meth K (C_Tree K) "beyond" (He.fAd K ("Tree", some "beyond")) := He.meth_ok (x := "Tree") (m := "beyond") (T.says.fact 93)
theorem F_Tree_beyond (T : Top K mg) : ∃ fd, FunD K "beyond" "Tree.beyond" (defArgs s_Tree_beyond) (defBody s_Tree_beyond) (defScope s_Tree_beyond) [] [] (He.fAd K ("Tree", some "beyond")) fd := T.says.def_ 66
theorem me_Tree_fixed_cost (T : Top K mg) : Meth K (C_Tree K) "fixed_cost" (He.fAd K ("Tree", some "fixed_cost")) := He.meth_ok (x := "Tree") (m := "fixed_cost") (T.says.fact 94)
theorem F_Tree_fixed_cost (T : Top K mg) : ∃ fd, FunD K "fixed_cost" "Tree.fixed_cost" (defArgs s_Tree_fixed_cost) (defBody s_Tree_fixed_cost) (defScope s_Tree_fixed_cost) [] [] (He.fAd K ("Tree", some "fixed_cost")) fd := T.says.def_ 67
theorem gf_way_up (T : Top K mg) : mg "way_up" = some (.ref (He.fAd K ("way_up", none))) := T.glo 95
theorem F_way_up (T : Top K mg) : ∃ fd, FunD K "way_up" "way_up" (defArgs s_way_up) (defBody s_way_up) (defScope s_way_up) [] [] (He.fAd K ("way_up", none)) fd := T.says.def_ 68
theorem gf_ways_up (T : Top K mg) : mg "ways_up" = some (.ref (He.fAd K ("ways_up", none))) := T.glo 96
theorem F_ways_up (T : Top K mg) : ∃ fd, FunD K "ways_up" "ways_up" (defArgs s_ways_up) (defBody s_ways_up) (defScope s_ways_up) [] [] (He.fAd K ("ways_up", none)) fd := T.says.def_ 69
theorem gf_counted (T : Top K mg) : mg "counted" = some (.ref (He.fAd K ("counted", none))) := T.glo 97
theorem F_counted (T : Top K mg) : ∃ fd, FunD K "counted" "counted" (defArgs s_counted) (defBody s_counted) (defScope s_counted) [] [] (He.fAd K ("counted", none)) fd := T.says.def_ 70
theorem F_Desk_init (T : Top K mg) : ∃ fd, FunD K "__init__" "Desk.__init__" (defArgs s_Desk_init) (defBody s_Desk_init) (defScope s_Desk_init) [] [] (He.fAd K ("Desk", some "__init__")) fd := T.says.def_ 71
theorem me_Desk_row_at (T : Top K mg) : Meth K (C_Desk K) "row_at" (He.fAd K ("Desk", some "row_at")) := He.meth_ok (x := "Desk") (m := "row_at") (T.says.fact 98)
theorem F_Desk_row_at (T : Top K mg) : ∃ fd, FunD K "row_at" "Desk.row_at" (defArgs s_Desk_row_at) (defBody s_Desk_row_at) (defScope s_Desk_row_at) [] [] (He.fAd K ("Desk", some "row_at")) fd := T.says.def_ 72
theorem me_Desk_are_there (T : Top K mg) : Meth K (C_Desk K) "are_there" (He.fAd K ("Desk", some "are_there")) := He.meth_ok (x := "Desk") (m := "are_there") (T.says.fact 99)
theorem F_Desk_are_there (T : Top K mg) : ∃ fd, FunD K "are_there" "Desk.are_there" (defArgs s_Desk_are_there) (defBody s_Desk_are_there) (defScope s_Desk_are_there) [] [] (He.fAd K ("Desk", some "are_there")) fd := T.says.def_ 73
theorem me_Desk_answer (T : Top K mg) : Meth K (C_Desk K) "answer" (He.fAd K ("Desk", some "answer")) := He.meth_ok (x := "Desk") (m := "answer") (T.says.fact 100)
theorem F_Desk_answer (T : Top K mg) : ∃ fd, FunD K "answer" "Desk.answer" (defArgs s_Desk_answer) (defBody s_Desk_answer) (defScope s_Desk_answer) [] [] (He.fAd K ("Desk", some "answer")) fd := T.says.def_ 74
theorem me_Desk_answer_tree (T : Top K mg) : Meth K (C_Desk K) "answer_tree" (He.fAd K ("Desk", some "answer_tree")) := He.meth_ok (x := "Desk") (m := "answer_tree") (T.says.fact 101)
theorem F_Desk_answer_tree (T : Top K mg) : ∃ fd, FunD K "answer_tree" "Desk.answer_tree" (defArgs s_Desk_answer_tree) (defBody s_Desk_answer_tree) (defScope s_Desk_answer_tree) [] [] (He.fAd K ("Desk", some "answer_tree")) fd := T.says.def_ 75
theorem me_Desk_answer_row (T : Top K mg) : Meth K (C_Desk K) "answer_row" (He.fAd K ("Desk", some "answer_row")) := He.meth_ok (x := "Desk") (m := "answer_row") (T.says.fact 102)
theorem F_Desk_answer_row (T : Top K mg) : ∃ fd, FunD K "answer_row" "Desk.answer_row" (defArgs s_Desk_answer_row) (defBody s_Desk_answer_row) (defScope s_Desk_answer_row) [] [] (He.fAd K ("Desk", some "answer_row")) fd := T.says.def_ 76
theorem me_Desk_set_tree (T : Top K mg) : Meth K (C_Desk K) "set_tree" (He.fAd K ("Desk", some "set_tree")) := He.meth_ok (x := "Desk") (m := "set_tree") (T.says.fact 103)
theorem F_Desk_set_tree (T : Top K mg) : ∃ fd, FunD K "set_tree" "Desk.set_tree" (defArgs s_Desk_set_tree) (defBody s_Desk_set_tree) (defScope s_Desk_set_tree) [] [] (He.fAd K ("Desk", some "set_tree")) fd := T.says.def_ 77
theorem me_Desk_distance (T : Top K mg) : Meth K (C_Desk K) "distance" (He.fAd K ("Desk", some "distance")) := He.meth_ok (x := "Desk") (m := "distance") (T.says.fact 104)
theorem F_Desk_distance (T : Top K mg) : ∃ fd, FunD K "distance" "Desk.distance" (defArgs s_Desk_distance) (defBody s_Desk_distance) (defScope s_Desk_distance) [] [] (He.fAd K ("Desk", some "distance")) fd := T.says.def_ 78
theorem me_Desk_add (T : Top K mg) : Meth K (C_Desk K) "add" (He.fAd K ("Desk", some "add")) := He.meth_ok (x := "Desk") (m := "add") (T.says.fact 105)
theorem F_Desk_add (T : Top K mg) : ∃ fd, FunD K "add" "Desk.add" (defArgs s_Desk_add) (defBody s_Desk_add) (defScope s_Desk_add) [] [] (He.fAd K ("Desk", some "add")) fd := T.says.def_ 79
theorem me_Desk_use (T : Top K mg) : Meth K (C_Desk K) "use" (He.fAd K ("Desk", some "use")) := He.meth_ok (x := "Desk") (m := "use") (T.says.fact 106)
theorem F_Desk_use (T : Top K mg) : ∃ fd, FunD K "use" "Desk.use" (defArgs s_Desk_use) (defBody s_Desk_use) (defScope s_Desk_use) [] [] (He.fAd K ("Desk", some "use")) fd := T.says.def_ 80
theorem me_Desk_told_row (T : Top K mg) : Meth K (C_Desk K) "told_row" (He.fAd K ("Desk", some "told_row")) := He.meth_ok (x := "Desk") (m := "told_row") (T.says.fact 107)
theorem F_Desk_told_row (T : Top K mg) : ∃ fd, FunD K "told_row" "Desk.told_row" (defArgs s_Desk_told_row) (defBody s_Desk_told_row) (defScope s_Desk_told_row) [] [] (He.fAd K ("Desk", some "told_row")) fd := T.says.def_ 81
theorem me_Desk_told_schedule_cost (T : Top K mg) : Meth K (C_Desk K) "told_schedule_cost" (He.fAd K ("Desk", some "told_schedule_cost")) := He.meth_ok (x := "Desk") (m := "told_schedule_cost") (T.says.fact 108)
theorem F_Desk_told_schedule_cost (T : Top K mg) : ∃ fd, FunD K "told_schedule_cost" "Desk.told_schedule_cost" (defArgs s_Desk_told_schedule_cost) (defBody s_Desk_told_schedule_cost) (defScope s_Desk_told_schedule_cost) [] [] (He.fAd K ("Desk", some "told_schedule_cost")) fd := T.says.def_ 82
theorem me_Desk_bound (T : Top K mg) : Meth K (C_Desk K) "bound" (He.fAd K ("Desk", some "bound")) := He.meth_ok (x := "Desk") (m := "bound") (T.says.fact 109)
theorem F_Desk_bound (T : Top K mg) : ∃ fd, FunD K "bound" "Desk.bound" (defArgs s_Desk_bound) (defBody s_Desk_bound) (defScope s_Desk_bound) [] [] (He.fAd K ("Desk", some "bound")) fd := T.says.def_ 83
theorem me_Desk_check_bound (T : Top K mg) : Meth K (C_Desk K) "check_bound" (He.fAd K ("Desk", some "check_bound")) := He.meth_ok (x := "Desk") (m := "check_bound") (T.says.fact 110)
theorem F_Desk_check_bound (T : Top K mg) : ∃ fd, FunD K "check_bound" "Desk.check_bound" (defArgs s_Desk_check_bound) (defBody s_Desk_check_bound) (defScope s_Desk_check_bound) [] [] (He.fAd K ("Desk", some "check_bound")) fd := T.says.def_ 84
theorem me_Desk_told_median (T : Top K mg) : Meth K (C_Desk K) "told_median" (He.fAd K ("Desk", some "told_median")) := He.meth_ok (x := "Desk") (m := "told_median") (T.says.fact 111)
theorem F_Desk_told_median (T : Top K mg) : ∃ fd, FunD K "told_median" "Desk.told_median" (defArgs s_Desk_told_median) (defBody s_Desk_told_median) (defScope s_Desk_told_median) [] [] (He.fAd K ("Desk", some "told_median")) fd := T.says.def_ 85
theorem me_Desk_check_median (T : Top K mg) : Meth K (C_Desk K) "check_median" (He.fAd K ("Desk", some "check_median")) := He.meth_ok (x := "Desk") (m := "check_median") (T.says.fact 112)
theorem F_Desk_check_median (T : Top K mg) : ∃ fd, FunD K "check_median" "Desk.check_median" (defArgs s_Desk_check_median) (defBody s_Desk_check_median) (defScope s_Desk_check_median) [] [] (He.fAd K ("Desk", some "check_median")) fd := T.says.def_ 86
theorem me_Desk_fixed_costs (T : Top K mg) : Meth K (C_Desk K) "fixed_costs" (He.fAd K ("Desk", some "fixed_costs")) := He.meth_ok (x := "Desk") (m := "fixed_costs") (T.says.fact 113)
theorem F_Desk_fixed_costs (T : Top K mg) : ∃ fd, FunD K "fixed_costs" "Desk.fixed_costs" (defArgs s_Desk_fixed_costs) (defBody s_Desk_fixed_costs) (defScope s_Desk_fixed_costs) [] [] (He.fAd K ("Desk", some "fixed_costs")) fd := T.says.def_ 87
theorem me_Desk_assign (T : Top K mg) : Meth K (C_Desk K) "assign" (He.fAd K ("Desk", some "assign")) := He.meth_ok (x := "Desk") (m := "assign") (T.says.fact 114)
theorem F_Desk_assign (T : Top K mg) : ∃ fd, FunD K "assign" "Desk.assign" (defArgs s_Desk_assign) (defBody s_Desk_assign) (defScope s_Desk_assign) [] [] (He.fAd K ("Desk", some "assign")) fd := T.says.def_ 88
theorem me_Desk_check_assignment (T : Top K mg) : Meth K (C_Desk K) "check_assignment" (He.fAd K ("Desk", some "check_assignment")) := He.meth_ok (x := "Desk") (m := "check_assignment") (T.says.fact 115)
theorem F_Desk_check_assignment (T : Top K mg) : ∃ fd, FunD K "check_assignment" "Desk.check_assignment" (defArgs s_Desk_check_assignment) (defBody s_Desk_check_assignment) (defScope s_Desk_check_assignment) [] [] (He.fAd K ("Desk", some "check_assignment")) fd := T.says.def_ 89
theorem me_Desk_remove (T : Top K mg) : Meth K (C_Desk K) "remove" (He.fAd K ("Desk", some "remove")) := He.meth_ok (x := "Desk") (m := "remove") (T.says.fact 116)
theorem F_Desk_remove (T : Top K mg) : ∃ fd, FunD K "remove" "Desk.remove" (defArgs s_Desk_remove) (defBody s_Desk_remove) (defScope s_Desk_remove) [] [] (He.fAd K ("Desk", some "remove")) fd := T.says.def_ 90
theorem me_Desk_status (T : Top K mg) : Meth K (C_Desk K) "status" (He.fAd K ("Desk", some "status")) := He.meth_ok (x := "Desk") (m := "status") (T.says.fact 117)
theorem F_Desk_status (T : Top K mg) : ∃ fd, FunD K "status" "Desk.status" (defArgs s_Desk_status) (defBody s_Desk_status) (defScope s_Desk_status) [] [] (He.fAd K ("Desk", some "status")) fd := T.says.def_ 91
theorem gf_lists_from (T : Top K mg) : mg "lists_from" = some (.ref (He.fAd K ("lists_from", none))) := T.glo 118
theorem F_lists_from (T : Top K mg) : ∃ fd, FunD K "lists_from" "lists_from" (defArgs s_lists_from) (defBody s_lists_from) (defScope s_lists_from) [] [] (He.fAd K ("lists_from", none)) fd := T.says.def_ 92
theorem gf_answers (T : Top K mg) : mg "answers" = some (.ref (He.fAd K ("answers", none))) := T.glo 119
theorem F_answers (T : Top K mg) : ∃ fd, FunD K "answers" "answers" (defArgs s_answers) (defBody s_answers) (defScope s_answers) [] [] (He.fAd K ("answers", none)) fd := T.says.def_ 93
theorem lst_of (T : Top K mg) {x : Str} {v : Int} (h : He.lstB K x [.int v] = true) (H : Hp) : SqL K H (He.ga K x) [.int v] := He.lstB_ok h H
theorem xt_parts (T : Top K mg) : He.tupB K "SHAPES" ((List.range 16).map fun i => .adr fun _ => shapeAt i) = true ∧ (∀ i, i < 16 → tupA K (shapeAt i) [.int (shapePairs.getD i (0, 0)).1, .int (shapePairs.getD i (0, 0)).2] = true) ∧ He.tupB K "ROW_CALLS" [.int 3, .int 4, .int 5, .int 6, .int 7, .int 8, .int 9, .int 14] = true ∧
  He.lstB K "BAD_ARGUMENT" [.int (-1)] = true ∧ He.lstB K "NO_TREE" [.int (-2)] = true ∧ He.lstB K "NO_ROW" [.int (-3)] = true ∧ He.lstB K "NO_VERSION" [.int (-4)] = true ∧ He.lstB K "WRONG_COUNT" [.int (-5)] = true ∧ He.lstB K "NO_PLACE" [.int (-6)] = true ∧ He.lstB K "TOO_MANY_USES" [.int (-7)] = true ∧ He.lstB K "NO_ROOM" [.int (-8)] = true := by
  have h := T.xt
  unfold xtra at h
  simp only [Bool.and_eq_true, List.all_eq_true, List.mem_range] at h
  obtain ⟨h1, h2, h3, h4⟩ := h
  exact ⟨h1, h2, h3, h4⟩
end
abbrev N_costs_of : List Str := ["tree", "uses_of_rows", "found", "uses", "version"]
abbrev ps_costs_of : List Str := ["tree", "uses_of_rows"]
theorem sc_costs_of : FnScope N_costs_of ps_costs_of (defScope s_costs_of) := ⟨rfl, rfl, rfl, by decide +kernel, rfl, by decide +kernel, by decide +kernel⟩
abbrev N_rows_at : List Str := ["homes", "version", "place", "home"]
abbrev ps_rows_at : List Str := ["homes", "version"]
theorem sc_rows_at : FnScope N_rows_at ps_rows_at (defScope s_rows_at) := ⟨rfl, rfl, rfl, by decide +kernel, rfl, by decide +kernel, by decide +kernel⟩
abbrev N_cheapest_change : List Str := ["costs", "homes", "version", "other", "some", "place"]
abbrev ps_cheapest_change : List Str := ["costs", "homes", "version", "other"]
theorem sc_cheapest_change : FnScope N_cheapest_change ps_cheapest_change (defScope s_cheapest_change) := ⟨rfl, rfl, rfl, by decide +kernel, rfl, by decide +kernel, by decide +kernel⟩
abbrev N_changes_of : List Str := ["costs", "homes", "count", "found", "version", "other"]
abbrev ps_changes_of : List Str := ["costs", "homes", "count"]
theorem sc_changes_of : FnScope N_changes_of ps_changes_of (defScope s_changes_of) := ⟨rfl, rfl, rfl, by decide +kernel, rfl, by decide +kernel, by decide +kernel⟩
abbrev N_Chains_init : List Str := ["self", "costs", "homes", "limits", "place", "version", "limit"]
abbrev ps_Chains_init : List Str := ["self", "costs", "homes", "limits", "place"]
theorem sc_Chains_init : FnScope N_Chains_init ps_Chains_init (defScope s_Chains_init) := ⟨rfl, rfl, rfl, by decide +kernel, rfl, by decide +kernel, by decide +kernel⟩
abbrev N_Chains_better : List Str := ["self", "version", "other", "change", "told"]
abbrev ps_Chains_better : List Str := ["self", "version", "other"]
theorem sc_Chains_better : FnScope N_Chains_better ps_Chains_better (defScope s_Chains_better) := ⟨rfl, rfl, rfl, by decide +kernel, rfl, by decide +kernel, by decide +kernel⟩
abbrev N_Chains_go_on : List Str := ["self", "is_cheaper", "version", "other"]
abbrev ps_Chains_go_on : List Str := ["self"]
theorem sc_Chains_go_on : FnScope N_Chains_go_on ps_Chains_go_on (defScope s_Chains_go_on) := ⟨rfl, rfl, rfl, by decide +kernel, rfl, by decide +kernel, by decide +kernel⟩
abbrev N_Chains_settle : List Str := ["self", "turn"]
abbrev ps_Chains_settle : List Str := ["self"]
theorem sc_Chains_settle : FnScope N_Chains_settle ps_Chains_settle (defScope s_Chains_settle) := ⟨rfl, rfl, rfl, by decide +kernel, rfl, by decide +kernel, by decide +kernel⟩
abbrev N_Chains_end : List Str := ["self", "some", "version", "limit"]
abbrev ps_Chains_end : List Str := ["self"]
theorem sc_Chains_end : FnScope N_Chains_end ps_Chains_end (defScope s_Chains_end) := ⟨rfl, rfl, rfl, by decide +kernel, rfl, by decide +kernel, by decide +kernel⟩
abbrev N_Chains_homes_behind : List Str := ["self", "found", "version"]
abbrev ps_Chains_homes_behind : List Str := ["self"]
theorem sc_Chains_homes_behind : FnScope N_Chains_homes_behind ps_Chains_homes_behind (defScope s_Chains_homes_behind) := ⟨rfl, rfl, rfl, by decide +kernel, rfl, by decide +kernel, by decide +kernel⟩
abbrev N_least_homes : List Str := ["costs", "limits", "homes", "place", "chains"]
abbrev ps_least_homes : List Str := ["costs", "limits"]
theorem sc_least_homes : FnScope N_least_homes ps_least_homes (defScope s_least_homes) := ⟨rfl, rfl, rfl, by decide +kernel, rfl, by decide +kernel, by decide +kernel⟩
abbrev N_homes_cost : List Str := ["costs", "homes", "place", "home"]
abbrev ps_homes_cost : List Str := ["costs", "homes"]
theorem sc_homes_cost : FnScope N_homes_cost ps_homes_cost (defScope s_homes_cost) := ⟨rfl, rfl, rfl, by decide +kernel, rfl, by decide +kernel, by decide +kernel⟩
abbrev N_least_cost : List Str := ["costs", "limits"]
abbrev ps_least_cost : List Str := ["costs", "limits"]
theorem sc_least_cost : FnScope N_least_cost ps_least_cost (defScope s_least_cost) := ⟨rfl, rfl, rfl, by decide +kernel, rfl, by decide +kernel, by decide +kernel⟩
abbrev N_changed : List Str := ["limits", "version", "more", "own", "limit"]
abbrev ps_changed : List Str := ["limits", "version", "more"]
theorem sc_changed : FnScope N_changed ps_changed (defScope s_changed) := ⟨rfl, rfl, rfl, by decide +kernel, rfl, by decide +kernel, by decide +kernel⟩
abbrev N_first_home : List Str := ["costs", "limits", "left", "version", "limit"]
abbrev ps_first_home : List Str := ["costs", "limits", "left"]
theorem sc_first_home : FnScope N_first_home ps_first_home (defScope s_first_home) := ⟨rfl, rfl, rfl, by decide +kernel, rfl, by decide +kernel, by decide +kernel⟩
abbrev N_best_homes : List Str := ["costs", "limits", "left", "found", "place", "home"]
abbrev ps_best_homes : List Str := ["costs", "limits"]
theorem sc_best_homes : FnScope N_best_homes ps_best_homes (defScope s_best_homes) := ⟨rfl, rfl, rfl, by decide +kernel, rfl, by decide +kernel, by decide +kernel⟩
abbrev N_prices_of : List Str := ["costs", "limits", "least", "version"]
abbrev ps_prices_of : List Str := ["costs", "limits"]
theorem sc_prices_of : FnScope N_prices_of ps_prices_of (defScope s_prices_of) := ⟨rfl, rfl, rfl, by decide +kernel, rfl, by decide +kernel, by decide +kernel⟩
abbrev N_crowded : List Str := ["limits", "homes", "version", "limit"]
abbrev ps_crowded : List Str := ["limits", "homes"]
theorem sc_crowded : FnScope N_crowded ps_crowded (defScope s_crowded) := ⟨rfl, rfl, rfl, by decide +kernel, rfl, by decide +kernel, by decide +kernel⟩
abbrev N_priced_with_room : List Str := ["limits", "homes", "prices", "version", "limit"]
abbrev ps_priced_with_room : List Str := ["limits", "homes", "prices"]
theorem sc_priced_with_room : FnScope N_priced_with_room ps_priced_with_room (defScope s_priced_with_room) := ⟨rfl, rfl, rfl, by decide +kernel, rfl, by decide +kernel, by decide +kernel⟩
abbrev N_is_cheaper_elsewhere : List Str := ["own_costs", "home", "prices", "cost", "price"]
abbrev ps_is_cheaper_elsewhere : List Str := ["own_costs", "home", "prices"]
theorem sc_is_cheaper_elsewhere : FnScope N_is_cheaper_elsewhere ps_is_cheaper_elsewhere (defScope s_is_cheaper_elsewhere) := ⟨rfl, rfl, rfl, by decide +kernel, rfl, by decide +kernel, by decide +kernel⟩
abbrev N_first_unhappy : List Str := ["costs", "homes", "prices", "place", "home"]
abbrev ps_first_unhappy : List Str := ["costs", "homes", "prices"]
theorem sc_first_unhappy : FnScope N_first_unhappy ps_first_unhappy (defScope s_first_unhappy) := ⟨rfl, rfl, rfl, by decide +kernel, rfl, by decide +kernel, by decide +kernel⟩
abbrev N_assignment_fault : List Str := ["costs", "limits", "homes", "prices", "places", "code", "place"]
abbrev ps_assignment_fault : List Str := ["costs", "limits", "homes", "prices"]
theorem sc_assignment_fault : FnScope N_assignment_fault ps_assignment_fault (defScope s_assignment_fault) := ⟨rfl, rfl, rfl, by decide +kernel, rfl, by decide +kernel, by decide +kernel⟩
abbrev N_Row_init : List Str := ["self", "tree", "number", "version", "edge", "mark"]
abbrev ps_Row_init : List Str := ["self", "tree", "number", "version"]
theorem sc_Row_init : FnScope N_Row_init ps_Row_init (defScope s_Row_init) := ⟨rfl, rfl, rfl, by decide +kernel, rfl, by decide +kernel, by decide +kernel⟩
abbrev N_Row_follow : List Str := ["self", "tree", "version", "edge", "step", "counter"]
abbrev ps_Row_follow : List Str := ["self", "tree", "version"]
theorem sc_Row_follow : FnScope N_Row_follow ps_Row_follow (defScope s_Row_follow) := ⟨rfl, rfl, rfl, by decide +kernel, rfl, by decide +kernel, by decide +kernel⟩
abbrev N_Row_use : List Str := ["self", "tree", "version", "cost", "home"]
abbrev ps_Row_use : List Str := ["self", "tree", "version"]
theorem sc_Row_use : FnScope N_Row_use ps_Row_use (defScope s_Row_use) := ⟨rfl, rfl, rfl, by decide +kernel, rfl, by decide +kernel, by decide +kernel⟩
abbrev N_Row_told_counters : List Str := ["self", "found", "mark", "counter"]
abbrev ps_Row_told_counters : List Str := ["self"]
theorem sc_Row_told_counters : FnScope N_Row_told_counters ps_Row_told_counters (defScope s_Row_told_counters) := ⟨rfl, rfl, rfl, by decide +kernel, rfl, by decide +kernel, by decide +kernel⟩
abbrev N_within : List Str := ["counter", "factor"]
abbrev ps_within : List Str := ["counter", "factor"]
theorem sc_within : FnScope N_within ps_within (defScope s_within) := ⟨rfl, rfl, rfl, by decide +kernel, rfl, by decide +kernel, by decide +kernel⟩
abbrev N_is_marked : List Str := ["tree", "marks", "version", "edge"]
abbrev ps_is_marked : List Str := ["tree", "marks", "version"]
theorem sc_is_marked : FnScope N_is_marked ps_is_marked (defScope s_is_marked) := ⟨rfl, rfl, rfl, by decide +kernel, rfl, by decide +kernel, by decide +kernel⟩
abbrev N_marked_version : List Str := ["tree", "marks", "version"]
abbrev ps_marked_version : List Str := ["tree", "marks"]
theorem sc_marked_version : FnScope N_marked_version ps_marked_version (defScope s_marked_version) := ⟨rfl, rfl, rfl, by decide +kernel, rfl, by decide +kernel, by decide +kernel⟩
abbrev N_are_within : List Str := ["numbers", "longest", "least", "most", "number"]
abbrev ps_are_within : List Str := ["numbers", "longest", "least", "most"]
theorem sc_are_within : FnScope N_are_within ps_are_within (defScope s_are_within) := ⟨rfl, rfl, rfl, by decide +kernel, rfl, by decide +kernel, by decide +kernel⟩
abbrev N_is_version : List Str := ["number"]
abbrev ps_is_version : List Str := ["number"]
theorem sc_is_version : FnScope N_is_version ps_is_version (defScope s_is_version) := ⟨rfl, rfl, rfl, by decide +kernel, rfl, by decide +kernel, by decide +kernel⟩
abbrev N_is_row : List Str := ["number"]
abbrev ps_is_row : List Str := ["number"]
theorem sc_is_row : FnScope N_is_row ps_is_row (defScope s_is_row) := ⟨rfl, rfl, rfl, by decide +kernel, rfl, by decide +kernel, by decide +kernel⟩
abbrev N_are_parents : List Str := ["parents", "place", "parent"]
abbrev ps_are_parents : List Str := ["parents"]
theorem sc_are_parents : FnScope N_are_parents ps_are_parents (defScope s_are_parents) := ⟨rfl, rfl, rfl, by decide +kernel, rfl, by decide +kernel, by decide +kernel⟩
abbrev N_is_tree : List Str := ["factor", "parents", "lengths"]
abbrev ps_is_tree : List Str := ["factor", "parents", "lengths"]
theorem sc_is_tree : FnScope N_is_tree ps_is_tree (defScope s_is_tree) := ⟨rfl, rfl, rfl, by decide +kernel, rfl, by decide +kernel, by decide +kernel⟩
abbrev N_are_limits : List Str := ["limits"]
abbrev ps_are_limits : List Str := ["limits"]
theorem sc_are_limits : FnScope N_are_limits ps_are_limits (defScope s_are_limits) := ⟨rfl, rfl, rfl, by decide +kernel, rfl, by decide +kernel, by decide +kernel⟩
abbrev N_is_check : List Str := ["lists"]
abbrev ps_is_check : List Str := ["lists"]
theorem sc_is_check : FnScope N_is_check ps_is_check (defScope s_is_check) := ⟨rfl, rfl, rfl, by decide +kernel, rfl, by decide +kernel, by decide +kernel⟩
abbrev N_is_list_right : List Str := ["call", "numbers"]
abbrev ps_is_list_right : List Str := ["call", "numbers"]
theorem sc_is_list_right : FnScope N_is_list_right ps_is_list_right (defScope s_is_list_right) := ⟨rfl, rfl, rfl, by decide +kernel, rfl, by decide +kernel, by decide +kernel⟩
abbrev N_are_right : List Str := ["call", "numbers", "lists", "own", "number"]
abbrev ps_are_right : List Str := ["call", "numbers", "lists"]
theorem sc_are_right : FnScope N_are_right ps_are_right (defScope s_are_right) := ⟨rfl, rfl, rfl, by decide +kernel, rfl, by decide +kernel, by decide +kernel⟩
abbrev N_weighed_cost : List Str := ["tree", "version", "weights", "own", "weight"]
abbrev ps_weighed_cost : List Str := ["tree", "version", "weights"]
theorem sc_weighed_cost : FnScope N_weighed_cost ps_weighed_cost (defScope s_weighed_cost) := ⟨rfl, rfl, rfl, by decide +kernel, rfl, by decide +kernel, by decide +kernel⟩
abbrev N_median : List Str := ["tree", "weights", "costs", "least", "version"]
abbrev ps_median : List Str := ["tree", "weights"]
theorem sc_median : FnScope N_median ps_median (defScope s_median) := ⟨rfl, rfl, rfl, by decide +kernel, rfl, by decide +kernel, by decide +kernel⟩
abbrev N_weight_beyond : List Str := ["tree", "version", "neighbour", "weights", "own"]
abbrev ps_weight_beyond : List Str := ["tree", "version", "neighbour", "weights"]
theorem sc_weight_beyond : FnScope N_weight_beyond ps_weight_beyond (defScope s_weight_beyond) := ⟨rfl, rfl, rfl, by decide +kernel, rfl, by decide +kernel, by decide +kernel⟩
abbrev N_heavier_side : List Str := ["tree", "version", "weights", "neighbour", "weight"]
abbrev ps_heavier_side : List Str := ["tree", "version", "weights"]
theorem sc_heavier_side : FnScope N_heavier_side ps_heavier_side (defScope s_heavier_side) := ⟨rfl, rfl, rfl, by decide +kernel, rfl, by decide +kernel, by decide +kernel⟩
abbrev N_schedule_cost : List Str := ["tree", "first", "uses", "homes", "cost", "home", "version", "own"]
abbrev ps_schedule_cost : List Str := ["tree", "first", "uses", "homes"]
theorem sc_schedule_cost : FnScope N_schedule_cost ps_schedule_cost (defScope s_schedule_cost) := ⟨rfl, rfl, rfl, by decide +kernel, rfl, by decide +kernel, by decide +kernel⟩
abbrev N_costs_ahead : List Str := ["tree", "version", "later", "found", "home"]
abbrev ps_costs_ahead : List Str := ["tree", "version", "later"]
theorem sc_costs_ahead : FnScope N_costs_ahead ps_costs_ahead (defScope s_costs_ahead) := ⟨rfl, rfl, rfl, by decide +kernel, rfl, by decide +kernel, by decide +kernel⟩
abbrev N_costs_by : List Str := ["tree", "home", "version", "later", "found", "own"]
abbrev ps_costs_by : List Str := ["tree", "home", "version", "later"]
theorem sc_costs_by : FnScope N_costs_by ps_costs_by (defScope s_costs_by) := ⟨rfl, rfl, rfl, by decide +kernel, rfl, by decide +kernel, by decide +kernel⟩
abbrev N_cost_table : List Str := ["tree", "uses", "found", "version"]
abbrev ps_cost_table : List Str := ["tree", "uses"]
theorem sc_cost_table : FnScope N_cost_table ps_cost_table (defScope s_cost_table) := ⟨rfl, rfl, rfl, by decide +kernel, rfl, by decide +kernel, by decide +kernel⟩
abbrev N_best_schedule : List Str := ["tree", "first", "uses", "table", "homes", "home", "place", "version", "costs"]
abbrev ps_best_schedule : List Str := ["tree", "first", "uses"]
theorem sc_best_schedule : FnScope N_best_schedule ps_best_schedule (defScope s_best_schedule) := ⟨rfl, rfl, rfl, by decide +kernel, rfl, by decide +kernel, by decide +kernel⟩
abbrev N_first_pair : List Str := ["tree", "edge", "first", "far"]
abbrev ps_first_pair : List Str := ["tree", "edge", "first"]
theorem sc_first_pair : FnScope N_first_pair ps_first_pair (defScope s_first_pair) := ⟨rfl, rfl, rfl, by decide +kernel, rfl, by decide +kernel, by decide +kernel⟩
abbrev N_next_pair : List Str := ["tree", "edge", "version", "pair", "length", "far", "is_lower", "low", "high"]
abbrev ps_next_pair : List Str := ["tree", "edge", "version", "pair"]
theorem sc_next_pair : FnScope N_next_pair ps_next_pair (defScope s_next_pair) := ⟨rfl, rfl, rfl, by decide +kernel, rfl, by decide +kernel, by decide +kernel⟩
abbrev N_edge_pairs : List Str := ["tree", "edge", "first", "uses", "found", "version"]
abbrev ps_edge_pairs : List Str := ["tree", "edge", "first", "uses"]
theorem sc_edge_pairs : FnScope N_edge_pairs ps_edge_pairs (defScope s_edge_pairs) := ⟨rfl, rfl, rfl, by decide +kernel, rfl, by decide +kernel, by decide +kernel⟩
abbrev N_reported : List Str := ["tree", "first", "uses", "found", "edge", "pair"]
abbrev ps_reported : List Str := ["tree", "first", "uses"]
theorem sc_reported : FnScope N_reported ps_reported (defScope s_reported) := ⟨rfl, rfl, rfl, by decide +kernel, rfl, by decide +kernel, by decide +kernel⟩
abbrev N_pair_at : List Str := ["values", "edge", "place", "uses", "at"]
abbrev ps_pair_at : List Str := ["values", "edge", "place", "uses"]
theorem sc_pair_at : FnScope N_pair_at ps_pair_at (defScope s_pair_at) := ⟨rfl, rfl, rfl, by decide +kernel, rfl, by decide +kernel, by decide +kernel⟩
abbrev N_bound_of : List Str := ["tree", "uses", "values", "edge"]
abbrev ps_bound_of : List Str := ["tree", "uses", "values"]
theorem sc_bound_of : FnScope N_bound_of ps_bound_of (defScope s_bound_of) := ⟨rfl, rfl, rfl, by decide +kernel, rfl, by decide +kernel, by decide +kernel⟩
abbrev N_fault_at_first : List Str := ["tree", "edge", "first", "pair", "due"]
abbrev ps_fault_at_first : List Str := ["tree", "edge", "first", "pair"]
theorem sc_fault_at_first : FnScope N_fault_at_first ps_fault_at_first (defScope s_fault_at_first) := ⟨rfl, rfl, rfl, by decide +kernel, rfl, by decide +kernel, by decide +kernel⟩
abbrev N_fault_at : List Str := ["tree", "edge", "first", "uses", "values", "place", "pair", "length", "before", "is_lower"]
abbrev ps_fault_at : List Str := ["tree", "edge", "first", "uses", "values", "place"]
theorem sc_fault_at : FnScope N_fault_at ps_fault_at (defScope s_fault_at) := ⟨rfl, rfl, rfl, by decide +kernel, rfl, by decide +kernel, by decide +kernel⟩
abbrev N_first_fault : List Str := ["tree", "first", "uses", "values", "edge", "place", "code"]
abbrev ps_first_fault : List Str := ["tree", "first", "uses", "values"]
theorem sc_first_fault : FnScope N_first_fault ps_first_fault (defScope s_first_fault) := ⟨rfl, rfl, rfl, by decide +kernel, rfl, by decide +kernel, by decide +kernel⟩
abbrev N_Tree_init : List Str := ["self", "factor", "parents", "lengths", "version"]
abbrev ps_Tree_init : List Str := ["self", "factor", "parents", "lengths"]
theorem sc_Tree_init : FnScope N_Tree_init ps_Tree_init (defScope s_Tree_init) := ⟨rfl, rfl, rfl, by decide +kernel, rfl, by decide +kernel, by decide +kernel⟩
abbrev N_Tree_edges : List Str := ["self"]
abbrev ps_Tree_edges : List Str := ["self"]
theorem sc_Tree_edges : FnScope N_Tree_edges ps_Tree_edges (defScope s_Tree_edges) := ⟨rfl, rfl, rfl, by decide +kernel, rfl, by decide +kernel, by decide +kernel⟩
abbrev N_Tree_is_lower : List Str := ["self", "edge", "version"]
abbrev ps_Tree_is_lower : List Str := ["self", "edge", "version"]
theorem sc_Tree_is_lower : FnScope N_Tree_is_lower ps_Tree_is_lower (defScope s_Tree_is_lower) := ⟨rfl, rfl, rfl, by decide +kernel, rfl, by decide +kernel, by decide +kernel⟩
abbrev N_Tree_edges_between : List Str := ["self", "version", "other", "edge"]
abbrev ps_Tree_edges_between : List Str := ["self", "version", "other"]
theorem sc_Tree_edges_between : FnScope N_Tree_edges_between ps_Tree_edges_between (defScope s_Tree_edges_between) := ⟨rfl, rfl, rfl, by decide +kernel, rfl, by decide +kernel, by decide +kernel⟩
abbrev N_Tree_measured : List Str := ["self", "version", "other", "edge"]
abbrev ps_Tree_measured : List Str := ["self", "version", "other"]
theorem sc_Tree_measured : FnScope N_Tree_measured ps_Tree_measured (defScope s_Tree_measured) := ⟨rfl, rfl, rfl, by decide +kernel, rfl, by decide +kernel, by decide +kernel⟩
abbrev N_Tree_distances : List Str := ["self", "version", "other"]
abbrev ps_Tree_distances : List Str := ["self", "version"]
theorem sc_Tree_distances : FnScope N_Tree_distances ps_Tree_distances (defScope s_Tree_distances) := ⟨rfl, rfl, rfl, by decide +kernel, rfl, by decide +kernel, by decide +kernel⟩
abbrev N_Tree_distance : List Str := ["self", "version", "other"]
abbrev ps_Tree_distance : List Str := ["self", "version", "other"]
theorem sc_Tree_distance : FnScope N_Tree_distance ps_Tree_distance (defScope s_Tree_distance) := ⟨rfl, rfl, rfl, by decide +kernel, rfl, by decide +kernel, by decide +kernel⟩
abbrev N_Tree_way : List Str := ["self", "version", "other", "ahead", "behind", "shared", "own"]
abbrev ps_Tree_way : List Str := ["self", "version", "other"]
theorem sc_Tree_way : FnScope N_Tree_way ps_Tree_way (defScope s_Tree_way) := ⟨rfl, rfl, rfl, by decide +kernel, rfl, by decide +kernel, by decide +kernel⟩
abbrev N_Tree_neighbours : List Str := ["self", "version", "own"]
abbrev ps_Tree_neighbours : List Str := ["self", "version"]
theorem sc_Tree_neighbours : FnScope N_Tree_neighbours ps_Tree_neighbours (defScope s_Tree_neighbours) := ⟨rfl, rfl, rfl, by decide +kernel, rfl, by decide +kernel, by decide +kernel⟩
abbrev N_Tree_are_joined : List Str := ["self", "version", "other"]
abbrev ps_Tree_are_joined : List Str := ["self", "version", "other"]
theorem sc_Tree_are_joined : FnScope N_Tree_are_joined ps_Tree_are_joined (defScope s_Tree_are_joined) := ⟨rfl, rfl, rfl, by decide +kernel, rfl, by decide +kernel, by decide +kernel⟩
abbrev N_Tree_beyond : List Str := ["self", "version", "neighbour", "edge", "side", "own"]
abbrev ps_Tree_beyond : List Str := ["self", "version", "neighbour"]
theorem sc_Tree_beyond : FnScope N_Tree_beyond ps_Tree_beyond (defScope s_Tree_beyond) := ⟨rfl, rfl, rfl, by decide +kernel, rfl, by decide +kernel, by decide +kernel⟩
abbrev N_Tree_fixed_cost : List Str := ["self", "home", "uses", "version"]
abbrev ps_Tree_fixed_cost : List Str := ["self", "home", "uses"]
theorem sc_Tree_fixed_cost : FnScope N_Tree_fixed_cost ps_Tree_fixed_cost (defScope s_Tree_fixed_cost) := ⟨rfl, rfl, rfl, by decide +kernel, rfl, by decide +kernel, by decide +kernel⟩
abbrev N_way_up : List Str := ["parents", "version", "found"]
abbrev ps_way_up : List Str := ["parents", "version"]
theorem sc_way_up : FnScope N_way_up ps_way_up (defScope s_way_up) := ⟨rfl, rfl, rfl, by decide +kernel, rfl, by decide +kernel, by decide +kernel⟩
abbrev N_ways_up : List Str := ["parents", "version"]
abbrev ps_ways_up : List Str := ["parents"]
theorem sc_ways_up : FnScope N_ways_up ps_ways_up (defScope s_ways_up) := ⟨rfl, rfl, rfl, by decide +kernel, rfl, by decide +kernel, by decide +kernel⟩
abbrev N_counted : List Str := ["numbers"]
abbrev ps_counted : List Str := ["numbers"]
theorem sc_counted : FnScope N_counted ps_counted (defScope s_counted) := ⟨rfl, rfl, rfl, by decide +kernel, rfl, by decide +kernel, by decide +kernel⟩
abbrev N_Desk_init : List Str := ["self"]
abbrev ps_Desk_init : List Str := ["self"]
theorem sc_Desk_init : FnScope N_Desk_init ps_Desk_init (defScope s_Desk_init) := ⟨rfl, rfl, rfl, by decide +kernel, rfl, by decide +kernel, by decide +kernel⟩
abbrev N_Desk_row_at : List Str := ["self", "number", "row"]
abbrev ps_Desk_row_at : List Str := ["self", "number"]
theorem sc_Desk_row_at : FnScope N_Desk_row_at ps_Desk_row_at (defScope s_Desk_row_at) := ⟨rfl, rfl, rfl, by decide +kernel, rfl, by decide +kernel, by decide +kernel⟩
abbrev N_Desk_are_there : List Str := ["self", "versions", "version"]
abbrev ps_Desk_are_there : List Str := ["self", "versions"]
theorem sc_Desk_are_there : FnScope N_Desk_are_there ps_Desk_are_there (defScope s_Desk_are_there) := ⟨rfl, rfl, rfl, by decide +kernel, rfl, by decide +kernel, by decide +kernel⟩
abbrev N_Desk_answer : List Str := ["self", "call", "numbers", "lists", "row"]
abbrev ps_Desk_answer : List Str := ["self", "call", "numbers", "lists"]
theorem sc_Desk_answer : FnScope N_Desk_answer ps_Desk_answer (defScope s_Desk_answer) := ⟨rfl, rfl, rfl, by decide +kernel, rfl, by decide +kernel, by decide +kernel⟩
abbrev N_Desk_answer_tree : List Str := ["self", "call", "numbers", "lists"]
abbrev ps_Desk_answer_tree : List Str := ["self", "call", "numbers", "lists"]
theorem sc_Desk_answer_tree : FnScope N_Desk_answer_tree ps_Desk_answer_tree (defScope s_Desk_answer_tree) := ⟨rfl, rfl, rfl, by decide +kernel, rfl, by decide +kernel, by decide +kernel⟩
abbrev N_Desk_answer_row : List Str := ["self", "call", "row", "lists", "cost", "homes"]
abbrev ps_Desk_answer_row : List Str := ["self", "call", "row", "lists"]
theorem sc_Desk_answer_row : FnScope N_Desk_answer_row ps_Desk_answer_row (defScope s_Desk_answer_row) := ⟨rfl, rfl, rfl, by decide +kernel, rfl, by decide +kernel, by decide +kernel⟩
abbrev N_Desk_set_tree : List Str := ["self", "factor", "parents", "lengths"]
abbrev ps_Desk_set_tree : List Str := ["self", "factor", "parents", "lengths"]
theorem sc_Desk_set_tree : FnScope N_Desk_set_tree ps_Desk_set_tree (defScope s_Desk_set_tree) := ⟨rfl, rfl, rfl, by decide +kernel, rfl, by decide +kernel, by decide +kernel⟩
abbrev N_Desk_distance : List Str := ["self", "version", "other"]
abbrev ps_Desk_distance : List Str := ["self", "version", "other"]
theorem sc_Desk_distance : FnScope N_Desk_distance ps_Desk_distance (defScope s_Desk_distance) := ⟨rfl, rfl, rfl, by decide +kernel, rfl, by decide +kernel, by decide +kernel⟩
abbrev N_Desk_add : List Str := ["self", "number", "version", "ahead", "row"]
abbrev ps_Desk_add : List Str := ["self", "number", "version"]
theorem sc_Desk_add : FnScope N_Desk_add ps_Desk_add (defScope s_Desk_add) := ⟨rfl, rfl, rfl, by decide +kernel, rfl, by decide +kernel, by decide +kernel⟩
abbrev N_Desk_use : List Str := ["self", "row", "versions", "moves", "cost", "version"]
abbrev ps_Desk_use : List Str := ["self", "row", "versions"]
theorem sc_Desk_use : FnScope N_Desk_use ps_Desk_use (defScope s_Desk_use) := ⟨rfl, rfl, rfl, by decide +kernel, rfl, by decide +kernel, by decide +kernel⟩
abbrev N_Desk_told_row : List Str := ["self", "row", "cost", "homes"]
abbrev ps_Desk_told_row : List Str := ["self", "row"]
theorem sc_Desk_told_row : FnScope N_Desk_told_row ps_Desk_told_row (defScope s_Desk_told_row) := ⟨rfl, rfl, rfl, by decide +kernel, rfl, by decide +kernel, by decide +kernel⟩
abbrev N_Desk_told_schedule_cost : List Str := ["self", "row", "homes"]
abbrev ps_Desk_told_schedule_cost : List Str := ["self", "row", "homes"]
theorem sc_Desk_told_schedule_cost : FnScope N_Desk_told_schedule_cost ps_Desk_told_schedule_cost (defScope s_Desk_told_schedule_cost) := ⟨rfl, rfl, rfl, by decide +kernel, rfl, by decide +kernel, by decide +kernel⟩
abbrev N_Desk_bound : List Str := ["self", "row", "values"]
abbrev ps_Desk_bound : List Str := ["self", "row"]
theorem sc_Desk_bound : FnScope N_Desk_bound ps_Desk_bound (defScope s_Desk_bound) := ⟨rfl, rfl, rfl, by decide +kernel, rfl, by decide +kernel, by decide +kernel⟩
abbrev N_Desk_check_bound : List Str := ["self", "row", "values", "fault"]
abbrev ps_Desk_check_bound : List Str := ["self", "row", "values"]
theorem sc_Desk_check_bound : FnScope N_Desk_check_bound ps_Desk_check_bound (defScope s_Desk_check_bound) := ⟨rfl, rfl, rfl, by decide +kernel, rfl, by decide +kernel, by decide +kernel⟩
abbrev N_Desk_told_median : List Str := ["self", "weights", "version", "cost"]
abbrev ps_Desk_told_median : List Str := ["self", "weights"]
theorem sc_Desk_told_median : FnScope N_Desk_told_median ps_Desk_told_median (defScope s_Desk_told_median) := ⟨rfl, rfl, rfl, by decide +kernel, rfl, by decide +kernel, by decide +kernel⟩
abbrev N_Desk_check_median : List Str := ["self", "version", "weights", "found"]
abbrev ps_Desk_check_median : List Str := ["self", "version", "weights"]
theorem sc_Desk_check_median : FnScope N_Desk_check_median ps_Desk_check_median (defScope s_Desk_check_median) := ⟨rfl, rfl, rfl, by decide +kernel, rfl, by decide +kernel, by decide +kernel⟩
abbrev N_Desk_fixed_costs : List Str := ["self", "row"]
abbrev ps_Desk_fixed_costs : List Str := ["self"]
theorem sc_Desk_fixed_costs : FnScope N_Desk_fixed_costs ps_Desk_fixed_costs (defScope s_Desk_fixed_costs) := ⟨rfl, rfl, rfl, by decide +kernel, rfl, by decide +kernel, by decide +kernel⟩
abbrev N_Desk_assign : List Str := ["self", "limits", "costs", "homes"]
abbrev ps_Desk_assign : List Str := ["self", "limits"]
theorem sc_Desk_assign : FnScope N_Desk_assign ps_Desk_assign (defScope s_Desk_assign) := ⟨rfl, rfl, rfl, by decide +kernel, rfl, by decide +kernel, by decide +kernel⟩
abbrev N_Desk_check_assignment : List Str := ["self", "limits", "homes", "prices", "costs", "fault"]
abbrev ps_Desk_check_assignment : List Str := ["self", "limits", "homes", "prices"]
theorem sc_Desk_check_assignment : FnScope N_Desk_check_assignment ps_Desk_check_assignment (defScope s_Desk_check_assignment) := ⟨rfl, rfl, rfl, by decide +kernel, rfl, by decide +kernel, by decide +kernel⟩
abbrev N_Desk_remove : List Str := ["self", "row", "own"]
abbrev ps_Desk_remove : List Str := ["self", "row"]
theorem sc_Desk_remove : FnScope N_Desk_remove ps_Desk_remove (defScope s_Desk_remove) := ⟨rfl, rfl, rfl, by decide +kernel, rfl, by decide +kernel, by decide +kernel⟩
abbrev N_Desk_status : List Str := ["self", "found", "row"]
abbrev ps_Desk_status : List Str := ["self"]
theorem sc_Desk_status : FnScope N_Desk_status ps_Desk_status (defScope s_Desk_status) := ⟨rfl, rfl, rfl, by decide +kernel, rfl, by decide +kernel, by decide +kernel⟩
abbrev N_lists_from : List Str := ["calls", "at", "many", "found", "turn", "size"]
abbrev ps_lists_from : List Str := ["calls", "at", "many"]
theorem sc_lists_from : FnScope N_lists_from ps_lists_from (defScope s_lists_from) := ⟨rfl, rfl, rfl, by decide +kernel, rfl, by decide +kernel, by decide +kernel⟩
abbrev N_answers : List Str := ["calls", "desk", "found", "at", "whole", "many", "behind", "lists", "after", "answer"]
abbrev ps_answers : List Str := ["calls"]
theorem sc_answers : FnScope N_answers ps_answers (defScope s_answers) := ⟨rfl, rfl, rfl, by decide +kernel, rfl, by decide +kernel, by decide +kernel⟩
end Hm
end
section
set_option Elab.async false
set_option linter.all false
set_option maxRecDepth 100000
set_option maxHeartbeats 0
namespace Hm
open PySem PySem.Spec PyProof.Rows L2
abbrev R : PySem.W.OpenSpec := PySem.Challenge.rw_homemoves_s01_answers
def ob (s : PySem.W.SharedT) : Bool × He.AlD := obsX (He.frG (HandSHeadRun.getT s) tracked)
theorem ob_eq (s : PySem.W.SharedT) : ob s = hkX.obs s.abs := by
  have e : HandSHeadRun.getT s = s.abs.heap.get? := funext (HandSHeadRun.getT_eq s)
  show obsX _ = obsX _
  rw [e]
theorem run (w : World) : HandSHeadRun.RunEqS R (PySem.W.view R.prog [99]) hkX ob 9000 names w := by
  intro os
  kernel_rfl
end Hm
end
section
set_option Elab.async false
set_option linter.all false
set_option maxRecDepth 100000
set_option maxHeartbeats 2000000
namespace Hm
open PySem PySem.Spec PyProof.Rows L2

/-! ### data, and how they lie in a heap -/
inductive D where
  | i (n : Int)
  | b (c : Bool)
  | n
  | l (xs : List D)
  | t (xs : List D)
  | o (C : Addr) (ns : List Str) (xs : List D)
  | v (x : V)
mutual
def Rep (H : Hp) : D → V → Prop
  | .i n, v => v = .int n
  | .b c, v => v = .bl c
  | .n, v => v = .non
  | .l xs, v => ∃ (a : Addr) (vs : List V), v = .ref a ∧ H a = some (.lst vs) ∧ Reps H xs vs
  | .t xs, v => ∃ (a : Addr) (vs : List V), v = .ref a ∧ H a = some (.tup vs) ∧ Reps H xs vs
  | .o C ns xs, v => ∃ (a dx : Addr) (vs : List V), v = .ref a ∧ H a = some (.ins C dx (ns.zip vs)) ∧ Reps H xs vs
  | .v x, v => v = x
def Reps (H : Hp) : List D → List V → Prop
  | [], vs => vs = []
  | d :: ds, vs => ∃ (v : V) (r : List V), vs = v :: r ∧ Rep H d v ∧ Reps H ds r
end
/-- what is known stays -/
abbrev Ex (H H' : Hp) : Prop := ∀ a o, H a = some o → H' a = some o
theorem Ex.refl (H : Hp) : Ex H H := fun _ _ h => h
theorem Ex.trans {H H1 H2 : Hp} (a : Ex H H1) (b : Ex H1 H2) : Ex H H2 := fun x o h => b x o (a x o h)
mutual
theorem Rep.mono {H H' : Hp} (e : Ex H H') : ∀ (d : D) (v : V), Rep H d v → Rep H' d v
  | .i _, _, h => h
  | .b _, _, h => h
  | .n, _, h => h
  | .l xs, _, ⟨a, vs, h1, h2, h3⟩ => ⟨a, vs, h1, e a _ h2, Reps.mono e xs vs h3⟩
  | .t xs, _, ⟨a, vs, h1, h2, h3⟩ => ⟨a, vs, h1, e a _ h2, Reps.mono e xs vs h3⟩
  | .o _ _ xs, _, ⟨a, dx, vs, h1, h2, h3⟩ => ⟨a, dx, vs, h1, e a _ h2, Reps.mono e xs vs h3⟩
  | .v _, _, h => h
theorem Reps.mono {H H' : Hp} (e : Ex H H') : ∀ (ds : List D) (vs : List V), Reps H ds vs → Reps H' ds vs
  | [], _, h => h
  | d :: ds, _, ⟨v, r, h1, h2, h3⟩ => ⟨v, r, h1, Rep.mono e d v h2, Reps.mono e ds r h3⟩
end

theorem Reps.len {H : Hp} : ∀ {ds : List D} {vs : List V}, Reps H ds vs → vs.length = ds.length
  | [], _, h => by
    have e : _ = [] := h
    subst e
    rfl
  | d :: ds, _, ⟨v, r, h1, _, h3⟩ => by
    subst h1
    exact congrArg (· + 1) (Reps.len h3)
theorem Reps.get {H : Hp} : ∀ {ds : List D} {vs : List V} {j : Nat} {d : D}, Reps H ds vs → ds[j]? = some d → ∃ v, vs[j]? = some v ∧ Rep H d v
  | [], _, _, _, _, e => by simp at e
  | d :: ds, _, 0, d', ⟨v, r, h1, h2, _⟩, e => by
    have e' : d = d' := by simpa using e
    subst e' h1
    exact ⟨v, rfl, h2⟩
  | d :: ds, _, j + 1, d', ⟨v, r, h1, _, h3⟩, e => by
    subst h1
    obtain ⟨u, h4, h5⟩ := Reps.get (j := j) (d := d') h3 (by simpa using e)
    exact ⟨u, by simpa using h4, h5⟩
theorem Reps.back {H : Hp} : ∀ {ds : List D} {vs : List V} {j : Nat} {v : V}, Reps H ds vs → vs[j]? = some v → ∃ d, ds[j]? = some d ∧ Rep H d v := fun {ds vs j v} h e => by
  have hj : j < ds.length := by
    rw [← h.len]
    exact (List.getElem?_eq_some_iff.mp e).1
  obtain ⟨u, h1, h2⟩ := h.get (List.getElem?_eq_getElem hj)
  rw [e] at h1
  cases h1
  exact ⟨_, List.getElem?_eq_getElem hj, h2⟩
theorem Reps.app {H : Hp} : ∀ {ds es : List D} {vs ws : List V}, Reps H ds vs → Reps H es ws → Reps H (ds ++ es) (vs ++ ws)
  | [], _, _, _, h, k => by
    have e : _ = [] := h
    subst e
    exact k
  | d :: ds, _, _, _, ⟨v, r, h1, h2, h3⟩, k => by
    subst h1
    exact ⟨v, r ++ _, rfl, h2, Reps.app h3 k⟩
theorem Reps.one {H : Hp} {d : D} {v : V} (h : Rep H d v) : Reps H [d] [v] := ⟨v, [], rfl, h, rfl⟩
theorem Reps.nil {H : Hp} : Reps H [] [] := rfl
theorem Reps.take {H : Hp} : ∀ {ds : List D} {vs : List V} (n : Nat), Reps H ds vs → Reps H (ds.take n) (vs.take n)
  | _, _, 0, _ => by simp [Reps]
  | [], _, _ + 1, h => by
    have e : _ = [] := h
    subst e
    rfl
  | d :: ds, _, n + 1, ⟨v, r, h1, h2, h3⟩ => by
    subst h1
    exact ⟨v, r.take n, rfl, h2, Reps.take n h3⟩
theorem Reps.drop {H : Hp} : ∀ {ds : List D} {vs : List V} (n : Nat), Reps H ds vs → Reps H (ds.drop n) (vs.drop n)
  | _, _, 0, h => h
  | [], _, _ + 1, h => by
    have e : _ = [] := h
    subst e
    rfl
  | d :: ds, _, n + 1, ⟨v, r, h1, h2, h3⟩ => by
    subst h1
    exact Reps.drop n h3
theorem Reps.rev {H : Hp} : ∀ {ds : List D} {vs : List V}, Reps H ds vs → Reps H ds.reverse vs.reverse
  | [], _, h => by
    have e : _ = [] := h
    subst e
    rfl
  | d :: ds, _, ⟨v, r, h1, h2, h3⟩ => by
    subst h1
    rw [List.reverse_cons, List.reverse_cons]
    exact (Reps.rev h3).app (.one h2)
theorem Reps.set {H : Hp} {d : D} {v : V} (k : Rep H d v) : ∀ {ds : List D} {vs : List V} (n : Nat), Reps H ds vs → Reps H (ds.set n d) (vs.set n v)
  | [], _, _, h => by
    have e : _ = [] := h
    subst e
    rfl
  | e :: ds, _, 0, ⟨u, r, h1, h2, h3⟩ => by
    subst h1
    exact ⟨v, r, rfl, k, h3⟩
  | e :: ds, _, n + 1, ⟨u, r, h1, h2, h3⟩ => by
    subst h1
    exact ⟨u, r.set n v, rfl, h2, Reps.set k n h3⟩
theorem Reps.rep {H : Hp} {d : D} {v : V} (k : Rep H d v) : ∀ (n : Nat), Reps H (List.replicate n d) (List.replicate n v)
  | 0 => rfl
  | n + 1 => ⟨v, List.replicate n v, rfl, k, Reps.rep k n⟩
/-- flat data -/
abbrev dn (n : Nat) : D := .i (n : Int)
abbrev vn (n : Nat) : V := .int (n : Int)
theorem Reps.map_eq {H : Hp} {α : Type} {f : α → D} {g : α → V} (hf : ∀ a v, Rep H (f a) v ↔ v = g a) : ∀ {l : List α} {vs : List V}, Reps H (l.map f) vs ↔ vs = l.map g
  | [], _ => Iff.rfl
  | a :: l, vs => by
    constructor
    · rintro ⟨v, r, h1, h2, h3⟩
      rw [h1, (hf a v).mp h2, (Reps.map_eq hf).mp h3]
      rfl
    · intro h
      exact ⟨g a, l.map g, h, (hf a _).mpr rfl, (Reps.map_eq hf).mpr rfl⟩
theorem Reps.ints {H : Hp} {l : List Int} {vs : List V} : Reps H (l.map D.i) vs ↔ vs = l.map V.int := Reps.map_eq fun _ _ => Iff.rfl
theorem Reps.nats {H : Hp} {l : List Nat} {vs : List V} : Reps H (l.map dn) vs ↔ vs = l.map vn := Reps.map_eq fun _ _ => Iff.rfl
theorem Reps.bools {H : Hp} {l : List Bool} {vs : List V} : Reps H (l.map D.b) vs ↔ vs = l.map V.bl := Reps.map_eq fun _ _ => Iff.rfl
theorem nats_int (l : List Nat) : (l.map vn) = (l.map fun (n : Nat) => (n : Int)).map V.int := by rw [List.map_map] <;> rfl
theorem dn_int (l : List Nat) : l.map dn = (l.map fun (n : Nat) => (n : Int)).map D.i := by rw [List.map_map] <;> rfl
theorem szLe {n : Nat} (h : n ≤ 10000000) : n ≤ sizeLine := Nat.le_trans h (by decide)
theorem szLt {n : Nat} (h : n < 10000000) : n < sizeLine := Nat.lt_of_lt_of_le h (by decide)

/-! ### worlds: f what stays for good, h all that is tracked -/
structure Wd where
  f : Hp
  h : Hp
structure Grow (W W' : Wd) : Prop where
  ff : Ex W.f W'.f
  fh : Ex W'.f W'.h
  hh : Ex W.h W'.h
  fr : ∀ a, W.f a = none → W.h a ≠ none → W'.f a = none
theorem Grow.refl {W : Wd} (ok : Ex W.f W.h) : Grow W W := ⟨Ex.refl _, ok, Ex.refl _, fun _ h _ => h⟩
theorem Grow.trans {W W1 W2 : Wd} (a : Grow W W1) (b : Grow W1 W2) : Grow W W2 :=
  ⟨a.ff.trans b.ff, b.fh, a.hh.trans b.hh, fun x h1 h2 => b.fr x (a.fr x h1 h2) fun e => by
    cases q : W.h x with
    | none => exact h2 q
    | some o => rw [a.hh x o q] at e; cases e⟩
theorem Grow.rf {W W1 : Wd} (a : Grow W W1) : Grow W1 W1 := .refl a.fh
theorem none_of {H H' : Hp} (e : Ex H H') {p : Addr} (h : H' p = none) : H p = none := by
  cases q : H p with
  | none => rfl
  | some o => rw [e p o q] at h; cases h
theorem Ex.new {H : Hp} {p : Addr} {o : HO} (h : H p = none) : Ex H (upd H p o) := fun a u e => by
  rw [upd_ne (ne_of_none e h)]
  exact e
theorem Ex.mut {H H' : Hp} {p : Addr} {o : HO} (e : Ex H H') (h : H p = none) : Ex H (upd H' p o) := fun a u ha => by
  rw [upd_ne (ne_of_none ha h)]
  exact e a u ha
theorem Ex.both {H H' : Hp} {p : Addr} {o : HO} (e : Ex H H') : Ex (upd H p o) (upd H' p o) := fun a u ha => by
  by_cases q : a = p
  · subst q
    rw [upd_same] at ha ⊢
    exact ha
  · rw [upd_ne q] at ha ⊢
    exact e a u ha
/-- a new object that stays -/
theorem Grow.new {W : Wd} (ok : Ex W.f W.h) {p : Addr} {o : HO} (h : W.h p = none) : Grow W ⟨upd W.f p o, upd W.h p o⟩ :=
  ⟨.new (none_of ok h), ok.both, .new h, fun a h1 h2 => by
    have ne : a ≠ p := fun q => by
      subst q
      exact h2 h
    show L2.upd W.f p o a = none
    rw [upd_ne ne]
    exact h1⟩
/-- a new object that may change -/
theorem Grow.own {W : Wd} (ok : Ex W.f W.h) {p : Addr} {o : HO} (h : W.h p = none) : Grow W ⟨W.f, upd W.h p o⟩ := ⟨.refl _, ok.mut (none_of ok h), .new h, fun _ h1 _ => h1⟩
/-- .. changes -/
theorem Grow.set {E W : Wd} (g : Grow E W) {p : Addr} {o : HO} (h : E.h p = none) (hf : W.f p = none) : Grow E ⟨W.f, upd W.h p o⟩ := ⟨g.ff, g.fh.mut hf, g.hh.mut h, g.fr⟩
/-- .. and stays from now on -/
theorem Ex.upd {H H' : Hp} {p : Addr} {o : HO} (e : Ex H H') (hp : H' p = some o) : Ex (upd H p o) H' := fun a u ha => by
  by_cases q : a = p
  · subst q
    rw [upd_same] at ha
    rw [hp]
    exact ha
  · rw [upd_ne q] at ha
    exact e a u ha
theorem Grow.frz {E W : Wd} (g : Grow E W) {p : Addr} {o : HO} (h : E.h p = none) (hf : W.f p = none) (hp : W.h p = some o) : Grow E ⟨L2.upd W.f p o, W.h⟩ :=
  ⟨g.ff.trans (.new hf), g.fh.upd hp, g.hh, fun a h1 h2 => by
    have ne : a ≠ p := fun q => by
      subst q
      exact h2 h
    show L2.upd W.f p o a = none
    rw [upd_ne ne]
    exact g.fr a h1 h2⟩
theorem frz_rep {W : Wd} {p : Addr} {vs : List V} {ds : List D} (hf : W.f p = none) (r : Reps W.f ds vs) : Rep (upd W.f p (.lst vs)) (.l ds) (.ref p) := ⟨p, vs, rfl, upd_same, Reps.mono (.new hf) ds vs r⟩

/-! ### what evaluates to what -/
def EvD (te : TE) (σ : L2.St) (W : Wd) (d : D) : Prop := ∀ W1, Grow W W1 → ∀ Q : VK, (∀ v W2, Grow W1 W2 → Rep W2.f d v → Q v W2.h) → te σ W1.h Q
/-- .. and lies at an address that was free -/
def EvF (te : TE) (σ : L2.St) (W : Wd) (d : D) : Prop := ∀ W1, Grow W W1 → ∀ Q : VK, (∀ p W2, Grow W1 W2 → W1.h p = none → Rep W2.f d (.ref p) → Q (.ref p) W2.h) → te σ W1.h Q
theorem EvF.d {te : TE} {σ : L2.St} {W : Wd} {d : D} (h : EvF te σ W d) : EvD te σ W d := fun W1 g Q q => h W1 g Q fun p W2 g2 _ r => q _ W2 g2 r
def EvT (t : TT) (σ : L2.St) (W : Wd) (b : Bool) : Prop := ∀ W1, Grow W W1 → ∀ Q : Bool → Hp → Prop, (∀ W2, Grow W1 W2 → Q b W2.h) → t σ W1.h Q
def EvA (ta : TA) (σ : L2.St) (W : Wd) (ds : List D) : Prop := ∀ W1, Grow W W1 → ∀ Q : List V → Hp → Prop, (∀ vs W2, Grow W1 W2 → Reps W2.f ds vs → Q vs W2.h) → ta σ W1.h Q
def EvO (to : TO) (σ : L2.St) (W : Wd) (o : Option Int) : Prop := ∀ W1, Grow W W1 → ∀ Q : Option Int → Hp → Prop, (∀ W2, Grow W1 W2 → Q o W2.h) → to σ W1.h Q
section
variable {K : PySem.W.Frag} {σ : L2.St} {W W' : Wd} {ta tb tc te : TE} {t u : TT} {d : D} {a c : Bool} {m k : Int}
theorem EvD.mono (g : Grow W W') (h : EvD te σ W d) : EvD te σ W' d := fun W1 a Q q => h W1 (g.trans a) Q q
theorem EvT.mono (g : Grow W W') (h : EvT t σ W a) : EvT t σ W' a := fun W1 a Q q => h W1 (g.trans a) Q q
theorem EvD.is {d' : D} (h : EvD te σ W d) (e : d = d') : EvD te σ W d' := e ▸ h
theorem EvT.is {b' : Bool} (h : EvT t σ W a) (e : a = b') : EvT t σ W b' := e ▸ h
theorem ev_var {i : Nat} {v : V} (r : Rep W.f d v) (h : σ[i]? = some (some v)) : EvD (tVar i) σ W d := fun W1 g _ q => ⟨v, h, q v W1 g.rf (Rep.mono g.ff d v r)⟩
theorem ev_int : EvD (tC (.int m)) σ W (.i m) := fun W1 g _ q => q _ W1 g.rf rfl
theorem ev_bl : EvD (tC (.bl a)) σ W (.b a) := fun W1 g _ q => q _ W1 g.rf rfl
theorem ev_non : EvD (tC .non) σ W .n := fun W1 g _ q => q _ W1 g.rf rfl
/-- an operator on two values -/
def RvD (r : R2) (W : Wd) (d1 d2 d : D) : Prop := ∀ W1 x y, Grow W W1 → Rep W1.f d1 x → Rep W1.f d2 y → ∀ Q : VK, (∀ v W2, Grow W1 W2 → Rep W2.f d v → Q v W2.h) → r x y W1.h Q
theorem ev_op {r : R2} {d1 d2 : D} (hr : RvD r W d1 d2 d) (ha : EvD ta σ W d1) (hb : EvD tb σ W d2) : EvD (tOp r ta tb) σ W d := fun W1 g Q q =>
  ha W1 g _ fun x W2 g2 rx => hb W2 (g.trans g2) _ fun y W3 g3 ry => hr W3 x y ((g.trans g2).trans g3) (Rep.mono g3.ff d1 x rx) ry Q fun v W4 g4 r4 => q v W4 ((g2.trans g3).trans g4) r4
theorem rv_I {g : Int → Int → V} (h : ∀ H, Rep H d (g m k)) : RvD (rI0 g) W (.i m) (.i k) d := fun W1 x y gr rx ry Q q => ⟨m, k, rx, ry, q _ W1 gr.rf (h _)⟩
theorem rv_add : RvD (rI0 fun i j => .int (i + j)) W (.i m) (.i k) (.i (m + k)) := rv_I fun _ => rfl
theorem rv_sub : RvD (rI0 fun i j => .int (i - j)) W (.i m) (.i k) (.i (m - k)) := rv_I fun _ => rfl
theorem rv_lt : RvD (rI0 fun i j => .bl (decide (i < j))) W (.i m) (.i k) (.b (decide (m < k))) := rv_I fun _ => rfl
theorem rv_le : RvD (rI0 fun i j => .bl (decide (i ≤ j))) W (.i m) (.i k) (.b (decide (m ≤ k))) := rv_I fun _ => rfl
theorem rv_gt : RvD (rI0 fun i j => .bl (decide (j < i))) W (.i m) (.i k) (.b (decide (k < m))) := rv_I fun _ => rfl
theorem rv_ge : RvD (rI0 fun i j => .bl (decide (j ≤ i))) W (.i m) (.i k) (.b (decide (k ≤ m))) := rv_I fun _ => rfl
theorem rv_mul (h : -(2 ^ 64) < m ∧ m < 2 ^ 64) : RvD (rI CMul fun i j => .int (i * j)) W (.i m) (.i k) (.i (m * k)) := fun W1 x y gr rx ry Q q => ⟨m, k, rx, ry, .inl h, q _ W1 gr.rf rfl⟩
theorem dec_int : decide (V.int m = V.int k) = decide (m = k) := by
  by_cases e : m = k
  · subst e; simp
  · rw [decide_eq_false e, decide_eq_false (fun q => e (V.int.inj q))]
theorem dec_bl : decide (V.bl a = V.bl c) = (a == c) := by cases a <;> cases c <;> rfl
theorem rv_eq : RvD rEq W (.i m) (.i k) (.b (decide (m = k))) := fun W1 x y gr rx ry Q q => by
  cases rx
  cases ry
  exact ⟨rfl, by rw [dec_int]; exact q _ W1 gr.rf rfl⟩
theorem rv_ne : RvD rNe W (.i m) (.i k) (.b (!decide (m = k))) := fun W1 x y gr rx ry Q q => by
  cases rx
  cases ry
  exact ⟨rfl, by rw [dec_int]; exact q _ W1 gr.rf rfl⟩
theorem rv_eqB : RvD rEq W (.b a) (.b c) (.b (a == c)) := fun W1 x y gr rx ry Q q => by
  cases rx
  cases ry
  exact ⟨rfl, by rw [dec_bl]; exact q _ W1 gr.rf rfl⟩
theorem rv_neB : RvD rNe W (.b a) (.b c) (.b (!(a == c))) := fun W1 x y gr rx ry Q q => by
  cases rx
  cases ry
  exact ⟨rfl, by rw [dec_bl]; exact q _ W1 gr.rf rfl⟩
theorem flat_ints (l : List Int) : (l.map V.int).all flatV = true := by
  rw [List.all_map]
  exact List.all_eq_true.mpr fun _ _ => rfl
theorem in_ints (m : Int) (l : List Int) : inV (.int m) (l.map V.int) = decide (m ∈ l) := by
  unfold inV
  induction l with
  | nil => rfl
  | cons x r ih =>
    rw [List.map_cons, List.any_cons, ih]
    show (x == m || decide (m ∈ r)) = decide (m ∈ x :: r)
    by_cases e : x = m
    · subst e
      simp
    · have e' : ¬ m = x := fun q => e q.symm
      simp [e, e']
theorem in_nats (m : Nat) (l : List Nat) : inV (.int (m : Int)) (l.map vn) = decide (m ∈ l) := by
  rw [nats_int, in_ints]
  by_cases e : m ∈ l
  · rw [decide_eq_true e]
    exact decide_eq_true (List.mem_map.mpr ⟨m, e, rfl⟩)
  · rw [decide_eq_false e]
    refine decide_eq_false fun q => ?_
    obtain ⟨n, h1, h2⟩ := List.mem_map.mp q
    exact e (by rwa [Int.ofNat.inj h2] at h1)
theorem flat_nats (l : List Nat) : (l.map vn).all flatV = true := by rw [nats_int, flat_ints]
theorem rv_inN {m : Nat} {l : List Nat} : RvD (rIn K false) W (dn m) (.l (l.map dn)) (.b (decide (m ∈ l))) := fun W1 x y gr rx ⟨p, vs, e1, e2, e3⟩ Q q => by
  cases rx
  rw [Reps.nats.mp e3] at e2
  refine ⟨p, _, e1, .inl (SqL.of (gr.fh p _ e2)), rfl, flat_nats l, ?_⟩
  rw [in_nats]
  exact q _ W1 gr.rf rfl
theorem rv_niN {m : Nat} {l : List Nat} : RvD (rIn K true) W (dn m) (.l (l.map dn)) (.b (!decide (m ∈ l))) := fun W1 x y gr rx ⟨p, vs, e1, e2, e3⟩ Q q => by
  cases rx
  rw [Reps.nats.mp e3] at e2
  refine ⟨p, _, e1, .inl (SqL.of (gr.fh p _ e2)), rfl, flat_nats l, ?_⟩
  rw [in_nats]
  exact q _ W1 gr.rf rfl
theorem rv_inT {l : List Int} : RvD (rIn K false) W (.i m) (.t (l.map D.i)) (.b (decide (m ∈ l))) := fun W1 x y gr rx ⟨p, vs, e1, e2, e3⟩ Q q => by
  cases rx
  rw [Reps.ints.mp e3] at e2
  refine ⟨p, _, e1, .inr (SqT.of (gr.fh p _ e2)), rfl, flat_ints l, ?_⟩
  rw [in_ints]
  exact q _ W1 gr.rf rfl
theorem rv_cat {xs ys : List D} (hz : xs.length + ys.length ≤ 10000000) : RvD rCat W (.l xs) (.l ys) (.l (xs ++ ys)) := fun W1 x y gr ⟨p, vs, e1, e2, e3⟩ ⟨p', vs', e1', e2', e3'⟩ Q q =>
  ⟨p, p', vs, vs', e1, e1', gr.fh p _ e2, gr.fh p' _ e2', szLe (by rw [e3.len, e3'.len]; exact hz), fun r hr =>
    q _ ⟨upd W1.f r (.lst (vs ++ vs')), upd W1.h r (.lst (vs ++ vs'))⟩ (.new gr.fh hr) ⟨r, _, rfl, upd_same, Reps.mono (.new (none_of gr.fh hr)) _ _ (e3.app e3')⟩⟩
theorem flat_rep {α : Type} (n : Nat) (v : α) : (List.replicate n [v]).flatten = List.replicate n v := by
  induction n with
  | zero => rfl
  | succ n ih => rw [List.replicate_succ, List.flatten_cons, ih, List.replicate_succ]; rfl
theorem ef_rep {x : D} {n : Nat} (hz : n ≤ 10000000) (ha : EvD ta σ W (.l [x])) (hb : EvD tb σ W (dn n)) : EvF (tOp rRep ta tb) σ W (.l (List.replicate n x)) := fun W1 g Q q => ha W1 g _ fun y W2 g2 ⟨p, vs, e1, e2, e3⟩ => hb W2 (g.trans g2) _ fun z W3 g3 rz => by
  obtain ⟨v, r, h1, h2, h3⟩ := e3
  have h4 : r = [] := h3
  subst h4 h1
  have e : (List.replicate (n : Int).toNat [v]).flatten = List.replicate n v := by
    rw [Int.toNat_natCast]
    exact flat_rep n v
  refine ⟨p, n, [v], e1, rz, g3.fh p _ (g3.ff p _ e2), by omega, by omega, szLe (by simpa using hz), fun r hr => ?_⟩
  rw [e]
  exact q r ⟨upd W3.f r (.lst (List.replicate n v)), upd W3.h r (.lst (List.replicate n v))⟩ ((g2.trans g3).trans (.new g3.fh hr)) (none_of (g2.trans g3).hh hr) ⟨r, _, rfl, upd_same, Reps.mono (.new (none_of g3.fh hr)) _ _ (Reps.mono g3.ff _ _ (Reps.rep h2 n))⟩
theorem rv_rep {x : D} {n : Nat} (hz : n ≤ 10000000) : RvD rRep W (.l [x]) (dn n) (.l (List.replicate n x)) := fun W1 y z gr ⟨p, vs, e1, e2, e3⟩ rz Q q => by
  obtain ⟨v, r, h1, h2, h3⟩ := e3
  have h4 : r = [] := h3
  subst h4 h1
  have e : (List.replicate (n : Int).toNat [v]).flatten = List.replicate n v := by
    rw [Int.toNat_natCast]
    exact flat_rep n v
  refine ⟨p, n, [v], e1, rz, gr.fh p _ e2, by omega, by omega, szLe (by simpa using hz), fun r hr => ?_⟩
  rw [e]
  exact q _ ⟨upd W1.f r (.lst (List.replicate n v)), upd W1.h r (.lst (List.replicate n v))⟩ (.new gr.fh hr) ⟨r, _, rfl, upd_same, Reps.mono (.new (none_of gr.fh hr)) _ _ (Reps.rep h2 n)⟩
end
section
variable {K : PySem.W.Frag} {σ : L2.St} {W W' : Wd} {ta tb tc te : TE} {t u : TT} {d : D} {a c : Bool} {m k : Int}
/-! tests and truth values -/
theorem et_test (h : EvD te σ W (.b a)) : EvT (tTest te) σ W a := fun W1 g Q q => h W1 g _ fun v W2 g2 r => ⟨a, r, q W2 g2⟩
theorem et_B (h : EvD te σ W (.b a)) : EvT (tB te) σ W a := fun W1 g Q q => h W1 g _ fun v W2 g2 r => ⟨a, r, q W2 g2⟩
theorem et_not (h : EvT t σ W a) : EvT (tNot t) σ W (!a) := fun W1 g Q q => h W1 g _ fun W2 g2 => q W2 g2
theorem et_and (h1 : EvT t σ W a) (h2 : a = true → EvT u σ W c) : EvT (tAnd t u) σ W (a && c) := fun W1 g Q q => h1 W1 g _ fun W2 g2 => by
  cases a with
  | true => exact iteT (h2 rfl W2 (g.trans g2) Q fun W3 g3 => q W3 (g2.trans g3))
  | false => exact iteF (q W2 g2)
theorem et_or (h1 : EvT t σ W a) (h2 : a = false → EvT u σ W c) : EvT (tOr t u) σ W (a || c) := fun W1 g Q q => h1 W1 g _ fun W2 g2 => by
  cases a with
  | true => exact iteT (q W2 g2)
  | false => exact iteF (h2 rfl W2 (g.trans g2) Q fun W3 g3 => q W3 (g2.trans g3))
theorem ev_andV (h1 : EvD ta σ W (.b a)) (h2 : a = true → EvD tb σ W (.b c)) : EvD (tAndV ta tb) σ W (.b (a && c)) := fun W1 g Q q => h1 W1 g _ fun v W2 g2 r => ⟨a, r, by
  cases a with
  | true => exact iteT (h2 rfl W2 (g.trans g2) Q fun v W3 g3 r3 => q v W3 (g2.trans g3) r3)
  | false => exact iteF (q _ W2 g2 rfl)⟩
theorem ev_orV (h1 : EvD ta σ W (.b a)) (h2 : a = false → EvD tb σ W (.b c)) : EvD (tOrV ta tb) σ W (.b (a || c)) := fun W1 g Q q => h1 W1 g _ fun v W2 g2 r => ⟨a, r, by
  cases a with
  | true => exact iteT (q _ W2 g2 rfl)
  | false => exact iteF (h2 rfl W2 (g.trans g2) Q fun v W3 g3 r3 => q v W3 (g2.trans g3) r3)⟩
theorem ev_if (h : EvT t σ W a) (h1 : a = true → EvD ta σ W d) (h2 : a = false → EvD tb σ W d) : EvD (tIf t ta tb) σ W d := fun W1 g Q q => h W1 g _ fun W2 g2 => by
  cases a with
  | true => exact iteT (h1 rfl W2 (g.trans g2) Q fun v W3 g3 r => q v W3 (g2.trans g3) r)
  | false => exact iteF (h2 rfl W2 (g.trans g2) Q fun v W3 g3 r => q v W3 (g2.trans g3) r)
/-- a chain of two comparisons -/
theorem ev_chain {r r' : R2} {d1 d2 d3 : D} (h1 : RvD r W d1 d2 (.b a)) (h2 : RvD r' W d2 d3 (.b c)) (ha : EvD ta σ W d1) (hb : EvD tb σ W d2) (hc : EvD tc σ W d3) : EvD (tChain r r' ta tb tc) σ W (.b (a && c)) := fun W1 g Q q =>
  ha W1 g _ fun x W2 g2 rx => hb W2 (g.trans g2) _ fun y W3 g3 ry => h1 W3 x y ((g.trans g2).trans g3) (Rep.mono g3.ff _ x rx) ry _ fun z W4 g4 rz => ⟨a, rz, by
    cases a with
    | true => exact iteT (hc W4 (((g.trans g2).trans g3).trans g4) _ fun w W5 g5 rw' => h2 W5 y w ((((g.trans g2).trans g3).trans g4).trans g5) (Rep.mono (g4.ff.trans g5.ff) _ y ry) rw' Q fun v W6 g6 r6 => q v W6 ((((g2.trans g3).trans g4).trans g5).trans g6) r6)
    | false => exact iteF (q _ W4 ((g2.trans g3).trans g4) rfl)⟩
/-! arguments, displays -/
theorem ea_nil : EvA tNil σ W [] := fun W1 g Q q => q [] W1 g.rf rfl
theorem ea_cons {tr : TA} {ds : List D} (h : EvD ta σ W d) (hr : EvA tr σ W ds) : EvA (tCons ta tr) σ W (d :: ds) := fun W1 g Q q =>
  h W1 g _ fun v W2 g2 r => hr W2 (g.trans g2) _ fun vs W3 g3 rs => q (v :: vs) W3 (g2.trans g3) ⟨v, vs, rfl, Rep.mono g3.ff d v r, rs⟩
theorem ev_lst {tr : TA} {ds : List D} (h : EvA tr σ W ds) (hz : ds.length ≤ 10000000 := by decide) : EvD (tLst tr) σ W (.l ds) := fun W1 g Q q =>
  h W1 g _ fun vs W2 g2 rs => ⟨szLe (by rw [rs.len]; exact hz), fun p hp => q _ ⟨upd W2.f p (.lst vs), upd W2.h p (.lst vs)⟩ (g2.trans (.new g2.fh hp)) ⟨p, vs, rfl, upd_same, Reps.mono (.new (none_of g2.fh hp)) _ _ rs⟩⟩
theorem ev_tup {tr : TA} {ds : List D} (h : EvA tr σ W ds) (hz : ds.length ≤ 10000000 := by decide) : EvD (tTup tr) σ W (.t ds) := fun W1 g Q q =>
  h W1 g _ fun vs W2 g2 rs => ⟨szLe (by rw [rs.len]; exact hz), fun p hp => q _ ⟨upd W2.f p (.tup vs), upd W2.h p (.tup vs)⟩ (g2.trans (.new g2.fh hp)) ⟨p, vs, rfl, upd_same, Reps.mono (.new (none_of g2.fh hp)) _ _ rs⟩⟩
/-! fields, items, slices -/
theorem zip_lookup {f : Str} : ∀ {ns : List Str} {vs : List V} {j : Nat} {v : V}, ns[j]? = some f → (∀ i, i < j → ns[i]? ≠ some f) → vs[j]? = some v → (ns.zip vs).lookup f = some v
  | [], _, _, _, h, _, _ => by simp at h
  | _ :: _, [], _, _, _, _, h => by simp at h
  | n :: ns, w :: vs, 0, v, h, _, h2 => by
    have e : n = f := by simpa using h
    have e2 : w = v := by simpa using h2
    subst e e2
    show (match n == n with | true => some w | false => List.lookup n (ns.zip vs)) = some w
    rw [beq_self_eq_true]
  | n :: ns, w :: vs, j + 1, v, h, hn, h2 => by
    have ne : n ≠ f := fun e => hn 0 (by omega) (by simp [e])
    have e : (f == n) = false := beq_eq_false_iff_ne.mpr (Ne.symm ne)
    show (match f == n with | true => some w | false => List.lookup f (ns.zip vs)) = some v
    rw [e]
    exact zip_lookup (j := j) (by simpa using h) (fun i hi => by have := hn (i + 1) (by omega); simpa using this) (by simpa using h2)
/-- the place of a field's name -/
def fldIx (f : Str) (ns : List Str) (j : Nat) : Bool := decide (ns[j]? = some f) && (List.range j).all fun i => decide (ns[i]? ≠ some f)
theorem fldIx_ok {f : Str} {ns : List Str} {j : Nat} (h : fldIx f ns j = true) : ns[j]? = some f ∧ ∀ i, i < j → ns[i]? ≠ some f := by
  unfold fldIx at h
  rw [Bool.and_eq_true, List.all_eq_true] at h
  exact ⟨of_decide_eq_true h.1, fun i hi => of_decide_eq_true (h.2 i (List.mem_range.mpr hi))⟩
theorem ev_fld {C : Addr} {ns : List Str} {ds : List D} {f : Str} (j : Nat) (cl : Cls K C) (na : NoAttr K C f) (h : EvD ta σ W (.o C ns ds)) (hf : fldIx f ns j = true) (hd : ds[j]? = some d) : EvD (tFld K ta f) σ W d := fun W1 g Q q =>
  h W1 g _ fun v W2 g2 ⟨p, dx, vs, e1, e2, e3⟩ => by
    obtain ⟨x, h1, h2⟩ := e3.get hd
    obtain ⟨f1, f2⟩ := fldIx_ok hf
    exact ⟨p, C, dx, _, x, e1, g2.fh p _ e2, cl, na, zip_lookup f1 f2 h1, q x W2 g2 h2⟩
theorem rv_ix {ds : List D} {j : Nat} (h : ds[j]? = some d) : RvD (rIxL K) W (.l ds) (dn j) d := fun W1 x y gr ⟨p, vs, e1, e2, e3⟩ ry Q q => by
  obtain ⟨v, h1, h2⟩ := e3.get h
  exact ⟨p, vs, (j : Int), v, e1, ry, SqL.of (gr.fh p _ e2), atI_nat h1, q v W1 gr.rf h2⟩
theorem rv_ixI {ds : List D} (h0 : 0 ≤ m) (h : ds[m.toNat]? = some d) : RvD (rIxL K) W (.l ds) (.i m) d := by
  have e : m = ((m.toNat : Nat) : Int) := by omega
  rw [e]
  exact rv_ix h
theorem rv_ixT {ds : List D} {j : Nat} (h : ds[j]? = some d) : RvD (rIxT K) W (.t ds) (dn j) d := fun W1 x y gr ⟨p, vs, e1, e2, e3⟩ ry Q q => by
  obtain ⟨v, h1, h2⟩ := e3.get h
  exact ⟨p, vs, (j : Int), v, e1, ry, SqT.of (gr.fh p _ e2), atI_nat h1, q v W1 gr.rf h2⟩
theorem rv_last {ds : List D} : RvD (rIxL K) W (.l (ds ++ [d])) (.i (-1)) d := fun W1 x y gr ⟨p, vs, e1, e2, e3⟩ ry Q q => by
  have hl := e3.len
  rw [List.length_append] at hl
  have hl' : vs.length = ds.length + 1 := hl
  obtain ⟨v, h1, h2⟩ := e3.get (j := ds.length) (d := d) (by simp)
  refine ⟨p, vs, -1, v, e1, ry, SqL.of (gr.fh p _ e2), ?_, q v W1 gr.rf h2⟩
  unfold atI ixN
  rw [if_neg (by omega), if_pos (by omega)]
  show vs[(-1 + (vs.length : Int)).toNat]? = some v
  rw [show (-1 + (vs.length : Int)).toNat = ds.length by omega]
  exact h1
theorem eo_none : EvO tNoPart σ W none := fun W1 g Q q => q W1 g.rf
theorem eo_some (h : EvD te σ W (.i m)) : EvO (tPart te) σ W (some m) := fun W1 g Q q => h W1 g _ fun v W2 g2 r => ⟨m, r, q W2 g2⟩
theorem cut_len (vs : List V) (lo hi : Option Int) (ds : List D) (e : vs.length = ds.length) {H : Hp} (r : Reps H ds vs) : Reps H ((ds.drop (HT.sIx ds.length 0 lo)).take (HT.sIx ds.length ds.length hi - HT.sIx ds.length 0 lo)) (cutV vs lo hi) := by
  unfold cutV
  rw [e]
  exact (r.drop _).take _
theorem ev_slice {tl th : TO} {lo hi : Option Int} {ds : List D} (h : EvD te σ W (.l ds)) (hl : EvO tl σ W lo) (hh : EvO th σ W hi) : EvD (tSl (rSlL K) te tl th) σ W (.l ((ds.drop (HT.sIx ds.length 0 lo)).take (HT.sIx ds.length ds.length hi - HT.sIx ds.length 0 lo))) := fun W1 g Q q =>
  h W1 g _ fun v W2 g2 ⟨p, vs, e1, e2, e3⟩ => hl W2 (g.trans g2) _ fun W3 g3 => hh W3 ((g.trans g2).trans g3) _ fun W4 g4 =>
    ⟨p, vs, e1, SqL.of (g4.fh p _ (g4.ff p _ (g3.ff p _ e2))), fun r hr => q _ ⟨upd W4.f r (.lst (cutV vs lo hi)), upd W4.h r (.lst (cutV vs lo hi))⟩ ((g2.trans (g3.trans g4)).trans (.new g4.fh hr))
      ⟨r, _, rfl, upd_same, Reps.mono (.new (none_of g4.fh hr)) _ _ (Reps.mono (g3.ff.trans g4.ff) _ _ (cut_len vs lo hi ds e3.len e3))⟩⟩
theorem ev_rev {ds : List D} (h : EvD te σ W (.l ds)) : EvD (tRevL K te) σ W (.l ds.reverse) := fun W1 g Q q =>
  h W1 g _ fun v W2 g2 ⟨p, vs, e1, e2, e3⟩ => ⟨p, vs, e1, SqL.of (g2.fh p _ e2), fun r hr => q _ ⟨upd W2.f r (.lst vs.reverse), upd W2.h r (.lst vs.reverse)⟩ (g2.trans (.new g2.fh hr)) ⟨r, _, rfl, upd_same, Reps.mono (.new (none_of g2.fh hr)) _ _ e3.rev⟩⟩
/-! built-in functions -/
theorem ev_len {ds : List D} (h : EvD te σ W (.l ds)) : EvD (tCB (fun xs H Q => ∃ p ys, xs = [.ref p] ∧ (SqL K H p ys ∨ SqT K H p ys) ∧ Q (.int ys.length) H) (tCons te tNil)) σ W (dn ds.length) := fun W1 g Q q =>
  h W1 g _ fun v W2 g2 ⟨p, vs, e1, e2, e3⟩ => ⟨p, vs, by rw [e1], .inl (SqL.of (g2.fh p _ e2)), q _ W2 g2 (by rw [e3.len]; rfl)⟩
theorem ev_sum {ns : List Int} (h : EvD te σ W (.l (ns.map D.i))) : EvD (tCB (rSum K) (tCons te tNil)) σ W (.i ns.sum) := fun W1 g Q q =>
  h W1 g _ fun v W2 g2 ⟨p, vs, e1, e2, e3⟩ => by
    rw [Reps.ints.mp e3] at e2
    exact ⟨p, ns, by rw [e1], SqL.of (g2.fh p _ e2), q _ W2 g2 rfl⟩
theorem sum_cast (l : List Nat) : (l.map fun (n : Nat) => (n : Int)).sum = ((l.sum : Nat) : Int) := by
  induction l with
  | nil => rfl
  | cons x r ih =>
    rw [List.map_cons, List.sum_cons, List.sum_cons, ih]
    omega
theorem ev_sumN {ns : List Nat} (h : EvD te σ W (.l (ns.map dn))) : EvD (tCB (rSum K) (tCons te tNil)) σ W (dn ns.sum) := by
  rw [dn_int] at h
  have := ev_sum (K := K) h
  rw [sum_cast] at this
  exact this
theorem ev_min {ns : List Int} {x : Int} (h1 : x ∈ ns) (h2 : ∀ y ∈ ns, x ≤ y) (h : EvD te σ W (.l (ns.map D.i))) : EvD (tCB (rMin K) (tCons te tNil)) σ W (.i x) := fun W1 g Q q =>
  h W1 g _ fun v W2 g2 ⟨p, vs, e1, e2, e3⟩ => by
    rw [Reps.ints.mp e3] at e2
    refine ⟨p, ns, by rw [e1], SqL.of (g2.fh p _ e2), List.length_pos_of_mem h1, fun y hy hl => ?_⟩
    have e : y = x := Int.le_antisymm (hl x h1) (h2 y hy)
    subst e
    exact q _ W2 g2 rfl
theorem ev_all {bs : List Bool} (h : EvD te σ W (.l (bs.map D.b))) : EvD (tCB (rAll K) (tCons te tNil)) σ W (.b (bs.all id)) := fun W1 g Q q =>
  h W1 g _ fun v W2 g2 ⟨p, vs, e1, e2, e3⟩ => by
    rw [Reps.bools.mp e3] at e2
    exact ⟨p, bs, by rw [e1], SqL.of (g2.fh p _ e2), q _ W2 g2 rfl⟩
theorem ev_min2 (ha : EvD ta σ W (.i m)) (hb : EvD tb σ W (.i k)) : EvD (tCB (fun xs H Q => ∃ i j, xs = [.int i, .int j] ∧ Q (.int (if j < i then j else i)) H) (tCons ta (tCons tb tNil))) σ W (.i (min m k)) := fun W1 g Q q =>
  ha W1 g _ fun x W2 g2 rx => hb W2 (g.trans g2) _ fun y W3 g3 ry => ⟨m, k, by rw [show x = _ from rx, show y = _ from ry], q _ W3 (g2.trans g3) (congrArg V.int (by split <;> omega))⟩
theorem ev_max2 (ha : EvD ta σ W (.i m)) (hb : EvD tb σ W (.i k)) : EvD (tCB (fun xs H Q => ∃ i j, xs = [.int i, .int j] ∧ Q (.int (if j > i then j else i)) H) (tCons ta (tCons tb tNil))) σ W (.i (max m k)) := fun W1 g Q q =>
  ha W1 g _ fun x W2 g2 rx => hb W2 (g.trans g2) _ fun y W3 g3 ry => ⟨m, k, by rw [show x = _ from rx, show y = _ from ry], q _ W3 (g2.trans g3) (congrArg V.int (by split <;> omega))⟩
theorem ev_abs (ha : EvD ta σ W (.i m)) : EvD (tCB (fun xs H Q => ∃ i, xs = [.int i] ∧ Q (.int (if i < 0 then -i else i)) H) (tCons ta tNil)) σ W (dn m.natAbs) := fun W1 g Q q =>
  ha W1 g _ fun x W2 g2 rx => ⟨m, by rw [show x = _ from rx], q _ W2 g2 (congrArg V.int (by split <;> omega))⟩
theorem ev_intB (ha : EvD ta σ W (.b a)) : EvD (tCB (fun xs H Q => (∃ i, xs = [.int i] ∧ Q (.int i) H) ∨ ∃ k, xs = [.bl k] ∧ Q (.int (if k then 1 else 0)) H) (tCons ta tNil)) σ W (.i (if a = true then 1 else 0)) := fun W1 g Q q =>
  ha W1 g _ fun x W2 g2 rx => .inr ⟨a, by rw [show x = _ from rx], q _ W2 g2 rfl⟩
theorem ev_neg (ha : EvD ta σ W (.i m)) : EvD (tUn (fun x H Q => ∃ i, x = .int i ∧ Q (.int (-i)) H) ta) σ W (.i (-m)) := fun W1 g Q q =>
  ha W1 g _ fun x W2 g2 rx => ⟨m, rx, q _ W2 g2 rfl⟩
/-- list(range(a, b)) of natural numbers -/
theorem ev_listRg {x y : Nat} (ha : EvD ta σ W (dn x)) (hb : EvD tb σ W (dn y)) (hx : x ≤ 10000000) (hy : y ≤ 10000000) : EvD (tLstRg (tRg2 ta tb)) σ W (.l (((List.range (y - x)).map fun i => x + i).map dn)) := fun W1 g Q q =>
  ha W1 g _ fun v W2 g2 rv => hb W2 (g.trans g2) _ fun w W3 g3 rw' => ⟨(x : Int), (y : Int), rv, rw', .of_le (by omega) (by omega) (by omega) (by omega), fun r hr =>
    q _ ⟨upd W3.f r (.lst (rgV x y)), upd W3.h r (.lst (rgV x y))⟩ ((g2.trans g3).trans (.new g3.fh hr)) ⟨r, _, rfl, upd_same, by
      refine Reps.nats.mpr ?_
      unfold rgV
      rw [List.map_map, show ((y : Int) - (x : Int)).toNat = y - x by omega]
      exact List.map_congr_left fun i _ => congrArg V.int (by simp)⟩⟩
end
/-! ### comprehensions -/
section
variable {K : PySem.W.Frag} {σ : L2.St} {W W' : Wd} {tl te : TE} {tt : TT} {vs : List Nat}
theorem lc_any {J : It} {n : Nat} {G : Hp → Prop} {Y : Nat → Hp → V → Hp → Prop} (w : Walk J n G Y) {gt : TG} {Dl : Addr} {Q : VK} {α : Type} (xs : List α) (p : α → Bool) (g : α → D) (hn : xs.length = n) (hz : xs.length < 10000000) (ok : Ex W.f W.h) (hD : W.h Dl = none)
    (hG : ∀ W', Grow W W' → G W'.h)
    (hs : ∀ (i : Nat) (x : α) (v : V) (H' : Hp) (W' : Wd), Grow W W' → xs[i]? = some x → Y i W'.h v H' → ∃ (σ2 : L2.St) (W3 : Wd), (∀ Qc : L2.St → Hp → Prop, Qc σ2 W3.h → gt v (wipe σ vs) H' Qc) ∧ Grow W' W3 ∧ wipe σ2 vs = wipe σ vs ∧ EvT tt σ2 W3 (p x) ∧ (p x = true → EvD te σ2 W3 (g x)))
    (hd : ∀ W', Grow W W' → Rep W'.f (.l ((xs.filter p).map g)) (.ref Dl) → Q (.ref Dl) W'.h) :
    ∃ Wi : Nat → Nat → Hp → Prop, (∃ m, Wi 0 m (upd W.h Dl (.lst []))) ∧ ∀ i m H, Wi i m H →
      (J.stop i H ∧ Q (.ref Dl) H) ∨ (J.go i H ∧ ∃ Nx : Hp → Prop, (∀ H', Nx H' → ∃ m', m' < m ∧ Wi (i + 1) m' H') ∧ ∀ x H', J.yld i H x H' → gt x (wipe σ vs) H' fun σ2 H2 => wipe σ2 vs = wipe σ vs ∧ tt σ2 H2 fun b H3 =>
        if b = true then te σ2 H3 fun y H4 => ∃ acc, H4 Dl = some (.lst acc) ∧ acc.length < sizeLine ∧ Nx (upd H4 Dl (.lst (acc ++ [y]))) else Nx H3) := by
  refine lc_it w (Qd := Q (.ref Dl)) (fun i H' => ∃ W', W'.h = H' ∧ Grow W W' ∧ ∃ ys, W'.h Dl = some (.lst ys) ∧ W'.f Dl = none ∧ Reps W'.f (((xs.take i).filter p).map g) ys) ?_ ?_ ?_ ?_
  · exact ⟨⟨W.f, upd W.h Dl (.lst [])⟩, rfl, .own ok hD, [], upd_same, none_of ok hD, by simp [Reps]⟩
  · rintro i H _ ⟨W', rfl, gr, _⟩
    exact hG W' gr
  · rintro i v H H' hi ⟨W', rfl, gr, ys, y1, y2, y3⟩ hy
    obtain ⟨x, hx⟩ : ∃ x, xs[i]? = some x := ⟨_, List.getElem?_eq_getElem (by omega)⟩
    obtain ⟨σ2, W3, k1, k2, k3, k4, k5⟩ := hs i x v H' W' gr hx hy
    refine k1 _ ⟨k3, k4 W3 k2.rf _ fun W4 g4 => ?_⟩
    have tk : xs.take (i + 1) = xs.take i ++ [x] := by rw [List.take_add_one, hx]; rfl
    have kk : ∀ W5, Grow W' W5 → W5.h Dl = some (.lst ys) ∧ W5.f Dl = none := fun W5 g5 => ⟨g5.hh _ _ y1, g5.fr _ y2 (by rw [y1]; exact fun e => nomatch e)⟩
    cases hp : p x with
    | true =>
      refine iteT (k5 hp W4 g4 _ fun v5 W5 g5 r5 => ?_)
      have gg := (k2.trans g4).trans g5
      obtain ⟨q1, q2⟩ := kk W5 gg
      refine ⟨ys, q1, szLt ?_, ⟨W5.f, upd W5.h Dl (.lst (ys ++ [v5]))⟩, rfl, (gr.trans gg).set hD q2, ys ++ [v5], upd_same, q2, ?_⟩
      · rw [y3.len, List.length_map]
        have h1 := List.length_filter_le p (xs.take i)
        have h2 := List.length_take_le i xs
        rw [List.length_take] at h1
        omega
      · rw [tk, List.filter_append, List.map_append]
        have e : ([x].filter p).map g = [g x] := by simp [hp]
        rw [e]
        exact (Reps.mono gg.ff _ _ y3).app (.one r5)
    | false =>
      refine iteF ⟨W4, rfl, gr.trans (k2.trans g4), ys, (kk W4 (k2.trans g4)).1, (kk W4 (k2.trans g4)).2, ?_⟩
      rw [tk, List.filter_append, List.map_append]
      have e : ([x].filter p).map g = [] := by simp [hp]
      rw [e, List.append_nil]
      exact Reps.mono (k2.trans g4).ff _ _ y3
  · rintro H ⟨W', rfl, gr, ys, y1, y2, y3⟩
    rw [← hn, List.take_length] at y3
    exact hd ⟨upd W'.f Dl (.lst ys), W'.h⟩ (gr.frz hD y2 y1) (frz_rep y2 y3)
theorem wipe_set {j : Nat} : ∀ {vs : List Nat} (σ : L2.St) (x : Option V), j ∈ vs → wipe (σ.set j x) vs = wipe σ vs
  | [], _, _, h => nomatch h
  | v :: vs, σ, x, h => by
    show (wipe (σ.set j x) vs).set v none = (wipe σ vs).set v none
    have out : ∀ (ws : List Nat) (σ : L2.St), v ∉ ws → j = v → (wipe (σ.set j x) ws) = (wipe σ ws).set j x := by
      intro ws
      induction ws with
      | nil => intro σ _ _; rfl
      | cons u us ih =>
        intro σ hn e
        have h1 : u ≠ v := fun q => hn (q ▸ List.mem_cons_self)
        show (wipe (σ.set j x) us).set u none = ((wipe σ us).set u none).set j x
        rw [ih σ (fun q => hn (List.mem_cons_of_mem _ q)) e, List.set_comm _ _ (fun q => h1 (by rw [← e]; exact q.symm))]
    by_cases hm : j ∈ vs
    · rw [wipe_set σ x hm]
    · have e : j = v := by
        rcases List.mem_cons.mp h with q | q
        · exact q
        · exact absurd q hm
      rw [out vs σ (e ▸ hm) e, e, List.set_set]
theorem wipe_wipe : ∀ (vs : List Nat) (σ : L2.St), wipe (wipe σ vs) vs = wipe σ vs := by
  have one : ∀ (ws : List Nat) (σ : L2.St) (v : Nat), wipe (σ.set v none) ws = (wipe σ ws).set v none := by
    intro ws
    induction ws with
    | nil => intro σ v; rfl
    | cons u us ih =>
      intro σ v
      show (wipe (σ.set v none) us).set u none = ((wipe σ us).set u none).set v none
      rw [ih]
      by_cases e : v = u
      · subst e; rfl
      · rw [List.set_comm _ _ e]
  intro vs
  induction vs with
  | nil => intro σ; rfl
  | cons v vs ih =>
    intro σ
    show (wipe ((wipe σ vs).set v none) vs).set v none = (wipe σ vs).set v none
    rw [one, ih, List.set_set]
theorem wipe_one {j : Nat} {x : V} (h : j ∈ vs) : wipe ((wipe σ vs).set j (some x)) vs = wipe σ vs := by rw [wipe_set _ _ h, wipe_wipe]
theorem wipe_two {i j : Nat} {x y : V} (h : i ∈ vs) (h2 : j ∈ vs) : wipe (((wipe σ vs).set i (some x)).set j (some y)) vs = wipe σ vs := by rw [wipe_set _ _ h2, wipe_one h]
/-- over a list -/
theorem ef_lcL {α : Type} (xs : List α) (enc : α → D) (p : α → Bool) (g : α → D) {j : Nat} (h : EvD tl σ W (.l (xs.map enc))) (hz : xs.length < 10000000)
    (hb : ∀ (i : Nat) (x : α) (v : V) (W1 : Wd), Grow W W1 → xs[i]? = some x → Rep W1.f (enc x) v → EvT tt ((wipe σ vs).set j (some v)) W1 (p x) ∧ (p x = true → EvD te ((wipe σ vs).set j (some v)) W1 (g x))) (hj : j ∈ vs := by decide) :
    EvF (tLc (iList K tl) (gName j) tt te vs) σ W (.l ((xs.filter p).map g)) := fun W1 g1 Q q =>
  h W1 g1 _ fun v W2 g2 ⟨a, ws, e1, e2, e3⟩ => ⟨a, e1, ⟨ws, SqL.of (g2.fh a _ e2)⟩, fun Dl hD =>
    lc_any (walk_list (K := K) (a := a) (xs := ws)) xs p g (by rw [e3.len, List.length_map]) hz g2.fh hD (fun W' gr => SqL.of (gr.fh a _ (gr.ff a _ e2)))
      (fun i x v H' W' gr hx hy => by
        obtain ⟨rfl, hy2⟩ := hy
        obtain ⟨u, h1, h2⟩ := e3.get (j := i) (d := enc x) (by rw [List.getElem?_map, hx]; rfl)
        rw [hy2] at h1
        cases h1
        obtain ⟨k1, k2⟩ := hb i x v W' ((g1.trans g2).trans gr) hx (Rep.mono gr.ff _ _ h2)
        exact ⟨_, W', fun _ k => k, gr.rf, wipe_one hj, k1, k2⟩)
      fun W' gr r => q _ W' (g2.trans gr) (none_of g2.hh hD) r⟩
theorem ev_lcL {α : Type} (xs : List α) (enc : α → D) (p : α → Bool) (g : α → D) {j : Nat} (h : EvD tl σ W (.l (xs.map enc))) (hz : xs.length < 10000000)
    (hb : ∀ (i : Nat) (x : α) (v : V) (W1 : Wd), Grow W W1 → xs[i]? = some x → Rep W1.f (enc x) v → EvT tt ((wipe σ vs).set j (some v)) W1 (p x) ∧ (p x = true → EvD te ((wipe σ vs).set j (some v)) W1 (g x))) (hj : j ∈ vs := by decide) :
    EvD (tLc (iList K tl) (gName j) tt te vs) σ W (.l ((xs.filter p).map g)) := (ef_lcL xs enc p g h hz hb hj).d
/-- over range(n) -/
theorem ef_lcR {ta : TA} (n : Nat) (p : Nat → Bool) (g : Nat → D) {j : Nat} (h : EvA ta σ W [dn n]) (hz : n < 10000000)
    (hb : ∀ (i : Nat) (W1 : Wd), Grow W W1 → i < n → EvT tt ((wipe σ vs).set j (some (vn i))) W1 (p i) ∧ (p i = true → EvD te ((wipe σ vs).set j (some (vn i))) W1 (g i))) (hj : j ∈ vs := by decide) :
    EvF (tLc (iRng1 ta) (gName j) tt te vs) σ W (.l (((List.range n).filter p).map g)) := fun W1 g1 Q q =>
  h W1 g1 _ fun ws W2 g2 ⟨v, r, e1, e2, e3⟩ => by
    have e4 : r = [] := e3
    subst e4 e1
    have e5 : v = .int (n : Int) := e2
    subst e5
    refine ⟨(n : Int), rfl, by omega, by omega, fun Dl hD => ?_⟩
    rw [Int.toNat_natCast]
    exact lc_any (walk_range (lo := 0) (n := n)) (List.range n) p g List.length_range (by rw [List.length_range]; exact hz) g2.fh hD (fun _ _ => trivial)
      (fun i x v H' W' gr hx hy => by
        obtain ⟨rfl, rfl⟩ := hy
        have hi : i < n := by
          have := (List.getElem?_eq_some_iff.mp hx).1
          rwa [List.length_range] at this
        rw [List.getElem?_range hi] at hx
        cases hx
        obtain ⟨k1, k2⟩ := hb i W' ((g1.trans g2).trans gr) hi
        have e0 : V.int (0 + (i : Int)) = vn i := congrArg V.int (Int.zero_add _)
        refine ⟨(wipe σ vs).set j (some (vn i)), W', fun Qc k => ?_, gr.rf, wipe_one hj, k1, k2⟩
        show Qc ((wipe σ vs).set j (some (V.int (0 + (i : Int))))) W'.h
        rw [e0]
        exact k)
      fun W' gr r => q _ W' (g2.trans gr) (none_of g2.hh hD) r
theorem ev_lcR {ta : TA} (n : Nat) (p : Nat → Bool) (g : Nat → D) {j : Nat} (h : EvA ta σ W [dn n]) (hz : n < 10000000)
    (hb : ∀ (i : Nat) (W1 : Wd), Grow W W1 → i < n → EvT tt ((wipe σ vs).set j (some (vn i))) W1 (p i) ∧ (p i = true → EvD te ((wipe σ vs).set j (some (vn i))) W1 (g i))) (hj : j ∈ vs := by decide) :
    EvD (tLc (iRng1 ta) (gName j) tt te vs) σ W (.l (((List.range n).filter p).map g)) := (ef_lcR n p g h hz hb hj).d
/-- over zip(list, list): lists of one length -/
theorem ev_lcZ {α β : Type} {tl tl' : TE} (xs : List α) (enc : α → D) (ys : List β) (enc2 : β → D) (g : α × β → D) {i1 i2 : Nat} (hxy : xs.length = ys.length) (h : EvD tl σ W (.l (xs.map enc))) (h' : EvD tl' σ W (.l (ys.map enc2))) (hz : xs.length < 10000000)
    (hb : ∀ (i : Nat) (x : α) (y : β) (v w : V) (W1 : Wd), Grow W W1 → xs[i]? = some x → ys[i]? = some y → Rep W1.f (enc x) v → Rep W1.f (enc2 y) w → EvT tt (((wipe σ vs).set i1 (some v)).set i2 (some w)) W1 true ∧ EvD te (((wipe σ vs).set i1 (some v)).set i2 (some w)) W1 (g (x, y))) (hj : i1 ∈ vs := by decide) (hj2 : i2 ∈ vs := by decide) :
    EvD (tLc (iZip K (tCons tl (tCons tl' tNil))) (gTup K 2 (gCons (gName i1) (gCons (gName i2) gNil))) tt te vs) σ W (.l ((xs.zip ys).map g)) := fun W0 g0 Q q =>
  h W0 g0 _ fun v W1 g1 ⟨a, ws, e1, e2, e3⟩ => h' W1 (g0.trans g1) _ fun v' W2 g2 ⟨a', ws', e1', e2', e3'⟩ => ⟨a, a', ws, ws', by rw [e1, e1'], SqL.of (g2.fh a _ (g2.ff a _ e2)), SqL.of (g2.fh a' _ e2'), fun Dl hD => by
    have hl : ws.length = xs.length := by rw [e3.len, List.length_map]
    have hl' : ws'.length = ys.length := by rw [e3'.len, List.length_map]
    refine lc_any (walk_zip (K := K) (a := a) (b := a') (xs := ws) (ys := ws') (n := xs.length) (by omega)) (xs.zip ys) (fun _ => true) g (by rw [List.length_zip]; omega) (by rw [List.length_zip]; omega) g2.fh hD (fun W' gr => ⟨SqL.of (gr.fh a _ (gr.ff a _ (g2.ff a _ e2))), SqL.of (gr.fh a' _ (gr.ff a' _ e2'))⟩) ?_ ?_
    · intro i z v H' W' gr hx hy
      obtain ⟨T, y1, y2, rfl, hT, rfl, hy1, hy2⟩ := hy
      obtain ⟨x, y⟩ := z
      rw [List.getElem?_zip_eq_some] at hx
      obtain ⟨hx1, hx2⟩ := hx
      obtain ⟨u, h1, h2⟩ := e3.get (j := i) (d := enc x) (by rw [List.getElem?_map, hx1]; rfl)
      obtain ⟨u', h1', h2'⟩ := e3'.get (j := i) (d := enc2 y) (by rw [List.getElem?_map, hx2]; rfl)
      have k1 : ws[i]? = some y1 := hy1
      have k2 : ws'[i]? = some y2 := hy2
      rw [k1] at h1
      rw [k2] at h1'
      cases h1
      cases h1'
      have gn : Grow W' ⟨upd W'.f T (.tup [y1, y2]), upd W'.h T (.tup [y1, y2])⟩ := .new gr.fh hT
      obtain ⟨k3, k4⟩ := hb i x y y1 y2 _ ((((g0.trans g1).trans g2).trans gr).trans gn) hx1 hx2 (Rep.mono (g2.ff.trans (gr.ff.trans gn.ff)) _ _ h2) (Rep.mono (gr.ff.trans gn.ff) _ _ h2')
      exact ⟨_, ⟨upd W'.f T (.tup [y1, y2]), upd W'.h T (.tup [y1, y2])⟩, fun Qc k => ⟨T, _, rfl, SqT.of upd_same, rfl, _, _, rfl, _, _, rfl, rfl, k⟩, gn, wipe_two hj hj2, k3, fun _ => k4⟩
    · intro W' gr r
      rw [List.filter_eq_self.mpr fun _ _ => rfl] at r
      exact q _ W' ((g1.trans g2).trans gr) r⟩
/-- over enumerate(list) -/
theorem ef_lcE {α : Type} {tl : TE} (xs : List α) (enc : α → D) (p : α × Nat → Bool) (g : α × Nat → D) {i1 i2 : Nat} (h : EvD tl σ W (.l (xs.map enc))) (hz : xs.length < 10000000)
    (hb : ∀ (i : Nat) (x : α) (v : V) (W1 : Wd), Grow W W1 → xs[i]? = some x → Rep W1.f (enc x) v → EvT tt (((wipe σ vs).set i1 (some (vn i))).set i2 (some v)) W1 (p (x, i)) ∧ (p (x, i) = true → EvD te (((wipe σ vs).set i1 (some (vn i))).set i2 (some v)) W1 (g (x, i)))) (hj : i1 ∈ vs := by decide) (hj2 : i2 ∈ vs := by decide) :
    EvF (tLc (iEnum K (tCons tl tNil)) (gTup K 2 (gCons (gName i1) (gCons (gName i2) gNil))) tt te vs) σ W (.l ((xs.zipIdx.filter p).map g)) := fun W1 g1 Q q =>
  h W1 g1 _ fun v W2 g2 ⟨a, ws, e1, e2, e3⟩ => ⟨a, ws, by rw [e1], SqL.of (g2.fh a _ e2), fun Dl hD =>
    lc_any (walk_enum (K := K) (a := a) (xs := ws)) xs.zipIdx p g (by rw [List.length_zipIdx, e3.len, List.length_map]) (by rw [List.length_zipIdx]; exact hz) g2.fh hD (fun W' gr => SqL.of (gr.fh a _ (gr.ff a _ e2)))
      (fun i x v H' W' gr hx hy => by
        obtain ⟨T, y1, y2, rfl, hT, rfl, hy1, hy2⟩ := hy
        obtain ⟨x, k⟩ := x
        rw [List.getElem?_zipIdx] at hx
        cases hxx : xs[i]? with
        | none => rw [hxx] at hx; cases hx
        | some x' =>
          rw [hxx] at hx
          have e : (x', 0 + i) = (x, k) := by simpa using hx
          injection e with e6 e7
          subst e6
          have e8 : i = k := by omega
          subst e8
          have e9 : y1 = vn i := by simpa using hy1.symm
          subst e9
          obtain ⟨u, h1, h2⟩ := e3.get (j := i) (d := enc x') (by rw [List.getElem?_map, hxx]; rfl)
          have h1' : ws[i]? = some y2 := hy2
          rw [h1'] at h1
          cases h1
          have gn : Grow W' ⟨upd W'.f T (.tup [vn i, y2]), upd W'.h T (.tup [vn i, y2])⟩ := .new gr.fh hT
          obtain ⟨k1, k2⟩ := hb i x' y2 _ (((g1.trans g2).trans gr).trans gn) hxx (Rep.mono (gr.ff.trans gn.ff) _ _ h2)
          exact ⟨_, ⟨upd W'.f T (.tup [vn i, y2]), upd W'.h T (.tup [vn i, y2])⟩, fun Qc k => ⟨T, _, rfl, SqT.of upd_same, rfl, _, _, rfl, _, _, rfl, rfl, k⟩, gn, wipe_two hj hj2, k1, k2⟩)
      fun W' gr r => q _ W' (g2.trans gr) (none_of g2.hh hD) r⟩
theorem ev_lcE {α : Type} {tl : TE} (xs : List α) (enc : α → D) (p : α × Nat → Bool) (g : α × Nat → D) {i1 i2 : Nat} (h : EvD tl σ W (.l (xs.map enc))) (hz : xs.length < 10000000)
    (hb : ∀ (i : Nat) (x : α) (v : V) (W1 : Wd), Grow W W1 → xs[i]? = some x → Rep W1.f (enc x) v → EvT tt (((wipe σ vs).set i1 (some (vn i))).set i2 (some v)) W1 (p (x, i)) ∧ (p (x, i) = true → EvD te (((wipe σ vs).set i1 (some (vn i))).set i2 (some v)) W1 (g (x, i)))) (hj : i1 ∈ vs := by decide) (hj2 : i2 ∈ vs := by decide) :
    EvD (tLc (iEnum K (tCons tl tNil)) (gTup K 2 (gCons (gName i1) (gCons (gName i2) gNil))) tt te vs) σ W (.l ((xs.zipIdx.filter p).map g)) := (ef_lcE xs enc p g h hz hb hj hj2).d
end
/-! ### promises of defs that only look, and their calls -/
/-- args: what is handed in; pre: what is asked of it; res: what comes back; all that is known stays -/
def PuSp {ι : Type} (args : ι → List D) (pre : ι → Prop) (res : ι → D) : Sp := fun vs H Q _ => ∃ (x : ι) (Hf : Hp), Ex Hf H ∧ Reps Hf (args x) vs ∧ pre x ∧ ∀ r W', Grow ⟨Hf, H⟩ W' → Rep W'.f (res x) r → Q r W'.h
theorem PuSp.len {ι : Type} {args : ι → List D} {pre : ι → Prop} {res : ι → D} {vs : List V} {H : Hp} {Q : VK} {E : XK} {n : Nat} (h : PuSp args pre res vs H Q E) (hn : ∀ x, (args x).length = n) : vs.length = n := by
  obtain ⟨x, Hf, _, r, _⟩ := h
  rw [r.len, hn]
section
variable {K : PySem.W.Frag} {σ : L2.St} {W W' : Wd} {ta te : TE} {t : TT} {d : D} {a : Bool} {ι : Type} {args : ι → List D} {pre : ι → Prop} {res : ι → D} {E : XK}
theorem ev_call {tr : TA} (x : ι) (hp : pre x) (ha : EvA tr σ W (args x)) : EvD (tCall (PuSp args pre res) [] E tr) σ W (res x) := fun W1 g Q q =>
  ha W1 g _ fun vs W2 g2 rs => ⟨x, W2.f, g2.fh, by rw [List.append_nil]; exact rs, hp, fun r W' g' rr => q r W' (g2.trans g') rr⟩
theorem zip_none {m : Str} : ∀ {ns : List Str} {vs : List V}, m ∉ ns → (ns.zip vs).lookup m = none
  | [], _, _ => rfl
  | _ :: _, [], _ => rfl
  | n :: ns, v :: vs, h => by
    have e : (m == n) = false := beq_eq_false_iff_ne.mpr fun q => h (q ▸ List.mem_cons_self)
    show (match m == n with | true => some v | false => List.lookup m (ns.zip vs)) = none
    rw [e]
    exact zip_none fun q => h (List.mem_cons_of_mem _ q)
theorem ev_meth {tr : TA} {C : Addr} {m : Str} {ns : List Str} {ds es : List D} (x : ι) (hx : args x = .o C ns ds :: es) (hp : pre x) (hm : decide (m ∈ ns) = false) (ho : EvD ta σ W (.o C ns ds)) (ha : EvA tr σ W es) : EvD (tMeth C m (PuSp args pre res) [] E ta tr) σ W (res x) := fun W1 g Q q =>
  ho W1 g _ fun v W2 g2 ⟨p, dx, vs, e1, e2, e3⟩ => ⟨p, dx, _, e1, g2.fh p _ e2, zip_none (of_decide_eq_false hm), ha W2 (g.trans g2) _ fun us W3 g3 rs =>
    ⟨x, W3.f, g3.fh, by rw [hx, List.append_nil]; exact ⟨v, us, rfl, ⟨p, dx, vs, e1, g3.ff p _ e2, Reps.mono g3.ff _ _ e3⟩, rs⟩, hp, fun r W' g' rr => q r W' ((g2.trans g3).trans g') rr⟩⟩
/-! ### statements -/
variable {D0 : Ends} {tu tw : TS}
theorem s_set {i : Nat} (h : EvD te σ W d) (ok : Ex W.f W.h) (k : ∀ v W1, Grow W W1 → Rep W1.f d v → D0.nx (σ.set i (some v)) W1.h) : tAsg te (gName i) D0 σ W.h := h W (.refl ok) _ fun v W1 g r => k v W1 g r
theorem s_ret (h : EvD te σ W d) (ok : Ex W.f W.h) (k : ∀ v W1, Grow W W1 → Rep W1.f d v → D0.rt v W1.h) : tRet te D0 σ W.h := h W (.refl ok) _ fun v W1 g r => k v W1 g r
theorem s_if {b : Bool} (h : EvT t σ W b) (ok : Ex W.f W.h) (h1 : b = true → ∀ W1, Grow W W1 → tu D0 σ W1.h) (h2 : b = false → ∀ W1, Grow W W1 → tw D0 σ W1.h) : tIfS t tu tw D0 σ W.h := h W (.refl ok) _ fun W1 g => by
  cases b with
  | true => exact iteT (h1 rfl W1 g)
  | false => exact iteF (h2 rfl W1 g)
theorem s_par {i j : Nat} {d1 d2 : D} {tr : TA} (h : EvA tr σ W [d1, d2]) (ok : Ex W.f W.h) (k : ∀ v w W1, Grow W W1 → Rep W1.f d1 v → Rep W1.f d2 w → D0.nx ((σ.set i (some v)).set j (some w)) W1.h) : tPar i j tr D0 σ W.h :=
  h W (.refl ok) _ fun vs W1 g ⟨v, r, e1, r1, w, r', e2, r2, e3⟩ => by
    have e4 : r' = [] := e3
    subst e4 e2 e1
    exact ⟨v, w, rfl, k v w W1 g r1 r2⟩
/-- a, b = a pair -/
theorem s_two {i j : Nat} {d1 d2 : D} (h : EvD te σ W (.t [d1, d2])) (ok : Ex W.f W.h) (k : ∀ v w W1, Grow W W1 → Rep W1.f d1 v → Rep W1.f d2 w → D0.nx ((σ.set i (some v)).set j (some w)) W1.h) :
    tAsg te (gTup K 2 (gCons (gName i) (gCons (gName j) gNil))) D0 σ W.h := h W (.refl ok) _ fun _ W1 g ⟨p, vs, e1, e2, v, r, e3, r1, w, r', e4, r2, e5⟩ => by
  have e6 : r' = [] := e5
  subst e6 e4 e3
  exact ⟨p, _, e1, SqT.of (g.fh p _ e2), rfl, v, _, rfl, w, _, rfl, rfl, k v w W1 g r1 r2⟩
/-- xs.append(e), xs.extend(e) of a list of one's own -/
theorem s_app {i : Nat} {p : Addr} {vs : List V} (h : EvD te σ W d) (ok : Ex W.f W.h) (hi : σ[i]? = some (some (.ref p))) (hp : W.h p = some (.lst vs)) (hz : vs.length < 10000000) (k : ∀ v W1, Grow W W1 → Rep W1.f d v → D0.nx σ (upd W1.h p (.lst (vs ++ [v])))) :
    tDrop (tBM K "list" rAppend (tVar i) (tCons te tNil)) D0 σ W.h :=
  ⟨_, hi, .inl ⟨rfl, _, SqL.of hp⟩, h W (.refl ok) _ fun v W1 g r => ⟨p, vs, v, rfl, rfl, g.hh p _ hp, szLt hz, k v W1 g r⟩⟩
theorem s_ext {i : Nat} {p : Addr} {vs : List V} {ds : List D} (h : EvD te σ W (.l ds)) (ok : Ex W.f W.h) (hi : σ[i]? = some (some (.ref p))) (hp : W.h p = some (.lst vs)) (hz : vs.length + ds.length ≤ 10000000) (k : ∀ ws W1, Grow W W1 → Reps W1.f ds ws → D0.nx σ (upd W1.h p (.lst (vs ++ ws)))) :
    tDrop (tBM K "list" rExtend (tVar i) (tCons te tNil)) D0 σ W.h :=
  ⟨_, hi, .inl ⟨rfl, _, SqL.of hp⟩, h W (.refl ok) _ fun v W1 g ⟨q, ws, e1, e2, e3⟩ => ⟨p, q, vs, ws, rfl, by rw [e1], g.hh p _ hp, g.fh q _ e2, szLe (by rw [e3.len]; exact hz), k ws W1 g e3⟩⟩
/-- x = []: a list of one's own -/
theorem s_nil {i : Nat} (ok : Ex W.f W.h) (k : ∀ p, W.h p = none → D0.nx (σ.set i (some (.ref p))) (upd W.h p (.lst []))) : tAsg (tLst tNil) (gName i) D0 σ W.h := ⟨by show 0 ≤ sizeLine; decide, fun p hp => k p hp⟩
/-! ### loops -/
/-- behind a turn -/
def nextW (P : L2.St → Wd → Prop) : L2.St → Hp → Prop := fun σ H => ∃ W, W.h = H ∧ P σ W
theorem s_forL {α : Type} (xs : List α) (enc : α → D) {j : Nat} (h : EvD te σ W (.l (xs.map enc))) (ok : Ex W.f W.h)
    (k : ∀ W1, Grow W W1 → ∃ P : Nat → L2.St → Wd → Prop, P 0 σ W1 ∧ (∀ i σ' W', P i σ' W' → Ex W1.f W'.f ∧ Ex W'.f W'.h) ∧
      (∀ (i : Nat) (x : α) (v : V) σ' W', xs[i]? = some x → P i σ' W' → Rep W'.f (enc x) v → tu { D0 with nx := nextW (P (i + 1)), ct := nextW (P (i + 1)), bk := D0.nx } (σ'.set j (some v)) W'.h) ∧ ∀ σ' W', P xs.length σ' W' → D0.nx σ' W'.h) :
    tFor (iList K te) (gName j) tu D0 σ W.h := h W (.refl ok) _ fun _ W1 g ⟨a, ws, e1, e2, e3⟩ => by
  obtain ⟨P, h0, hk, hs, hd⟩ := k W1 g
  refine ⟨a, e1, ⟨ws, SqL.of (g.fh a _ e2)⟩, ?_⟩
  have hl : ws.length = xs.length := by rw [e3.len, List.length_map]
  refine for_it (walk_list (K := K) (a := a) (xs := ws)) (fun i σ H => ∃ W, W.h = H ∧ P i σ W) ⟨W1, rfl, h0⟩ ?_ ?_ ?_
  · rintro i σ' H _ ⟨W', rfl, p⟩
    exact SqL.of ((hk i σ' W' p).2 a _ ((hk i σ' W' p).1 a _ e2))
  · rintro i v σ' H H' hi ⟨W', rfl, p⟩ ⟨rfl, hy⟩
    obtain ⟨x, hx⟩ : ∃ x, xs[i]? = some x := ⟨_, List.getElem?_eq_getElem (by omega)⟩
    obtain ⟨u, h1, h2⟩ := e3.get (j := i) (d := enc x) (by rw [List.getElem?_map, hx]; rfl)
    rw [hy] at h1
    cases h1
    exact hs i x v σ' W' hx p (Rep.mono (hk i σ' W' p).1 _ _ h2)
  · rintro σ' H ⟨W', rfl, p⟩
    rw [hl] at p
    exact hd σ' W' p
theorem s_forR {tr : TA} (n : Nat) {j : Nat} (h : EvA tr σ W [dn n]) (hz : n < 10000000) (ok : Ex W.f W.h)
    (k : ∀ W1, Grow W W1 → ∃ P : Nat → L2.St → Wd → Prop, P 0 σ W1 ∧
      (∀ (i : Nat) σ' W', i < n → P i σ' W' → tu { D0 with nx := nextW (P (i + 1)), ct := nextW (P (i + 1)), bk := D0.nx } (σ'.set j (some (vn i))) W'.h) ∧ ∀ σ' W', P n σ' W' → D0.nx σ' W'.h) :
    tFor (iRng1 tr) (gName j) tu D0 σ W.h := h W (.refl ok) _ fun ws W1 g ⟨v, r, e1, e2, e3⟩ => by
  obtain ⟨P, h0, hs, hd⟩ := k W1 g
  have e4 : r = [] := e3
  subst e4 e1
  have e5 : v = .int (n : Int) := e2
  subst e5
  refine ⟨(n : Int), rfl, by omega, by omega, ?_⟩
  rw [Int.toNat_natCast]
  refine for_it (walk_range (lo := 0) (n := n)) (fun i σ H => ∃ W, W.h = H ∧ P i σ W) ⟨W1, rfl, h0⟩ (fun _ _ _ _ _ => trivial) ?_ ?_
  · rintro i v σ' H H' hi ⟨W', rfl, p⟩ ⟨rfl, rfl⟩
    have e0 : V.int (0 + (i : Int)) = vn i := congrArg V.int (Int.zero_add _)
    show tu _ (σ'.set j (some (V.int (0 + (i : Int))))) W'.h
    rw [e0]
    exact hs i σ' W' hi p
  · rintro σ' H ⟨W', rfl, p⟩
    exact hd σ' W' p
/-- for i, x in enumerate(list) -/
theorem s_forE {α : Type} (xs : List α) (enc : α → D) {i1 i2 : Nat} (h : EvD te σ W (.l (xs.map enc))) (ok : Ex W.f W.h)
    (k : ∀ W1, Grow W W1 → ∃ P : Nat → L2.St → Wd → Prop, P 0 σ W1 ∧ (∀ i σ' W', P i σ' W' → Ex W1.f W'.f ∧ Ex W'.f W'.h) ∧
      (∀ (i : Nat) (x : α) (v : V) σ' W' W2, xs[i]? = some x → P i σ' W' → Grow W' W2 → Rep W2.f (enc x) v → tu { D0 with nx := nextW (P (i + 1)), ct := nextW (P (i + 1)), bk := D0.nx } ((σ'.set i1 (some (vn i))).set i2 (some v)) W2.h) ∧ ∀ σ' W', P xs.length σ' W' → D0.nx σ' W'.h) :
    tFor (iEnum K (tCons te tNil)) (gTup K 2 (gCons (gName i1) (gCons (gName i2) gNil))) tu D0 σ W.h := h W (.refl ok) _ fun _ W1 g ⟨a, ws, e1, e2, e3⟩ => by
  obtain ⟨P, h0, hk, hs, hd⟩ := k W1 g
  refine ⟨a, ws, by rw [e1], SqL.of (g.fh a _ e2), ?_⟩
  have hl : ws.length = xs.length := by rw [e3.len, List.length_map]
  refine for_it (walk_enum (K := K) (a := a) (xs := ws)) (fun i σ H => ∃ W, W.h = H ∧ P i σ W) ⟨W1, rfl, h0⟩ ?_ ?_ ?_
  · rintro i σ' H _ ⟨W', rfl, p⟩
    exact SqL.of ((hk i σ' W' p).2 a _ ((hk i σ' W' p).1 a _ e2))
  · rintro i v σ' H H' hi ⟨W', rfl, p⟩ ⟨T, y1, y2, rfl, hT, rfl, hy1, hy2⟩
    obtain ⟨x, hx⟩ : ∃ x, xs[i]? = some x := ⟨_, List.getElem?_eq_getElem (by omega)⟩
    obtain ⟨u, h1, h2⟩ := e3.get (j := i) (d := enc x) (by rw [List.getElem?_map, hx]; rfl)
    have h1' : ws[i]? = some y2 := hy2
    rw [h1'] at h1
    cases h1
    have e9 : y1 = vn i := by simpa using hy1.symm
    subst e9
    have gn : Grow W' ⟨upd W'.f T (.tup [vn i, y2]), upd W'.h T (.tup [vn i, y2])⟩ := .new (hk i σ' W' p).2 hT
    exact ⟨T, _, rfl, SqT.of upd_same, rfl, _, _, rfl, _, _, rfl, rfl, hs i x y2 σ' W' ⟨upd W'.f T (.tup [vn i, y2]), upd W'.h T (.tup [vn i, y2])⟩ hx p gn (Rep.mono ((hk i σ' W' p).1.trans gn.ff) _ _ h2)⟩
  · rintro σ' H ⟨W', rfl, p⟩
    rw [hl] at p
    exact hd σ' W' p
/-- for x, y in zip(list, list): lists of one length -/
theorem s_forZ {ta' : TE} {α β : Type} (xs : List α) (enc : α → D) (ys : List β) (enc2 : β → D) {i1 i2 : Nat} (hxy : xs.length = ys.length) (h : EvD ta σ W (.l (xs.map enc))) (h' : EvD ta' σ W (.l (ys.map enc2))) (ok : Ex W.f W.h)
    (k : ∀ W1, Grow W W1 → ∃ P : Nat → L2.St → Wd → Prop, P 0 σ W1 ∧ (∀ i σ' W', P i σ' W' → Ex W1.f W'.f ∧ Ex W'.f W'.h) ∧
      (∀ (i : Nat) (x : α) (y : β) (v w : V) σ' W' W2, xs[i]? = some x → ys[i]? = some y → P i σ' W' → Grow W' W2 → Rep W2.f (enc x) v → Rep W2.f (enc2 y) w → tu { D0 with nx := nextW (P (i + 1)), ct := nextW (P (i + 1)), bk := D0.nx } ((σ'.set i1 (some v)).set i2 (some w)) W2.h) ∧ ∀ σ' W', P xs.length σ' W' → D0.nx σ' W'.h) :
    tFor (iZip K (tCons ta (tCons ta' tNil))) (gTup K 2 (gCons (gName i1) (gCons (gName i2) gNil))) tu D0 σ W.h := h W (.refl ok) _ fun _ W0 g0 ⟨a, ws, e1, e2, e3⟩ => h' W0 g0 _ fun _ W1 g ⟨a', ws', e1', e2', e3'⟩ => by
  obtain ⟨P, h0, hk, hs, hd⟩ := k W1 (g0.trans g)
  refine ⟨a, a', ws, ws', by rw [e1, e1'], SqL.of (g.fh a _ (g.ff a _ e2)), SqL.of (g.fh a' _ e2'), ?_⟩
  have hl : ws.length = xs.length := by rw [e3.len, List.length_map]
  have hl' : ws'.length = ys.length := by rw [e3'.len, List.length_map]
  refine for_it (walk_zip (K := K) (a := a) (b := a') (xs := ws) (ys := ws') (n := xs.length) (by omega)) (fun i σ H => ∃ W, W.h = H ∧ P i σ W) ⟨W1, rfl, h0⟩ ?_ ?_ ?_
  · rintro i σ' H _ ⟨W', rfl, p⟩
    exact ⟨SqL.of ((hk i σ' W' p).2 a _ ((hk i σ' W' p).1 a _ (g.ff a _ e2))), SqL.of ((hk i σ' W' p).2 a' _ ((hk i σ' W' p).1 a' _ e2'))⟩
  · rintro i v σ' H H' hi ⟨W', rfl, p⟩ ⟨T, y1, y2, rfl, hT, rfl, hy1, hy2⟩
    obtain ⟨x, hx⟩ : ∃ x, xs[i]? = some x := ⟨_, List.getElem?_eq_getElem (by omega)⟩
    obtain ⟨y, hy⟩ : ∃ y, ys[i]? = some y := ⟨_, List.getElem?_eq_getElem (by omega)⟩
    obtain ⟨u, h1, h2⟩ := e3.get (j := i) (d := enc x) (by rw [List.getElem?_map, hx]; rfl)
    obtain ⟨u', h1', h2'⟩ := e3'.get (j := i) (d := enc2 y) (by rw [List.getElem?_map, hy]; rfl)
    have k1 : ws[i]? = some y1 := hy1
    have k2 : ws'[i]? = some y2 := hy2
    rw [k1] at h1
    rw [k2] at h1'
    cases h1
    cases h1'
    have gn : Grow W' ⟨upd W'.f T (.tup [y1, y2]), upd W'.h T (.tup [y1, y2])⟩ := .new (hk i σ' W' p).2 hT
    exact ⟨T, _, rfl, SqT.of upd_same, rfl, _, _, rfl, _, _, rfl, rfl, hs i x y y1 y2 σ' W' ⟨upd W'.f T (.tup [y1, y2]), upd W'.h T (.tup [y1, y2])⟩ hx hy p gn (Rep.mono (g.ff.trans ((hk i σ' W' p).1.trans gn.ff)) _ _ h2) (Rep.mono ((hk i σ' W' p).1.trans gn.ff) _ _ h2')⟩
  · rintro σ' H ⟨W', rfl, p⟩
    exact hd σ' W' p
/-- a while, by a number that falls -/
theorem s_while (P : Nat → L2.St → Wd → Prop) (m0 : Nat) (h0 : P m0 σ W) (hs : ∀ m σ' W', P m σ' W' → ∃ b, EvT t σ' W' b ∧ Ex W'.f W'.h ∧
      (b = true → ∀ W1, Grow W' W1 → tu { D0 with nx := nextW (fun σ2 W2 => ∃ m', m' < m ∧ P m' σ2 W2), ct := nextW (fun σ2 W2 => ∃ m', m' < m ∧ P m' σ2 W2), bk := D0.nx } σ' W1.h) ∧ (b = false → ∀ W1, Grow W' W1 → D0.nx σ' W1.h)) : tWhile t tu D0 σ W.h :=
  ⟨fun m σ H => ∃ W, W.h = H ∧ P m σ W, ⟨m0, W, rfl, h0⟩, by
    rintro m σ' H ⟨W', rfl, p⟩
    obtain ⟨b, hb, ok, h1, h2⟩ := hs m σ' W' p
    refine hb W' (.refl ok) _ fun W1 g => ?_
    cases b with
    | true => exact iteT ⟨nextW fun σ2 W2 => ∃ m', m' < m ∧ P m' σ2 W2, fun σ2 H2 ⟨W2, e, m', hm, p2⟩ => ⟨m', hm, W2, e, p2⟩, h1 rfl W1 g⟩
    | false => exact iteF (h2 rfl W1 g)⟩
end
end Hm
end
section
set_option Elab.async false
set_option linter.all false
set_option maxRecDepth 100000
set_option maxHeartbeats 2000000
namespace Hm
open PySem PySem.Spec PyProof.Rows L2
open C8 (Cal Met Mak pe_c pe_mt pe_mt0 pe_mk pe_gc)
/-! ### rules with the written part as a letter -/
section
variable {X : Cx}
theorem pe_fldK (K : PySem.W.Frag) (h : X.K = K) {e : Expr} {ta : TE} {f : Str} {pos : Pos} (he : PE X e ta) (hb : attributeBase e f X.env (eval e X.env) = eval e X.env) : PE X (.Attribute e f pos) (tFld K ta f) := h ▸ pe_fld he hb
theorem ixL (K : PySem.W.Frag) (h : X.K = K) : IxR X (rIxL K) := h ▸ ix_list
theorem ixT (K : PySem.W.Frag) (h : X.K = K) : IxR X (rIxT K) := h ▸ ix_tup
theorem slL (K : PySem.W.Frag) (h : X.K = K) : SlR X (rSlL K) := h ▸ sl_list
theorem pe_revK (K : PySem.W.Frag) (h : X.K = K) {e : Expr} {te : TE} {k : Nat} {p1 p2 p3 pos : Pos} (he : PE X e te) : PE X (.Subscript e (.Slice none none (some (.UnaryOp .USub (.Constant (.int 1) k p1) p2)) p3) pos) (tRevL K te) := h ▸ pe_revL he
theorem eqDK (K : PySem.W.Frag) (h : X.K = K) (hu : X.A.units + 64 < cLine) : OpR X (compareOp .Eq) (rEqD K) := h ▸ op_eqD hu
theorem neDK (K : PySem.W.Frag) (h : X.K = K) (hu : X.A.units + 64 < cLine) : OpR X (compareOp .NotEq) (rNeD K) := h ▸ op_neD hu
theorem inK (K : PySem.W.Frag) (h : X.K = K) : OpR X (compareOp .In) (rIn K false) := h ▸ op_in_seq
theorem notInK (K : PySem.W.Frag) (h : X.K = K) : OpR X (compareOp .NotIn) (rIn K true) := h ▸ op_notIn_seq
def rLenK (K : PySem.W.Frag) : List V → Hp → VK → Prop := fun xs H Q => ∃ p ys, xs = [.ref p] ∧ (SqL K H p ys ∨ SqT K H p ys) ∧ Q (.int ys.length) H
theorem lenK (K : PySem.W.Frag) (h : X.K = K) : CallR X (.builtin "len") (rLenK K) := h ▸ call_len_seq
def rListK (K : PySem.W.Frag) : List V → Hp → VK → Prop := fun xs H Q => ∃ p ys, xs = [.ref p] ∧ (SqL K H p ys ∨ SqT K H p ys) ∧ ∀ l, H l = none → Q (.ref l) (upd H l (.lst ys))
theorem listK (K : PySem.W.Frag) (h : X.K = K) : CallR X (.type "list") (rListK K) := h ▸ call_list_of
theorem sumK (K : PySem.W.Frag) (h : X.K = K) (hc : X.calm = true) : CallR X (.builtin "sum") (rSum K) := h ▸ cr_sum hc
theorem allK (K : PySem.W.Frag) (h : X.K = K) (hc : X.calm = true) : CallR X (.builtin "all") (rAll K) := h ▸ cr_all hc
theorem minK (K : PySem.W.Frag) (h : X.K = K) (hc : X.calm = true) : CallR X (.builtin "min") (rMin K) := h ▸ cr_min hc
theorem indexK (K : PySem.W.Frag) (h : X.K = K) : MtR X "list.index" (rIndex K) := h ▸ mt_index
theorem pi_listK (K : PySem.W.Frag) (h : X.K = K) {tg l : Expr} {tl : TE} (hl : PE X l tl) : PI X tg l (iList K tl) := h ▸ pi_list hl
theorem pi_enumK (K : PySem.W.Frag) (h : X.K = K) {e : Expr} {ta : TA} {p pos tpos : Pos} {elts : List Expr} {kk : Nat} (hg : Gl X "enumerate") (hm : X.mg "enumerate" = none) (ha : PA X [e] ta) (hs : starEach [e] X.env = [(false, eval e X.env)] := by rfl) :
    PI X (.Tuple elts kk tpos) (.Call (.Name "enumerate" p) [e] [] pos) (iEnum K ta) := h ▸ pi_enum hg hm ha hs
theorem pi_zipK (K : PySem.W.Frag) (h : X.K = K) {e e2 : Expr} {ta : TA} {p pos tpos : Pos} {elts : List Expr} {kk : Nat} (hg : Gl X "zip") (hm : X.mg "zip" = none) (ha : PA X [e, e2] ta)
    (hs : starEach [e, e2] X.env = (false, eval e X.env) :: starEach [e2] X.env := by rfl) (hpl : (backTo pos (starEach [e2] X.env)).any (·.1) = false := by rfl) :
    PI X (.Tuple elts kk tpos) (.Call (.Name "zip" p) [e, e2] [] pos) (iZip K ta) := h ▸ pi_zip hg hm ha hs hpl
theorem pg_tupK (K : PySem.W.Frag) (h : X.K = K) {es : List Expr} {k : Nat} {t : TGs} {n : Nat} {pos : Pos} (hc : X.calm = true) (ht : PGs X es t)
    (hn : (assignEach es X.env).length = n := by rfl) (hst : (assignEach es X.env).findIdx? (·.1) = none := by rfl) : PG X (.Tuple es k pos) (gTup K n t) := h ▸ pg_tup hc ht hn hst
theorem pe_mk0 {x : Str} {k j : Nat} {C : Addr} {sp : Sp} {dvs : List V} {p pos : Pos} (c : Mak X.prog X.w X.K X.mg X.base k x C sp dvs) (hr : Room j X.A) (hk : k + 1 ≤ j) (hg : Gl X x) (hdb : (x == ("__debug__" : Str)) = false := by decide) :
    PE X (.Call (.Name x p) [] [] pos) (tMake C sp dvs E0 tNil) := by
  obtain ⟨f, fd, ps, ds, M, F, hm, b, d⟩ := c.ex
  exact pe_make0 M F (hr.mono hk) hg hm b d pass0 hdb
end
/-! ### xs.extend(a tuple) -/
theorem ext_tup (l b : Addr) (xs ys : Array Value) (n m : Nat) (dd : Option Addr) (sl : Array (Option Value)) (h0 : ¬ (!xs.isEmpty && Builtin.List.listTooLong (xs.size + ys.size)) = true) (h1 : xs.size ≤ sizeLine) (h2 : xs.size + ys.size ≤ sizeLine + 1) :
    Meets (Builtin.«list.extend» ⟨[.ref l, .ref b], []⟩) fun _ R s =>
      s.heap.get? l = some { cls := .type "list", dict := none, data := .seq xs n, slots := #[] } ∧ s.heap.get? b = some { cls := .type "tuple", dict := dd, data := .seq ys m, slots := sl } ∧
        R (.ok (.ret Value.none)) { s with heap := s.heap.update l (Obj.mapSeq fun x => x ++ ys), toks := s.toks } :=
  .of_wp fun prog w A R s h => by
    obtain ⟨hp, g, d, tk, os⟩ := s
    obtain ⟨hl, hb, h⟩ := h
    have f1 := AutoSeq1.sub_tuple_tuple
    have f2 := AutoSeq1.sub_list_list
    have f3 := AutoSeq1.sub_tuple_list
    have f4 := AutoSeq1.sub_list_tuple
    have hz : (xs ++ ys).size ≤ sizeLine + 1 := by
      rw [Array.size_append]
      exact h2
    wp_walk using (wpAny_updateSeq hl rfl (hz := h1) (_hz' := hz)), AutoSeq1.wpAny_loadPart' hl, AutoSeq1.wpAny_loadPart' hb
    exact ⟨_, rfl, h⟩
section
variable {X : Cx}
def rExtendT (K : PySem.W.Frag) : V → List V → Hp → VK → Prop := fun x vs H Q => ∃ l b xs zs, x = .ref l ∧ vs = [.ref b] ∧ H l = some (.lst xs) ∧ SqT K H b zs ∧ xs.length + zs.length ≤ sizeLine ∧ Q .non (upd H l (.lst (xs ++ zs)))
theorem extendT0 : MtM X "list.extend" (rExtendT X.K) := by
  intro pins s σ H x vs v us Q I rx rv h
  obtain ⟨l, b, xs, zs, rfl, rfl, hH, hB, hz, q⟩ := h
  cases rx
  obtain ⟨u, rfl, ru⟩ := rv.one
  cases ru
  obtain ⟨z, its, n, r, hl, e⟩ := I.lstM hH
  obtain ⟨its2, r2, ht, z2⟩ := I.tuple hB
  have hl2 := r2.length
  have hsz : its.toArray.size + its2.toArray.size ≤ sizeLine := by rw [List.size_toArray, List.size_toArray]; omega
  have hlong : ¬ (!its.toArray.isEmpty && Builtin.List.listTooLong (its.toArray.size + its2.toArray.size)) = true := by
    rw [notLongL hsz, Bool.and_false]
    exact Bool.false_ne_true
  obtain ⟨⟨oc, od, dt, sl⟩, hob, hcl, n2, hdt⟩ := ht
  cases hcl
  cases hdt
  refine call_meets F.slot_list_extend ⟨_, e, rfl⟩ F.entry_list_extend (F.args_list_extend_2 _ _) (ext_tup l b its.toArray its2.toArray n n2 od sl hlong (by rw [List.size_toArray]; omega) (by omega)) ⟨e, hob, ?_⟩
  refine ⟨.non, _, I.lset (its' := its ++ its2) hH e (by simp) (r.append r2) ?_, rfl, q⟩
  rw [List.length_append]
  omega
theorem mt_extendT (K : PySem.W.Frag) (h : X.K = K) : MtM X "list.extend" (rExtendT K) := h ▸ extendT0
/-! ### min of a list of pairs, of a tuple of ints -/
def plt (p q : Int × Int) : Bool := if p.1 = q.1 then decide (p.2 < q.2) else decide (p.1 < q.1)
def pmin (x : Int × Int) (xs : List (Int × Int)) : Int × Int := xs.foldl (fun a y => if plt y a = true then y else a) x
theorem minOf_pmin (x : Int × Int) (xs : List (Int × Int)) : PySem.W.minOf x xs = pmin x xs := rfl
def prD (p : Int × Int) : PyData := .tuple [.int p.1, .int p.2]
theorem prD_inj {p q : Int × Int} (h : prD p = prD q) : p = q := by
  obtain ⟨a, b⟩ := p
  obtain ⟨c, d⟩ := q
  injection h with h
  injection h with h1 h2
  injection h1 with h1
  injection h2 with h2 _
  injection h2 with h2
  exact Prod.ext h1 h2
theorem DpAll.at_ {K : PySem.W.Frag} {H : Hp} : ∀ {vs : List V} {ds : List PyData} {i : Nat} {v : V}, DpAll K H vs ds → vs[i]? = some v → ∃ d, ds[i]? = some d ∧ Dp K H v d
  | _, _, _, _, .nil, h => by simp at h
  | _, _, 0, _, .cons a b, h => by
    have e := Option.some.inj h
    subst e
    exact ⟨_, rfl, a⟩
  | _, _, i + 1, v, .cons a b, h => DpAll.at_ (i := i) b (by simpa using h)
theorem Vals.of {xs : List V} {us : List Value} {i : Nat} {u : Value} (r : Vals xs us) (h : us[i]? = some u) : ∃ x, xs[i]? = some x ∧ RelV x u := by
  have hi : i < xs.length := by
    rw [r.length]
    exact (List.getElem?_eq_some_iff.mp h).1
  obtain ⟨u', h1, h2⟩ := r.get (List.getElem?_eq_getElem hi)
  rw [h] at h1
  cases h1
  exact ⟨_, List.getElem?_eq_getElem hi, h2⟩
def rMinP (K : PySem.W.Frag) : List V → Hp → VK → Prop := fun vs H Q => ∃ (a : Addr) (ws : List V) (x : Int × Int) (xs : List (Int × Int)), vs = [V.ref a] ∧ SqL K H a ws ∧ DpAll K H ws ((x :: xs).map prD) ∧ ∀ w (i : Nat), ws[i]? = some w → (x :: xs)[i]? = some (pmin x xs) → Q w H
theorem minP0 (hc : X.calm = true) (hu : X.A.units + 64 < cLine) : CallR X (.builtin "min") (rMinP X.K) := by
  intro pins s σ H vs us Q I r h
  obtain ⟨a, ws, x, xs, rfl, hs, hd, q⟩ := h
  obtain ⟨its, rv, hl, _⟩ := I.list hs
  rw [Vals.ref1 r]
  obtain ⟨as, hr⟩ := Dp.readsAll I _ _ _ hd rv
  refine PySem.W.min_list_datum (α := Int × Int) (x := x) (xs := xs) (I.ok.hd hc) hl.isList ⟨as, by rw [show its.toArray.toList = its by simp]; exact hr⟩ (by show X.A.units + 1 + 1 < cLine; omega) fun i v h' tk hi hh hk => ?_
  obtain ⟨w, hw, rw'⟩ := Vals.of (i := i) (u := v) rv (by simpa using hi)
  obtain ⟨d, hd1, hd2⟩ := DpAll.at_ hd hw
  obtain ⟨bs, r1⟩ := Dp.reads I d w v hd2 rw'
  obtain ⟨cs, r2⟩ := hh
  have e := (Reads.unique (Reads.keeps hk r1) _ _ r2).1
  rw [List.getElem?_map] at hd1
  cases hx : (x :: xs)[i]? with
  | none => rw [hx] at hd1; cases hd1
  | some y =>
    rw [hx] at hd1
    have e2 : prD y = d := Option.some.inj hd1
    have e3 : y = pmin x xs := prD_inj (e2.trans e)
    exact ⟨w, H, I.kept hk, rw', q w i hw (by rw [hx, e3])⟩
theorem minPK (K : PySem.W.Frag) (h : X.K = K) (hc : X.calm = true) (hu : X.A.units + 64 < cLine) : CallR X (.builtin "min") (rMinP K) := h ▸ minP0 hc hu
def rMinT (K : PySem.W.Frag) : List V → Hp → VK → Prop := fun vs H Q => ∃ (a : Addr) (m k : Int), vs = [V.ref a] ∧ SqT K H a [.int m, .int k] ∧ Q (.int (min m k)) H
theorem minT0 (hc : X.calm = true) (hu : X.A.units + 64 < cLine) : CallR X (.builtin "min") (rMinT X.K) := by
  intro pins s σ H vs us Q I r h
  obtain ⟨a, m, k, rfl, hs, q⟩ := h
  obtain ⟨its, rv, hl, _⟩ := I.tuple hs
  rw [Vals.ref1 r]
  have hd : DpAll X.K H [.int m, .int k] [.int m, .int k] := .cons (.int m) (.cons (.int k) .nil)
  obtain ⟨as, hr⟩ := Dp.readsAll I _ _ _ hd rv
  refine PySem.W.min_tuple_datum (α := Int) (x := m) (xs := [k]) (I.ok.hd hc) hl ⟨as, by rw [show its.toArray.toList = its by simp]; exact hr⟩ (by show X.A.units + 1 + 0 < cLine; omega) fun i v h' tk hi hh hk => ?_
  obtain ⟨cs, r2⟩ := hh
  have e : PySem.W.minOf m [k] = min m k := by
    show (if decide (k < m) = true then k else m) = min m k
    by_cases c : k < m
    · rw [if_pos (decide_eq_true c)]; omega
    · rw [if_neg (by rw [decide_eq_false c]; decide)]; omega
  rw [e] at r2
  cases r2 with
  | int i t => exact ⟨.int (min m k), H, I.kept hk, ⟨t, rfl⟩, q⟩
theorem minTK (K : PySem.W.Frag) (h : X.K = K) (hc : X.calm = true) (hu : X.A.units + 64 < cLine) : CallR X (.builtin "min") (rMinT K) := h ▸ minT0 hc hu
/-! ### their readings -/
variable {K : PySem.W.Frag} {σ : L2.St} {W : Wd} {te : TE} {D0 : Ends}
theorem ev_lenK {ds : List D} (h : EvD te σ W (.l ds)) : EvD (tCB (rLenK K) (tCons te tNil)) σ W (dn ds.length) := ev_len h
theorem ev_minT {m k : Int} (h : EvD te σ W (.t [.i m, .i k])) : EvD (tCB (rMinT K) (tCons te tNil)) σ W (.i (min m k)) := fun W1 g Q q =>
  h W1 g _ fun v W2 g2 ⟨p, vs, e1, e2, v1, r, e3, r1, v2, r', e4, r2, e5⟩ => by
    have e6 : r' = [] := e5
    have r1' : v1 = .int m := r1
    have r2' : v2 = .int k := r2
    subst e6 e4 e3 r1' r2'
    exact ⟨p, m, k, by rw [e1], SqT.of (g2.fh p _ e2), q _ W2 g2 rfl⟩
theorem dpPairs {H Hf : Hp} (e : Ex Hf H) : ∀ {ps : List (Int × Int)} {vs : List V}, Reps Hf (ps.map fun p => .t [.i p.1, .i p.2]) vs → DpAll K H vs (ps.map prD)
  | [], _, h => by
    have e : _ = [] := h
    subst e
    exact .nil
  | p :: ps, _, ⟨v, r, e1, ⟨a, ws, e2, e3, v1, r1, e4, k1, v2, r2, e5, k2, e6⟩, h3⟩ => by
    have e7 : r2 = [] := e6
    have k1' : v1 = .int p.1 := k1
    have k2' : v2 = .int p.2 := k2
    subst e7 e5 e4 e2 e1 k1' k2'
    exact .cons (.tup (SqT.of (e a _ e3)) (.cons (.int _) (.cons (.int _) .nil))) (dpPairs e h3)
theorem ev_minP {x : Int × Int} {xs : List (Int × Int)} (h : EvD te σ W (.l ((x :: xs).map fun p => .t [.i p.1, .i p.2]))) : EvD (tCB (rMinP K) (tCons te tNil)) σ W (.t [.i (pmin x xs).1, .i (pmin x xs).2]) := fun W1 g Q q =>
  h W1 g _ fun v W2 g2 ⟨p, vs, e1, e2, e3⟩ => ⟨p, vs, x, xs, by rw [e1], SqL.of (g2.fh p _ e2), dpPairs g2.fh e3, fun w i hw hx => by
    obtain ⟨u, h1, h2⟩ := e3.get (j := i) (d := .t [.i (pmin x xs).1, .i (pmin x xs).2]) (by rw [List.getElem?_map, hx]; rfl)
    rw [hw] at h1
    cases h1
    exact q _ W2 g2 h2⟩
theorem ev_listK {ds : List D} (h : EvD te σ W (.l ds)) : EvD (tCB (rListK K) (tCons te tNil)) σ W (.l ds) := fun W1 g Q q =>
  h W1 g _ fun v W2 g2 ⟨p, vs, e1, e2, e3⟩ => ⟨p, vs, by rw [e1], .inl (SqL.of (g2.fh p _ e2)), fun r hr =>
    q _ ⟨upd W2.f r (.lst vs), upd W2.h r (.lst vs)⟩ (g2.trans (.new g2.fh hr)) ⟨r, _, rfl, upd_same, Reps.mono (.new (none_of g2.fh hr)) _ _ e3⟩⟩
/-- list(a list of the top) -/
theorem ev_listTop {a : Addr} {ns : List Int} (h : ∀ H, SqL K H a (ns.map V.int)) : EvD (tCB (rListK K) (tCons (tC (.ref a)) tNil)) σ W (.l (ns.map D.i)) := fun W1 g Q q =>
  ⟨a, _, rfl, .inl (h _), fun r hr => q _ ⟨upd W1.f r (.lst (ns.map V.int)), upd W1.h r (.lst (ns.map V.int))⟩ (.new g.fh hr) ⟨r, _, rfl, upd_same, Reps.ints.mpr rfl⟩⟩
/-- xs.extend(a tuple) of a list of one's own -/
theorem s_extT {i : Nat} {p : Addr} {vs : List V} {ds : List D} (h : EvD te σ W (.t ds)) (ok : Ex W.f W.h) (hi : σ[i]? = some (some (.ref p))) (hp : W.h p = some (.lst vs)) (hz : vs.length + ds.length ≤ 10000000) (k : ∀ ws W1, Grow W W1 → Reps W1.f ds ws → D0.nx σ (upd W1.h p (.lst (vs ++ ws)))) :
    tDrop (tBM K "list" (rExtendT K) (tVar i) (tCons te tNil)) D0 σ W.h :=
  ⟨_, hi, .inl ⟨rfl, _, SqL.of hp⟩, h W (.refl ok) _ fun v W1 g ⟨q, ws, e1, e2, e3⟩ => ⟨p, q, vs, ws, rfl, by rw [e1], g.hh p _ hp, SqT.of (g.fh q _ e2), szLe (by rw [e3.len]; exact hz), k ws W1 g e3⟩⟩
/-- xs.index(x) of ints: the first place -/
theorem ev_index {ta : TE} {ns : List Int} {x : Int} {j : Nat} (hj : ns[j]? = some x) (hf : ∀ m, m < j → ns[m]? ≠ some x) (ha : EvD ta σ W (.l (ns.map D.i))) (h : EvD te σ W (.i x)) : EvD (tBM K "list" (rIndex K) ta (tCons te tNil)) σ W (dn j) := fun W1 g Q q =>
  ha W1 g _ fun v W2 g2 ⟨p, vs, e1, e2, e3⟩ => by
    rw [Reps.ints.mp e3] at e2
    subst e1
    refine ⟨.inl ⟨rfl, _, SqL.of (g2.fh p _ e2)⟩, h W2 (g.trans g2) _ fun y W3 g3 ry => ?_⟩
    have ry' : y = .int x := ry
    subst ry'
    refine ⟨p, _, .int x, j, .int x, rfl, rfl, SqL.of (g3.fh p _ (g3.ff p _ e2)), rfl, flat_ints ns, by rw [List.getElem?_map, hj]; rfl, beq_self_eq_true x, fun m z hm hz => ?_, q _ W3 (g2.trans g3) rfl⟩
    rw [List.getElem?_map] at hz
    cases hn : ns[m]? with
    | none => rw [hn] at hz; cases hz
    | some y =>
      rw [hn] at hz
      have e4 : V.int y = z := Option.some.inj hz
      subst e4
      show (y == x) = false
      exact beq_eq_false_iff_ne.mpr fun e => hf m hm (by rw [hn, e])
/-! ### data compared -/
mutual
def toPy : D → PyData
  | .i n => .int n
  | .b c => .bool c
  | .n => .none
  | .l xs => .list (toPys xs)
  | .t xs => .tuple (toPys xs)
  | .o _ _ _ => .none
  | .v _ => .none
def toPys : List D → List PyData
  | [] => []
  | d :: ds => toPy d :: toPys ds
end
mutual
def noObj : D → Bool
  | .o _ _ _ => false
  | .v _ => false
  | .l xs => noObjs xs
  | .t xs => noObjs xs
  | _ => true
def noObjs : List D → Bool
  | [] => true
  | d :: ds => noObj d && noObjs ds
end
mutual
theorem Rep.dp {H Hf : Hp} (e : Ex Hf H) : ∀ (d : D) (v : V), noObj d = true → Rep Hf d v → Dp K H v (toPy d)
  | .i n, _, _, h => by
    cases h
    exact .int n
  | .b c, _, _, h => by
    cases h
    exact .bl c
  | .n, _, _, h => by
    cases h
    exact .non
  | .l xs, _, hn, ⟨a, vs, h1, h2, h3⟩ => by
    subst h1
    exact .lst (SqL.of (e a _ h2)) (Reps.dp e xs vs hn h3)
  | .t xs, _, hn, ⟨a, vs, h1, h2, h3⟩ => by
    subst h1
    exact .tup (SqT.of (e a _ h2)) (Reps.dp e xs vs hn h3)
  | .o _ _ _, _, hn, _ => by cases hn
  | .v _, _, hn, _ => by cases hn
theorem Reps.dp {H Hf : Hp} (e : Ex Hf H) : ∀ (ds : List D) (vs : List V), noObjs ds = true → Reps Hf ds vs → DpAll K H vs (toPys ds)
  | [], _, _, h => by
    have e : _ = [] := h
    subst e
    exact .nil
  | d :: ds, _, hn, ⟨v, r, h1, h2, h3⟩ => by
    subst h1
    have hn' : (noObj d && noObjs ds) = true := hn
    rw [Bool.and_eq_true] at hn'
    exact .cons (Rep.dp e d v hn'.1 h2) (Reps.dp e ds r hn'.2 h3)
end
theorem rv_neD {d1 d2 : D} (h1 : noObj d1 = true) (h2 : noObj d2 = true) (s1 : SeqAt.shaped (toPy d1) = true) (s2 : SeqAt.shaped (toPy d2) = true) : RvD (rNeD K) W d1 d2 (.b (!PyData.eqv (toPy d1) (toPy d2))) := fun W1 x y g rx ry Q q =>
  ⟨_, _, Rep.dp g.fh d1 x h1 rx, Rep.dp g.fh d2 y h2 ry, s1, s2, q _ W1 g.rf rfl⟩
theorem rv_eqD {d1 d2 : D} (h1 : noObj d1 = true) (h2 : noObj d2 = true) (s1 : SeqAt.shaped (toPy d1) = true) (s2 : SeqAt.shaped (toPy d2) = true) : RvD (rEqD K) W d1 d2 (.b (PyData.eqv (toPy d1) (toPy d2))) := fun W1 x y g rx ry Q q =>
  ⟨_, _, Rep.dp g.fh d1 x h1 rx, Rep.dp g.fh d2 y h2 ry, s1, s2, q _ W1 g.rf rfl⟩
end
end Hm
end
section
set_option autoImplicit false
set_option linter.all false
namespace Hm
open Vbjtah

/-! ### trees: the versions on the way up -/
structure Wf (t : Tree) : Prop where
  par : ∀ i, i < t.parents.length → t.parents.getD i 0 ≤ i
  len : t.lengths.length = t.parents.length
  pos : ∀ i, i < t.lengths.length → 1 ≤ t.lengths.getD i 0
  pn : t.parents.length ≤ 9
  top : ∀ i, i < t.lengths.length → t.lengths.getD i 0 ≤ 100
def parOf (t : Tree) (v : Nat) : Nat := t.parents.getD (v - 1) 0
theorem Wf.parLt {t : Tree} (h : Wf t) {v : Nat} (h0 : 0 < v) (hv : v < versionCount t) : parOf t v < v := by
  have h1 : v - 1 < t.parents.length := by
    unfold versionCount at hv
    omega
  have h2 := h.par (v - 1) h1
  unfold parOf
  omega
def upsFrom (t : Tree) : Nat → Nat → List Nat
  | 0, v => [v]
  | f + 1, v => if v = 0 then [v] else v :: upsFrom t f (parOf t v)
def ups (t : Tree) (v : Nat) : List Nat := upsFrom t v v
theorem upsFrom_fuel {t : Tree} (h : Wf t) : ∀ (f v : Nat), v ≤ f → v < versionCount t → upsFrom t f v = ups t v := by
  intro f
  induction f using Nat.strongRecOn with
  | _ f ih =>
    intro v hf hv
    unfold ups
    match f, v, hf, hv, ih with
    | 0, 0, _, _, _ => rfl
    | f + 1, 0, _, _, _ => simp [upsFrom]
    | f + 1, v + 1, hf, hv, ih =>
      have hp : parOf t (v + 1) < v + 1 := h.parLt (Nat.succ_pos v) hv
      have h1 : ¬ (v + 1 = 0) := by omega
      simp only [upsFrom, h1, if_false]
      congr 1
      have e1 := ih f (by omega) (parOf t (v + 1)) (by omega) (by omega)
      have e2 := ih v (by omega) (parOf t (v + 1)) (by omega) (by omega)
      rw [e1, e2]
theorem ups_zero {t : Tree} : ups t 0 = [0] := rfl
theorem ups_pos {t : Tree} (h : Wf t) {v : Nat} (h0 : 0 < v) (hv : v < versionCount t) : ups t v = v :: ups t (parOf t v) := by
  have hp := h.parLt h0 hv
  obtain ⟨k, rfl⟩ : ∃ k, v = k + 1 := ⟨v - 1, by omega⟩
  have h1 : ¬ (k + 1 = 0) := by omega
  show upsFrom t (k + 1) (k + 1) = _
  simp only [upsFrom, h1, if_false]
  congr 1
  exact upsFrom_fuel h k _ (by omega) (by omega)
/-- an induction up a tree -/
theorem up_ind {t : Tree} (h : Wf t) {P : Nat → Prop} (h0 : P 0) (hs : ∀ v, 0 < v → v < versionCount t → P (parOf t v) → P v) : ∀ v, v < versionCount t → P v := by
  intro v
  induction v using Nat.strongRecOn with
  | _ v ih =>
    intro hv
    by_cases hz : v = 0
    · subst hz
      exact h0
    · have hp := h.parLt (by omega) hv
      exact hs v (by omega) hv (ih _ hp (by omega))
theorem ups_self {t : Tree} (h : Wf t) {v : Nat} (hv : v < versionCount t) : v ∈ ups t v := by
  by_cases hz : v = 0
  · subst hz
    simp [ups_zero]
  · rw [ups_pos h (by omega) hv]
    exact List.mem_cons_self
theorem ups_le {t : Tree} (h : Wf t) {v : Nat} (hv : v < versionCount t) : ∀ e, e ∈ ups t v → e ≤ v := by
  revert hv
  refine up_ind h (P := fun v => ∀ e, e ∈ ups t v → e ≤ v) ?_ ?_ v
  · intro e he
    rw [ups_zero] at he
    simp at he
    omega
  · intro v h0 hv ih e he
    have hp := h.parLt h0 hv
    rw [ups_pos h h0 hv] at he
    rcases List.mem_cons.mp he with he | he
    · omega
    · have := ih e he
      omega
theorem ups_root {t : Tree} (h : Wf t) {v : Nat} (hv : v < versionCount t) : 0 ∈ ups t v := by
  revert hv
  refine up_ind h (P := fun v => 0 ∈ ups t v) ?_ ?_ v
  · simp [ups_zero]
  · intro v h0 hv ih
    rw [ups_pos h h0 hv]
    exact List.mem_cons_of_mem _ ih
theorem ups_trans {t : Tree} (h : Wf t) {v : Nat} (hv : v < versionCount t) : ∀ x, x ∈ ups t v → ∀ e, e ∈ ups t x → e ∈ ups t v := by
  revert hv
  refine up_ind h (P := fun v => ∀ x, x ∈ ups t v → ∀ e, e ∈ ups t x → e ∈ ups t v) ?_ ?_ v
  · intro x hx e he
    rw [ups_zero] at hx
    simp at hx
    subst hx
    exact he
  · intro v h0 hv ih x hx e he
    rw [ups_pos h h0 hv] at hx
    rcases List.mem_cons.mp hx with hx | hx
    · subst hx
      exact he
    · rw [ups_pos h h0 hv]
      exact List.mem_cons_of_mem _ (ih x hx e he)
theorem ups_chain {t : Tree} (h : Wf t) {v : Nat} (hv : v < versionCount t) : ∀ x y, x ∈ ups t v → y ∈ ups t v → x ∈ ups t y ∨ y ∈ ups t x := by
  revert hv
  refine up_ind h (P := fun v => ∀ x y, x ∈ ups t v → y ∈ ups t v → x ∈ ups t y ∨ y ∈ ups t x) ?_ ?_ v
  · intro x y hx hy
    rw [ups_zero] at hx hy
    simp at hx hy
    subst hx
    subst hy
    exact .inl (by simp [ups_zero])
  · intro v h0 hv ih x y hx hy
    have hx' := hx
    have hy' := hy
    rw [ups_pos h h0 hv] at hx hy
    rcases List.mem_cons.mp hx with hx | hx
    · subst hx
      exact .inr hy'
    · rcases List.mem_cons.mp hy with hy | hy
      · subst hy
        exact .inl hx'
      · exact ih x y hx hy
theorem ups_pair {t : Tree} (h : Wf t) {v : Nat} (hv : v < versionCount t) : (ups t v).Pairwise (fun x y => y ∈ ups t x ∧ y < x) := by
  revert hv
  refine up_ind h (P := fun v => (ups t v).Pairwise (fun x y => y ∈ ups t x ∧ y < x)) ?_ ?_ v
  · simp [ups_zero]
  · intro v h0 hv ih
    have hp := h.parLt h0 hv
    rw [ups_pos h h0 hv]
    refine List.pairwise_cons.mpr ⟨fun y hy => ⟨?_, ?_⟩, ih⟩
    · rw [ups_pos h h0 hv]
      exact List.mem_cons_of_mem _ hy
    · have := ups_le h (show parOf t v < versionCount t by omega) y hy
      omega
theorem isBelowFrom_iff {t : Tree} (h : Wf t) (e : Nat) : ∀ (f v : Nat), v ≤ f → v < versionCount t → (isBelowFrom t e f v = true ↔ e ∈ ups t v) := by
  intro f
  induction f with
  | zero =>
    intro v hf hv
    have : v = 0 := by omega
    subst this
    show (0 == e) = true ↔ e ∈ [0]
    rw [beq_iff_eq, List.mem_singleton]
    exact eq_comm
  | succ f ih =>
    intro v hf hv
    by_cases hz : v = 0
    · subst hz
      show ((0 == e) || (decide (e < 0) && isBelowFrom t e f (t.parents.getD (0 - 1) 0))) = true ↔ e ∈ [0]
      rw [decide_eq_false (Nat.not_lt_zero e), Bool.false_and, Bool.or_false, beq_iff_eq, List.mem_singleton]
      exact eq_comm
    · have hp := h.parLt (by omega) hv
      have i1 := ih (parOf t v) (by omega) (by omega)
      have i2 := ups_le h (show parOf t v < versionCount t by omega) e
      rw [ups_pos h (by omega) hv]
      simp only [isBelowFrom, Bool.or_eq_true, Bool.and_eq_true, beq_iff_eq, decide_eq_true_eq, List.mem_cons]
      constructor
      · rintro (h1 | ⟨_, h1⟩)
        · exact .inl h1.symm
        · exact .inr (i1.mp h1)
      · rintro (h1 | h1)
        · exact .inl h1.symm
        · have := i2 h1
          exact .inr ⟨by omega, i1.mpr h1⟩
theorem isBelow_iff {t : Tree} (h : Wf t) {e v : Nat} (hv : v < versionCount t) : isBelow t e v = true ↔ e ∈ ups t v := isBelowFrom_iff h e v v (Nat.le_refl v) hv
theorem isBelow_dec {t : Tree} (h : Wf t) {e v : Nat} (hv : v < versionCount t) : isBelow t e v = decide (e ∈ ups t v) := by
  have := isBelow_iff h (e := e) hv
  by_cases q : e ∈ ups t v
  · rw [decide_eq_true q]
    exact this.mpr q
  · rw [decide_eq_false q]
    cases hb : isBelow t e v with
    | false => rfl
    | true => exact absurd (this.mp hb) q
theorem ups_lt {t : Tree} (h : Wf t) {v : Nat} (hv : v < versionCount t) {e : Nat} (he : e ∈ ups t v) : e < versionCount t := Nat.lt_of_le_of_lt (ups_le h hv e he) hv
theorem isBelow_zero {t : Tree} (h : Wf t) {v : Nat} (hv : v < versionCount t) : isBelow t 0 v = true := (isBelow_iff h hv).mpr (ups_root h hv)

/-! ### sums and distances -/
theorem foldl_add (l : List Nat) : ∀ a, l.foldl (fun a b => a + b) a = a + l.sum := by
  induction l with
  | nil => intro a; simp
  | cons x r ih =>
    intro a
    rw [List.foldl_cons, ih, List.sum_cons]
    omega
theorem sumOf_eq (l : List Nat) : sumOf l = l.sum := by
  unfold sumOf
  rw [foldl_add]
  omega
theorem mem_edges {t : Tree} {e : Nat} : e ∈ edgesOf t ↔ 1 ≤ e ∧ e < versionCount t := by
  unfold edgesOf versionCount
  simp only [List.mem_map, List.mem_range]
  constructor
  · rintro ⟨i, hi, rfl⟩
    omega
  · rintro ⟨h1, h2⟩
    exact ⟨e - 1, by omega, by omega⟩
theorem sum_filter_le {f : Nat → Nat} {p q : Nat → Bool} : ∀ (l : List Nat), (∀ e ∈ l, p e = true → q e = true) → ((l.filter p).map f).sum ≤ ((l.filter q).map f).sum := by
  intro l
  induction l with
  | nil => intro _; simp
  | cons x r ih =>
    intro h
    have hr := ih (fun e he => h e (List.mem_cons_of_mem _ he))
    have hx := h x List.mem_cons_self
    by_cases hp : p x = true
    · have hq := hx hp
      simp only [List.filter_cons, hp, hq, if_true, List.map_cons, List.sum_cons]
      omega
    · by_cases hq : q x = true
      · simp only [List.filter_cons, hp, hq, if_true, List.map_cons, List.sum_cons]
        simp
        omega
      · simp [List.filter_cons, hp, hq]
        exact hr
theorem sum_filter_lt {f : Nat → Nat} {p q : Nat → Bool} : ∀ (l : List Nat), (∀ e ∈ l, p e = true → q e = true) → (∃ e ∈ l, p e = false ∧ q e = true ∧ 1 ≤ f e) → ((l.filter p).map f).sum < ((l.filter q).map f).sum := by
  intro l
  induction l with
  | nil => rintro _ ⟨e, he, _⟩; cases he
  | cons x r ih =>
    rintro h ⟨e, he, h1, h2, h3⟩
    have hr := sum_filter_le (f := f) r (fun e he => h e (List.mem_cons_of_mem _ he))
    have hx := h x List.mem_cons_self
    rcases List.mem_cons.mp he with he | he
    · subst he
      simp only [List.filter_cons, h1, h2, if_true, List.map_cons, List.sum_cons]
      simp
      omega
    · have hr2 := ih (fun e he => h e (List.mem_cons_of_mem _ he)) ⟨e, he, h1, h2, h3⟩
      by_cases hp : p x = true
      · have hq := hx hp
        simp only [List.filter_cons, hp, hq, if_true, List.map_cons, List.sum_cons]
        omega
      · by_cases hq : q x = true
        · simp only [List.filter_cons, hp, hq, if_true, List.map_cons, List.sum_cons]
          simp
          omega
        · simp [List.filter_cons, hp, hq]
          exact hr2
theorem dist_eq (t : Tree) (v w : Nat) : distance t v w = (((edgesOf t).filter fun e => isBelow t e v != isBelow t e w).map (lengthOf t)).sum := sumOf_eq _
theorem len_pos {t : Tree} (h : Wf t) {e : Nat} (he : e ∈ edgesOf t) : 1 ≤ lengthOf t e := by
  have h1 := mem_edges.mp he
  unfold versionCount at h1
  exact h.pos (e - 1) (by rw [h.len]; omega)
/-- all three at once: the difference is twice the edges at which x is on the other side than both -/
theorem sum_three (b c d : Nat → Bool) (f : Nat → Nat) : ∀ (l : List Nat), ((l.filter fun e => b e != d e).map f).sum + ((l.filter fun e => d e != c e).map f).sum = ((l.filter fun e => b e != c e).map f).sum + 2 * ((l.filter fun e => b e == c e && b e != d e).map f).sum := by
  intro l
  induction l with
  | nil => simp
  | cons x r ih =>
    cases hb : b x <;> cases hc : c x <;> cases hd : d x <;> simp [List.filter_cons, hb, hc, hd] at ih ⊢ <;> omega
theorem sum_zero {p : Nat → Bool} {f : Nat → Nat} : ∀ (l : List Nat), (∀ e ∈ l, 1 ≤ f e) → (((l.filter p).map f).sum = 0 ↔ ∀ e ∈ l, p e = false) := by
  intro l
  induction l with
  | nil => intro _; simp
  | cons x r ih =>
    intro h
    have ih' := ih (fun e he => h e (List.mem_cons_of_mem _ he))
    have hx := h x List.mem_cons_self
    cases hp : p x with
    | true =>
      simp only [List.filter_cons, hp, if_true, List.map_cons, List.sum_cons]
      constructor
      · intro q; omega
      · intro q
        have := q x List.mem_cons_self
        rw [hp] at this
        cases this
    | false =>
      simp only [List.filter_cons, hp, List.mem_cons]
      constructor
      · intro q e he
        rcases he with rfl | he
        · exact hp
        · exact ih'.mp (by simpa using q) e he
      · intro q
        simpa using ih'.mpr (fun e he => q e (.inr he))
theorem between_iff {t : Tree} (h : Wf t) {v w x : Nat} : distance t v x + distance t x w = distance t v w ↔ ∀ e ∈ edgesOf t, isBelow t e x = isBelow t e v ∨ isBelow t e x = isBelow t e w := by
  have h3 := sum_three (fun e => isBelow t e v) (fun e => isBelow t e w) (fun e => isBelow t e x) (lengthOf t) (edgesOf t)
  have hz := sum_zero (p := fun e => isBelow t e v == isBelow t e w && isBelow t e v != isBelow t e x) (f := lengthOf t) (edgesOf t) (fun e he => len_pos h he)
  rw [dist_eq, dist_eq, dist_eq]
  constructor
  · intro q e he
    have := hz.mp (by omega) e he
    revert this
    cases isBelow t e v <;> cases isBelow t e w <;> cases isBelow t e x <;> simp
  · intro q
    have := hz.mpr (fun e he => by
      have := q e he
      revert this
      cases isBelow t e v <;> cases isBelow t e w <;> cases isBelow t e x <;> simp)
    omega
theorem dist_lt {t : Tree} (h : Wf t) {v x y : Nat} (h1 : ∀ e ∈ edgesOf t, isBelow t e v ≠ isBelow t e x → isBelow t e v ≠ isBelow t e y) (h2 : ∃ e ∈ edgesOf t, isBelow t e v = isBelow t e x ∧ isBelow t e v ≠ isBelow t e y) : distance t v x < distance t v y := by
  rw [dist_eq, dist_eq]
  obtain ⟨e, he, q1, q2⟩ := h2
  exact sum_filter_lt _ (fun e he q => by simpa using h1 e he (by simpa using q)) ⟨e, he, by simpa using q1, by simpa using q2, len_pos h he⟩

/-! ### the way between two versions -/
def way (t : Tree) (v w : Nat) : List Nat := ((ups t v).filter fun x => !(decide (x ∈ ups t w))) ++ ((ups t v).filter fun x => decide (x ∈ ups t w)).take 1 ++ ((ups t w).filter fun x => !(decide (x ∈ ups t v))).reverse
section
variable {t : Tree} {v w : Nat}
/-- the first shared one -/
theorem shared_one (h : Wf t) (hv : v < versionCount t) (hw : w < versionCount t) : ∃ m, ((ups t v).filter fun x => decide (x ∈ ups t w)).take 1 = [m] ∧ m ∈ ups t v ∧ m ∈ ups t w ∧ ∀ x, x ∈ ups t v → x ∈ ups t w → x ∈ ups t m := by
  have hp := (ups_pair h hv).filter (fun x => decide (x ∈ ups t w))
  have h0 : 0 ∈ (ups t v).filter fun x => decide (x ∈ ups t w) := List.mem_filter.mpr ⟨ups_root h hv, by simpa using ups_root h hw⟩
  cases hl : (ups t v).filter fun x => decide (x ∈ ups t w) with
  | nil => rw [hl] at h0; cases h0
  | cons m r =>
    rw [hl] at hp
    have hm : m ∈ (ups t v).filter fun x => decide (x ∈ ups t w) := by rw [hl]; exact List.mem_cons_self
    obtain ⟨m1, m2⟩ := List.mem_filter.mp hm
    have m2' : m ∈ ups t w := by simpa using m2
    refine ⟨m, by simp, m1, m2', fun x hx hx' => ?_⟩
    have hxl : x ∈ (ups t v).filter fun x => decide (x ∈ ups t w) := List.mem_filter.mpr ⟨hx, by simpa using hx'⟩
    rw [hl] at hxl
    rcases List.mem_cons.mp hxl with e | e
    · subst e
      exact ups_self h (ups_lt h hv m1)
    · exact ((List.pairwise_cons.mp hp).1 x e).1
/-- what stands ahead in the chain of v has all that is shared above it -/
theorem above_shared (h : Wf t) (hv : v < versionCount t) (hw : w < versionCount t) {x : Nat} (hx : x ∈ ups t v) (hn : x ∉ ups t w) : ∀ e, e ∈ ups t v → e ∈ ups t w → e ∈ ups t x := by
  intro e h1 h2
  rcases ups_chain h hv x e hx h1 with q | q
  · exact absurd (ups_trans h hw e h2 x q) hn
  · exact q
theorem mem_way (h : Wf t) (hv : v < versionCount t) (hw : w < versionCount t) {x : Nat} : x ∈ way t v w ↔ x < versionCount t ∧ distance t v x + distance t x w = distance t v w := by
  obtain ⟨m, e1, m1, m2, m3⟩ := shared_one h hv hw
  unfold way
  rw [e1]
  simp only [List.mem_append, List.mem_filter, List.mem_singleton, List.mem_reverse, Bool.not_eq_true', decide_eq_false_iff_not]
  rw [between_iff h]
  constructor
  · intro q
    have key : x < versionCount t ∧ (∀ e, e ∈ ups t x → e ∈ ups t v ∨ e ∈ ups t w) ∧ (∀ e, e ∈ ups t v → e ∈ ups t w → e ∈ ups t x) := by
      rcases q with (⟨q1, q2⟩ | q) | ⟨q1, q2⟩
      · exact ⟨ups_lt h hv q1, fun e he => .inl (ups_trans h hv x q1 e he), above_shared h hv hw q1 q2⟩
      · subst q
        exact ⟨ups_lt h hv m1, fun e he => .inl (ups_trans h hv x m1 e he), m3⟩
      · exact ⟨ups_lt h hw q1, fun e he => .inr (ups_trans h hw x q1 e he), fun e h1 h2 => above_shared h hw hv q1 q2 e h2 h1⟩
    obtain ⟨k1, k2, k3⟩ := key
    refine ⟨k1, fun e _ => ?_⟩
    rw [isBelow_dec h k1, isBelow_dec h hv, isBelow_dec h hw]
    have := k2 e
    have := k3 e
    by_cases a : e ∈ ups t x <;> by_cases b : e ∈ ups t v <;> by_cases c : e ∈ ups t w <;> simp_all
  · rintro ⟨k1, k⟩
    have k' : ∀ e, e ∈ edgesOf t → (e ∈ ups t x → e ∈ ups t v ∨ e ∈ ups t w) ∧ (e ∈ ups t v → e ∈ ups t w → e ∈ ups t x) := by
      intro e he
      have := k e he
      rw [isBelow_dec h k1, isBelow_dec h hv, isBelow_dec h hw] at this
      by_cases a : e ∈ ups t x <;> by_cases b : e ∈ ups t v <;> by_cases c : e ∈ ups t w <;> simp_all
    have xs := ups_self h k1
    have hx : x ∈ ups t v ∨ x ∈ ups t w := by
      by_cases hz : x = 0
      · subst hz
        exact .inl (ups_root h hv)
      · exact (k' x (mem_edges.mpr ⟨by omega, k1⟩)).1 xs
    by_cases a : x ∈ ups t v
    · by_cases b : x ∈ ups t w
      · refine .inl (.inr ?_)
        have l1 := ups_le h (ups_lt h hv m1) x (m3 x a b)
        by_cases hz : m = 0
        · omega
        · have hm := (k' m (mem_edges.mpr ⟨by omega, ups_lt h hv m1⟩)).2 m1 m2
          have l2 := ups_le h k1 m hm
          omega
      · exact .inl (.inl ⟨a, b⟩)
    · rcases hx with hx | hx
      · exact absurd hx a
      · exact .inr ⟨hx, a⟩
theorem way_sorted (h : Wf t) (hv : v < versionCount t) (hw : w < versionCount t) : (way t v w).Pairwise (fun x y => distance t v x < distance t v y) := by
  obtain ⟨m, e1, m1, m2, m3⟩ := shared_one h hv hw
  unfold way
  rw [e1]
  -- one: both in the chain of v
  have one : ∀ x y, x ∈ ups t v → y ∈ ups t x → y < x → distance t v x < distance t v y := by
    intro x y hx hy hlt
    have lx := ups_lt h hv hx
    have ly := ups_lt h lx hy
    refine dist_lt h (fun e he q => ?_) ⟨x, mem_edges.mpr ⟨by omega, lx⟩, ?_, ?_⟩
    · rw [isBelow_dec h hv, isBelow_dec h lx] at q
      rw [isBelow_dec h hv, isBelow_dec h ly]
      have a1 := ups_trans h hv x hx e
      have a2 := ups_trans h lx y hy e
      by_cases a : e ∈ ups t x <;> by_cases b : e ∈ ups t v <;> by_cases c : e ∈ ups t y <;> simp_all
    · rw [isBelow_dec h hv, isBelow_dec h lx]
      simp [hx, ups_self h lx]
    · rw [isBelow_dec h hv, isBelow_dec h ly]
      have : x ∉ ups t y := fun q => by have := ups_le h ly x q; omega
      simp [hx, this]
  -- two: x in the chain of v with all that is shared above it, y only in that of w
  have two : ∀ x y, x ∈ ups t v → (∀ e, e ∈ ups t v → e ∈ ups t w → e ∈ ups t x) → y ∈ ups t w → y ∉ ups t v → distance t v x < distance t v y := by
    intro x y hx hs hy hny
    have lx := ups_lt h hv hx
    have ly := ups_lt h hw hy
    have y0 : y ≠ 0 := fun q => hny (q ▸ ups_root h hv)
    refine dist_lt h (fun e he q => ?_) ⟨y, mem_edges.mpr ⟨by omega, ly⟩, ?_, ?_⟩
    · rw [isBelow_dec h hv, isBelow_dec h lx] at q
      rw [isBelow_dec h hv, isBelow_dec h ly]
      have a1 := ups_trans h hv x hx e
      have a2 := ups_trans h hw y hy e
      have a3 := hs e
      by_cases a : e ∈ ups t x <;> by_cases b : e ∈ ups t v <;> by_cases c : e ∈ ups t y <;> by_cases d : e ∈ ups t w <;> simp_all
    · rw [isBelow_dec h hv, isBelow_dec h lx]
      have : y ∉ ups t x := fun q => hny (ups_trans h hv x hx y q)
      simp [hny, this]
    · rw [isBelow_dec h hv, isBelow_dec h ly]
      simp [hny, ups_self h ly]
  -- three: both only in the chain of w
  have three : ∀ y z, z ∈ ups t w → y ∈ ups t z → y < z → y ∉ ups t v → z ∉ ups t v → distance t v y < distance t v z := by
    intro y z hz hy hlt ny nz
    have lz := ups_lt h hw hz
    have ly := ups_lt h lz hy
    have yw := ups_trans h hw z hz y hy
    refine dist_lt h (fun e he q => ?_) ⟨z, mem_edges.mpr ⟨by omega, lz⟩, ?_, ?_⟩
    · rw [isBelow_dec h hv, isBelow_dec h ly] at q
      rw [isBelow_dec h hv, isBelow_dec h lz]
      have a1 := ups_trans h hw z hz e
      have a2 := ups_trans h lz y hy e
      have a3 := above_shared h hw hv yw ny e
      by_cases a : e ∈ ups t y <;> by_cases b : e ∈ ups t v <;> by_cases c : e ∈ ups t z <;> by_cases d : e ∈ ups t w <;> simp_all
    · rw [isBelow_dec h hv, isBelow_dec h ly]
      have : z ∉ ups t y := fun q => by have := ups_le h ly z q; omega
      simp [nz, this]
    · rw [isBelow_dec h hv, isBelow_dec h lz]
      simp [nz, ups_self h lz]
  refine List.pairwise_append.mpr ⟨List.pairwise_append.mpr ⟨?_, List.pairwise_singleton _ _, ?_⟩, ?_, ?_⟩
  · refine List.Pairwise.imp_of_mem (fun {x y} hx hy q => ?_) ((ups_pair h hv).filter _)
    exact one x y (List.mem_filter.mp hx).1 q.1 q.2
  · intro x hx y hy
    have : y = m := by simpa using hy
    subst this
    obtain ⟨x1, x2⟩ := List.mem_filter.mp hx
    have x2' : x ∉ ups t w := by simpa using x2
    have hyx := above_shared h hv hw x1 x2' y m1 m2
    refine one x y x1 hyx ?_
    have := ups_le h (ups_lt h hv x1) y hyx
    have : y ≠ x := fun q => x2' (q ▸ m2)
    omega
  · rw [List.pairwise_reverse]
    refine List.Pairwise.imp_of_mem (fun {z y} hz hy q => ?_) ((ups_pair h hw).filter _)
    obtain ⟨z1, z2⟩ := List.mem_filter.mp hz
    obtain ⟨y1, y2⟩ := List.mem_filter.mp hy
    exact three y z z1 q.1 q.2 (by simpa using y2) (by simpa using z2)
  · intro x hx y hy
    obtain ⟨y1, y2⟩ := List.mem_filter.mp (List.mem_reverse.mp hy)
    have y2' : y ∉ ups t v := by simpa using y2
    rcases List.mem_append.mp hx with hx | hx
    · obtain ⟨x1, x2⟩ := List.mem_filter.mp hx
      exact two x y x1 (above_shared h hv hw x1 (by simpa using x2)) y1 y2'
    · have : x = m := by simpa using hx
      subst this
      exact two x y m1 m3 y1 y2'
end
/-! ### sorted by a key: one list alone -/
theorem mem_insertBy {k : Nat → Nat} {x z : Nat} : ∀ {l : List Nat}, z ∈ insertBy k x l ↔ z = x ∨ z ∈ l := by
  intro l
  induction l with
  | nil => simp [insertBy]
  | cons y r ih =>
    unfold insertBy
    split
    · simp
    · simp only [List.mem_cons, ih]
      constructor
      · rintro (h | h | h) <;> simp [h]
      · rintro (h | h | h) <;> simp [h]
theorem insertBy_sorted {k : Nat → Nat} {x : Nat} : ∀ {l : List Nat}, l.Pairwise (fun a b => k a < k b) → (∀ y ∈ l, k y ≠ k x) → (insertBy k x l).Pairwise (fun a b => k a < k b) := by
  intro l
  induction l with
  | nil => intro _ _; simp [insertBy]
  | cons y r ih =>
    intro h hn
    obtain ⟨h1, h2⟩ := List.pairwise_cons.mp h
    unfold insertBy
    split
    · rename_i hlt
      refine List.pairwise_cons.mpr ⟨fun z hz => ?_, h⟩
      rcases List.mem_cons.mp hz with e | e
      · subst e; exact hlt
      · exact Nat.lt_trans hlt (h1 z e)
    · rename_i hlt
      refine List.pairwise_cons.mpr ⟨fun z hz => ?_, ih h2 (fun y hy => hn y (List.mem_cons_of_mem _ hy))⟩
      rcases mem_insertBy.mp hz with e | e
      · subst e
        have := hn y List.mem_cons_self
        omega
      · exact h1 z e
theorem foldl_insertBy {k : Nat → Nat} : ∀ (l acc : List Nat), acc.Pairwise (fun a b => k a < k b) → l.Nodup → (∀ x ∈ l, ∀ y ∈ l, k x = k y → x = y) → (∀ x ∈ l, ∀ y ∈ acc, k y ≠ k x) →
    (l.foldl (fun l x => insertBy k x l) acc).Pairwise (fun a b => k a < k b) ∧ ∀ z, z ∈ l.foldl (fun l x => insertBy k x l) acc ↔ z ∈ l ∨ z ∈ acc := by
  intro l
  induction l with
  | nil => intro acc h _ _ _; exact ⟨h, fun z => by simp⟩
  | cons x r ih =>
    intro acc h hnd hinj hd
    obtain ⟨n1, n2⟩ := List.nodup_cons.mp hnd
    rw [List.foldl_cons]
    obtain ⟨a, b⟩ := ih (insertBy k x acc) (insertBy_sorted h (hd x List.mem_cons_self)) n2 (fun x hx y hy => hinj x (List.mem_cons_of_mem _ hx) y (List.mem_cons_of_mem _ hy)) (fun z hz y hy => by
      rcases mem_insertBy.mp hy with e | e
      · subst e
        intro q
        have := hinj y List.mem_cons_self z (List.mem_cons_of_mem _ hz) q
        subst this
        exact n1 hz
      · exact hd z (List.mem_cons_of_mem _ hz) y e)
    refine ⟨a, fun z => ?_⟩
    rw [b z, mem_insertBy, List.mem_cons]
    constructor
    · rintro (q | q | q) <;> simp [q]
    · rintro ((q | q) | q) <;> simp [q]
theorem sorted_one {k : Nat → Nat} : ∀ (l1 l2 : List Nat), l1.Pairwise (fun a b => k a < k b) → l2.Pairwise (fun a b => k a < k b) → (∀ z, z ∈ l1 ↔ z ∈ l2) → l1 = l2 := by
  intro l1
  induction l1 with
  | nil =>
    intro l2 _ _ h
    cases l2 with
    | nil => rfl
    | cons y r => exact absurd ((h y).mpr List.mem_cons_self) (by simp)
  | cons x r ih =>
    intro l2 h1 h2 h
    cases l2 with
    | nil => exact absurd ((h x).mp List.mem_cons_self) (by simp)
    | cons y r2 =>
      obtain ⟨a1, a2⟩ := List.pairwise_cons.mp h1
      obtain ⟨b1, b2⟩ := List.pairwise_cons.mp h2
      have e : x = y := by
        rcases List.mem_cons.mp ((h x).mp List.mem_cons_self) with e | e
        · exact e
        · rcases List.mem_cons.mp ((h y).mpr List.mem_cons_self) with e' | e'
          · exact e'.symm
          · have := a1 y e'
            have := b1 x e
            omega
      subst e
      rw [ih r2 a2 b2 (fun z => ?_)]
      constructor
      · intro hz
        rcases List.mem_cons.mp ((h z).mp (List.mem_cons_of_mem _ hz)) with e | e
        · subst e
          exact absurd (a1 z hz) (Nat.lt_irrefl _)
        · exact e
      · intro hz
        rcases List.mem_cons.mp ((h z).mpr (List.mem_cons_of_mem _ hz)) with e | e
        · subst e
          exact absurd (b1 z hz) (Nat.lt_irrefl _)
        · exact e
theorem pathOf_eq {t : Tree} {v w : Nat} (h : Wf t) (hv : v < versionCount t) (hw : w < versionCount t) : pathOf t v w = way t v w := by
  have mw := @mem_way t v w h hv hw
  have sw := way_sorted h hv hw
  have inj : ∀ x y, x ∈ way t v w → y ∈ way t v w → distance t v x = distance t v y → x = y := by
    intro x y hx hy e
    rcases List.pairwise_iff_forall_sublist.mp sw with _
    by_cases q : x = y
    · exact q
    · have := List.Pairwise.forall_of_forall_of_flip (R := fun a b => a = b ∨ distance t v a ≠ distance t v b) (l := way t v w) (fun x _ => .inl rfl) (sw.imp fun {a b} h => .inr (Nat.ne_of_lt h)) (sw.imp fun {a b} h => .inr (Nat.ne_of_gt h))
      rcases this hx hy with e' | e'
      · exact e'
      · exact absurd e e'
  unfold pathOf
  have memf : ∀ x, x ∈ (List.range (versionCount t)).filter (fun x => distance t v x + distance t x w == distance t v w) ↔ x ∈ way t v w := by
    intro x
    rw [mw, List.mem_filter, List.mem_range]
    simp
  obtain ⟨a, b⟩ := foldl_insertBy (k := distance t v) ((List.range (versionCount t)).filter (fun x => distance t v x + distance t x w == distance t v w)) [] List.Pairwise.nil (List.nodup_range.filter _)
    (fun x hx y hy e => inj x y ((memf x).mp hx) ((memf y).mp hy) e) (fun _ _ _ h => by cases h)
  exact sorted_one _ _ a sw (fun z => by rw [b z, memf z]; simp)
end Hm
end
section
set_option autoImplicit false
set_option linter.all false
namespace Hm
open Vbjtah

/-! ### counters and marks -/
def mkAt (ms : List Mark) (e : Nat) : Mark := ms.getD (e - 1) ⟨0, false⟩
structure MarksOk (t : Tree) (F : Nat) (ms : List Mark) : Prop where
  len : ms.length = t.parents.length
  rng : ∀ e ∈ edgesOf t, -(F : Int) ≤ (mkAt ms e).counter ∧ (mkAt ms e).counter ≤ (F : Int)
  sub : ∀ e ∈ edgesOf t, ∀ f ∈ edgesOf t, f ∈ ups t e → (mkAt ms e).counter ≤ (mkAt ms f).counter ∧ ((mkAt ms e).isLower = true → (mkAt ms f).isLower = true)
  dis : ∀ e ∈ edgesOf t, ∀ f ∈ edgesOf t, f ∉ ups t e → e ∉ ups t f → (mkAt ms e).counter + (mkAt ms f).counter ≤ 0 ∧ ¬ ((mkAt ms e).isLower = true ∧ (mkAt ms f).isLower = true)
theorem edges_get {t : Tree} {i : Nat} (h : i < t.parents.length) : (edgesOf t)[i]? = some (i + 1) := by
  unfold edgesOf
  rw [List.getElem?_map, List.getElem?_range h]
  rfl
theorem edges_len (t : Tree) : (edgesOf t).length = t.parents.length := by
  unfold edgesOf
  rw [List.length_map, List.length_range]
theorem mkAt_map {t : Tree} {g : Nat → Mark} {e : Nat} (he : e ∈ edgesOf t) : mkAt ((edgesOf t).map g) e = g e := by
  obtain ⟨h1, h2⟩ := mem_edges.mp he
  unfold versionCount at h2
  unfold mkAt
  rw [List.getD_eq_getElem?_getD, List.getElem?_map, edges_get (by omega)]
  show g (e - 1 + 1) = g e
  rw [show e - 1 + 1 = e by omega]
theorem zip_marks {t : Tree} {ms : List Mark} (hl : ms.length = t.parents.length) : (edgesOf t).zip ms = (edgesOf t).map fun e => (e, mkAt ms e) := by
  apply List.ext_getElem?
  intro i
  rw [List.zip_eq_zipWith, List.getElem?_zipWith, List.getElem?_map]
  by_cases hi : i < t.parents.length
  · rw [edges_get hi, List.getElem?_eq_getElem (by omega : i < ms.length)]
    show some (i + 1, ms[i]) = some (i + 1, mkAt ms (i + 1))
    unfold mkAt
    rw [List.getD_eq_getElem?_getD, show i + 1 - 1 = i by omega, List.getElem?_eq_getElem (by omega : i < ms.length)]
    rfl
  · rw [List.getElem?_eq_none (by rw [edges_len]; omega)]
    rfl
theorem usedMarks_eq {t : Tree} {F v : Nat} {ms : List Mark} (hl : ms.length = t.parents.length) : usedMarks t F v ms = (edgesOf t).map fun e => usedMark F (isBelow t e v) (mkAt ms e) := by
  unfold usedMarks
  rw [zip_marks hl, List.map_map]
  rfl
theorem usedMark_c (F : Nat) (b : Bool) (m : Mark) : (usedMark F b m).counter = if b = true then min (F : Int) (m.counter + 1) else max (-(F : Int)) (m.counter - 1) := rfl
theorem usedMark_l (F : Nat) (b : Bool) (m : Mark) : (usedMark F b m).isLower = if (usedMark F b m).counter = (F : Int) then true else if (usedMark F b m).counter = -(F : Int) then false else m.isLower := rfl
theorem start_ok {t : Tree} {F h : Nat} (w : Wf t) (hF : 1 ≤ F) (hh : h < versionCount t) : MarksOk t F (startMarks t F h) := by
  have at_ : ∀ e ∈ edgesOf t, mkAt (startMarks t F h) e = startMark t F h e := fun e he => mkAt_map he
  have c_ : ∀ e, (startMark t F h e).counter = if e ∈ ups t h then (F : Int) else -(F : Int) := by
    intro e
    unfold startMark
    by_cases q : e ∈ ups t h
    · rw [if_pos ((isBelow_iff w hh).mpr q), if_pos q]
    · rw [if_neg (fun z => q ((isBelow_iff w hh).mp z)), if_neg q]
  have l_ : ∀ e, (startMark t F h e).isLower = true ↔ e ∈ ups t h := by
    intro e
    unfold startMark
    by_cases q : e ∈ ups t h
    · rw [if_pos ((isBelow_iff w hh).mpr q)]
      simp [q]
    · rw [if_neg (fun z => q ((isBelow_iff w hh).mp z))]
      simp [q]
  refine ⟨?_, fun e he => ?_, fun e he f hf hef => ?_, fun e he f hf h1 h2 => ?_⟩
  · unfold startMarks
    rw [List.length_map, edges_len]
  · rw [at_ e he, c_]
    split <;> omega
  · rw [at_ e he, at_ f hf, c_, c_]
    have tr : e ∈ ups t h → f ∈ ups t h := fun q => ups_trans w hh e q f hef
    refine ⟨?_, fun q => (l_ f).mpr (tr ((l_ e).mp q))⟩
    by_cases q : e ∈ ups t h
    · rw [if_pos q, if_pos (tr q)]
      exact Int.le_refl _
    · rw [if_neg q]
      split <;> omega
  · rw [at_ e he, at_ f hf, c_, c_]
    have nb : ¬ (e ∈ ups t h ∧ f ∈ ups t h) := fun q => by
      rcases ups_chain w hh e f q.1 q.2 with z | z
      · exact h2 z
      · exact h1 z
    refine ⟨?_, fun q => nb ⟨(l_ e).mp q.1, (l_ f).mp q.2⟩⟩
    by_cases q : e ∈ ups t h
    · rw [if_pos q, if_neg (fun z => nb ⟨q, z⟩)]
      omega
    · rw [if_neg q]
      split <;> omega
theorem used_ok {t : Tree} {F v : Nat} {ms : List Mark} (w : Wf t) (hF : 1 ≤ F) (hv : v < versionCount t) (ok : MarksOk t F ms) : MarksOk t F (usedMarks t F v ms) := by
  rw [usedMarks_eq ok.len]
  have at_ : ∀ e ∈ edgesOf t, mkAt ((edgesOf t).map fun e => usedMark F (isBelow t e v) (mkAt ms e)) e = usedMark F (isBelow t e v) (mkAt ms e) := fun e he => mkAt_map he
  have rg : ∀ e ∈ edgesOf t, -(F : Int) ≤ (usedMark F (isBelow t e v) (mkAt ms e)).counter ∧ (usedMark F (isBelow t e v) (mkAt ms e)).counter ≤ (F : Int) := by
    intro e he
    have := ok.rng e he
    rw [usedMark_c]
    split <;> omega
  refine ⟨?_, fun e he => ?_, fun e he f hf hef => ?_, fun e he f hf h1 h2 => ?_⟩
  · rw [List.length_map, edges_len]
  · rw [at_ e he]
    exact rg e he
  · rw [at_ e he, at_ f hf]
    obtain ⟨o1, o2⟩ := ok.sub e he f hf hef
    have r1 := ok.rng e he
    have r2 := ok.rng f hf
    have re := rg e he
    have rf := rg f hf
    have tr : isBelow t e v = true → isBelow t f v = true := fun q => (isBelow_iff w hv).mpr (ups_trans w hv e ((isBelow_iff w hv).mp q) f hef)
    have c1 : (usedMark F (isBelow t e v) (mkAt ms e)).counter ≤ (usedMark F (isBelow t f v) (mkAt ms f)).counter := by
      rw [usedMark_c, usedMark_c]
      by_cases a : isBelow t e v = true
      · rw [if_pos a, if_pos (tr a)]
        omega
      · rw [if_neg a]
        split <;> omega
    refine ⟨c1, ?_⟩
    rw [usedMark_l, usedMark_l]
    generalize (usedMark F (isBelow t e v) (mkAt ms e)).counter = ce at *
    generalize (usedMark F (isBelow t f v) (mkAt ms f)).counter = cf at *
    intro q
    by_cases a : ce = (F : Int)
    · rw [if_pos (by omega)]
    · rw [if_neg a] at q
      by_cases b : ce = -(F : Int)
      · rw [if_pos b] at q
        cases q
      · rw [if_neg b] at q
        have := o2 q
        by_cases c : cf = (F : Int)
        · rw [if_pos c]
        · rw [if_neg c, if_neg (by omega)]
          exact this
  · rw [at_ e he, at_ f hf]
    obtain ⟨o1, o2⟩ := ok.dis e he f hf h1 h2
    have r1 := ok.rng e he
    have r2 := ok.rng f hf
    have re := rg e he
    have rf := rg f hf
    have nb : ¬ (isBelow t e v = true ∧ isBelow t f v = true) := fun q => by
      rcases ups_chain w hv e f ((isBelow_iff w hv).mp q.1) ((isBelow_iff w hv).mp q.2) with z | z
      · exact h2 z
      · exact h1 z
    have c1 : (usedMark F (isBelow t e v) (mkAt ms e)).counter + (usedMark F (isBelow t f v) (mkAt ms f)).counter ≤ 0 := by
      rw [usedMark_c, usedMark_c]
      by_cases a : isBelow t e v = true
      · rw [if_pos a, if_neg (fun z => nb ⟨a, z⟩)]
        omega
      · rw [if_neg a]
        split <;> omega
    refine ⟨c1, ?_⟩
    rw [usedMark_l, usedMark_l]
    generalize (usedMark F (isBelow t e v) (mkAt ms e)).counter = ce at *
    generalize (usedMark F (isBelow t f v) (mkAt ms f)).counter = cf at *
    rintro ⟨q1, q2⟩
    by_cases a : ce = (F : Int)
    · rw [if_neg (by omega), if_pos (by omega)] at q2
      cases q2
    · by_cases c : cf = (F : Int)
      · rw [if_neg (by omega), if_pos (by omega)] at q1
        cases q1
      · rw [if_neg a] at q1
        rw [if_neg c] at q2
        split at q1
        · cases q1
        · split at q2
          · cases q2
          · exact o2 ⟨q1, q2⟩
/-- the greatest of some numbers -/
theorem greatest {P : Nat → Prop} [DecidablePred P] : ∀ (n : Nat), (∃ e, e < n ∧ P e) → ∃ v, v < n ∧ P v ∧ ∀ e, e < n → P e → e ≤ v := by
  intro n
  induction n with
  | zero => rintro ⟨e, he, _⟩; omega
  | succ n ih =>
    rintro ⟨e, he, hp⟩
    by_cases q : P n
    · exact ⟨n, by omega, q, fun e he _ => by omega⟩
    · obtain ⟨v, a, b, c⟩ := ih ⟨e, by
        have : e ≠ n := fun z => q (z ▸ hp)
        omega, hp⟩
      refine ⟨v, by omega, b, fun e he hp => ?_⟩
      have : e ≠ n := fun z => q (z ▸ hp)
      exact c e (by omega) hp
theorem marked_one {t : Tree} {F : Nat} {ms : List Mark} (w : Wf t) (ok : MarksOk t F ms) : ∃ v, v < versionCount t ∧ ∀ e ∈ edgesOf t, isBelow t e v = (mkAt ms e).isLower := by
  by_cases q : ∃ e, e < versionCount t ∧ (1 ≤ e ∧ (mkAt ms e).isLower = true)
  · obtain ⟨v, a, ⟨b1, b2⟩, c⟩ := greatest (P := fun e => 1 ≤ e ∧ (mkAt ms e).isLower = true) (versionCount t) q
    refine ⟨v, a, fun e he => ?_⟩
    have hv : v ∈ edgesOf t := mem_edges.mpr ⟨b1, a⟩
    obtain ⟨e1, e2⟩ := mem_edges.mp he
    cases hl : (mkAt ms e).isLower with
    | true =>
      refine (isBelow_iff w a).mpr ?_
      by_cases z : e ∈ ups t v
      · exact z
      · by_cases y : v ∈ ups t e
        · have l1 := ups_le w e2 v y
          have l2 := c e e2 ⟨e1, hl⟩
          have : e = v := by omega
          subst this
          exact ups_self w a
        · exact absurd ⟨b2, hl⟩ (ok.dis v hv e he z y).2
    | false =>
      rw [isBelow_dec w a]
      refine decide_eq_false fun z => ?_
      have := (ok.sub v hv e he z).2 b2
      rw [hl] at this
      cases this
  · refine ⟨0, by unfold versionCount; omega, fun e he => ?_⟩
    obtain ⟨e1, e2⟩ := mem_edges.mp he
    have h0 : isBelow t e 0 = false := by
      rw [isBelow_dec w (by unfold versionCount; omega)]
      exact decide_eq_false fun z => by
        rw [ups_zero] at z
        simp at z
        omega
    rw [h0]
    cases hl : (mkAt ms e).isLower with
    | false => rfl
    | true => exact absurd ⟨e, e2, e1, hl⟩ q
/-- whether a version is on the marked side of every edge -/
def isHome (t : Tree) (ms : List Mark) (v : Nat) : Bool := (edgesOf t).all fun e => isBelow t e v == (mkAt ms e).isLower
theorem homeOf_eq {t : Tree} {ms : List Mark} (hl : ms.length = t.parents.length) : homeOf t ms = ((List.range (versionCount t)).find? (isHome t ms)).getD 0 := by
  unfold homeOf isHome
  rw [zip_marks hl]
  congr 2
  funext v
  rw [List.all_map]
  rfl
theorem home_head {t : Tree} {F : Nat} {ms : List Mark} (w : Wf t) (ok : MarksOk t F ms) : ((List.range (versionCount t)).filter (isHome t ms))[0]? = some (homeOf t ms) ∧ homeOf t ms < versionCount t := by
  obtain ⟨v, hv, he⟩ := marked_one w ok
  rw [homeOf_eq ok.len, ← List.head?_eq_getElem?, List.head?_filter]
  have hm : isHome t ms v = true := by
    unfold isHome
    rw [List.all_eq_true]
    intro e h
    rw [he e h]
    exact beq_self_eq_true _
  cases hf : (List.range (versionCount t)).find? (isHome t ms) with
  | none =>
    have := List.find?_eq_none.mp hf v (List.mem_range.mpr hv)
    exact absurd hm this
  | some u =>
    exact ⟨rfl, List.mem_range.mp (List.mem_of_find?_eq_some hf)⟩
end Hm
end
section
set_option autoImplicit false
set_option linter.all false
namespace Hm
open Vbjtah

/-! ### homes within limits, and prices that prove them cheapest. c: what a row costs in a version; L: the limits -/
def load (h : List Nat) (v : Nat) : Nat := h.countP fun u => u == v
theorem loadOf_eq (h : List Nat) (v : Nat) : loadOf h v = load h v := by
  unfold loadOf load
  rw [List.countP_eq_length_filter]
/-- the cost of homes, the first row's number being i -/
def costFrom (c : Nat → Nat → Int) : Nat → List Nat → Int
  | _, [] => 0
  | i, v :: r => c i v + costFrom c (i + 1) r
structure Fits (n : Nat) (L : Nat → Nat) (h : List Nat) : Prop where
  lt : ∀ v ∈ h, v < n
  fit : ∀ v, v < n → load h v ≤ L v
structure Cert (n : Nat) (c : Nat → Nat → Int) (L : Nat → Nat) (h : List Nat) (p : Nat → Int) : Prop where
  fits : Fits n L h
  nn : ∀ v, v < n → 0 ≤ p v
  full : ∀ v, v < n → 0 < p v → L v ≤ load h v
  happy : ∀ x v, h[x]? = some v → ∀ w, w < n → 0 < L w → c x v + p v ≤ c x w + p w
def psum (n : Nat) (f : Nat → Int) : Int := ((List.range n).map f).sum
theorem psum_le {n : Nat} {f g : Nat → Int} (h : ∀ v, v < n → f v ≤ g v) : psum n f ≤ psum n g := by
  unfold psum
  induction n with
  | zero => simp
  | succ n ih =>
    rw [List.range_succ, List.map_append, List.map_append, List.sum_append, List.sum_append]
    have := ih (fun v hv => h v (by omega))
    have := h n (by omega)
    simp
    omega
theorem psum_succ {n : Nat} {f : Nat → Int} : psum (n + 1) f = psum n f + f n := by
  unfold psum
  rw [List.range_succ, List.map_append, List.sum_append]
  simp
theorem psum_one {n : Nat} {u : Nat} {p : Nat → Int} {f g : Nat → Int} (hu : u < n) (h : ∀ v, f v = g v + if u = v then p v else 0) : psum n f = psum n g + p u := by
  have key : ∀ m, psum m f = psum m g + if u < m then p u else 0 := by
    intro m
    induction m with
    | zero => simp [psum]
    | succ m ih =>
      rw [psum_succ, psum_succ, ih, h m]
      by_cases a : u = m
      · subst a
        rw [if_neg (by omega), if_pos rfl, if_pos (by omega)]
        omega
      · rw [if_neg a]
        by_cases b : u < m
        · rw [if_pos b, if_pos (by omega)]
          omega
        · rw [if_neg b, if_neg (by omega)]
          omega
  rw [key n, if_pos hu]
theorem load_cons (u : Nat) (r : List Nat) (v : Nat) : load (u :: r) v = load r v + if u = v then 1 else 0 := by
  unfold load
  rw [List.countP_cons]
  by_cases a : u = v
  · subst a; simp
  · simp [a]
theorem load_append (a b : List Nat) (v : Nat) : load (a ++ b) v = load a v + load b v := List.countP_append
/-- what the homes' prices come to, version by version -/
theorem price_sum {n : Nat} {p : Nat → Int} : ∀ (h : List Nat), (∀ v ∈ h, v < n) → (h.map p).sum = psum n fun v => (load h v : Int) * p v := by
  intro h
  induction h with
  | nil =>
    intro _
    have : ∀ m, psum m (fun v => (load [] v : Int) * p v) = 0 := by
      intro m
      induction m with
      | zero => rfl
      | succ m ih => rw [psum_succ, ih]; simp [load]
    rw [this n]
    rfl
  | cons u r ih =>
    intro hl
    have e := ih (fun v hv => hl v (List.mem_cons_of_mem _ hv))
    have q := psum_one (u := u) (p := p) (f := fun v => (load (u :: r) v : Int) * p v) (g := fun v => (load r v : Int) * p v) (hl u List.mem_cons_self) ?_
    · rw [List.map_cons, List.sum_cons, e, q]
      exact Int.add_comm _ _
    · intro v
      show (load (u :: r) v : Int) * p v = (load r v : Int) * p v + if u = v then p v else 0
      rw [load_cons]
      by_cases a : u = v
      · subst a
        rw [if_pos rfl, if_pos rfl]
        simp [Int.add_mul]
      · rw [if_neg a, if_neg a]
        simp
theorem costFrom_le {n : Nat} {c : Nat → Nat → Int} {L : Nat → Nat} {p : Nat → Int} : ∀ (h g : List Nat) (i : Nat), h.length = g.length → (∀ v ∈ g, v < n ∧ 0 < L v) → (∀ x v, h[x]? = some v → ∀ w, w < n → 0 < L w → c (i + x) v + p v ≤ c (i + x) w + p w) →
    costFrom c i h + (h.map p).sum ≤ costFrom c i g + (g.map p).sum := by
  intro h
  induction h with
  | nil =>
    intro g i hl _ _
    cases g with
    | nil => exact Int.le_refl _
    | cons _ _ => simp at hl
  | cons u r ih =>
    intro g i hl hg hh
    cases g with
    | nil => simp at hl
    | cons w s =>
      have e := ih s (i + 1) (by simpa using hl) (fun v hv => hg v (List.mem_cons_of_mem _ hv)) (fun x v hx w hw hw' => by
        have := hh (x + 1) v (by simpa using hx) w hw hw'
        rw [show i + 1 + x = i + (x + 1) by omega]
        exact this)
      have a := hh 0 u rfl w (hg w List.mem_cons_self).1 (hg w List.mem_cons_self).2
      simp only [costFrom, List.map_cons, List.sum_cons, Nat.add_zero] at a ⊢
      omega
theorem Fits.pos {n : Nat} {L : Nat → Nat} {h : List Nat} (f : Fits n L h) {v : Nat} (hv : v ∈ h) : 0 < L v := by
  have a := f.fit v (f.lt v hv)
  have : 0 < load h v := List.countP_pos_iff.mpr ⟨v, hv, by simp⟩
  omega
/-- certified homes are cheapest -/
theorem Cert.least {n : Nat} {c : Nat → Nat → Int} {L : Nat → Nat} {h g : List Nat} {p : Nat → Int} (C : Cert n c L h p) (G : Fits n L g) (hl : h.length = g.length) : costFrom c 0 h ≤ costFrom c 0 g := by
  have a := costFrom_le (n := n) (c := c) (L := L) (p := p) h g 0 hl (fun v hv => ⟨G.lt v hv, G.pos hv⟩) (fun x v hx w hw hw' => by
    rw [Nat.zero_add]
    exact C.happy x v hx w hw hw')
  rw [price_sum h C.fits.lt, price_sum g G.lt] at a
  have b : psum n (fun v => (load g v : Int) * p v) ≤ psum n (fun v => (load h v : Int) * p v) := psum_le fun v hv => by
    have p0 := C.nn v hv
    by_cases z : 0 < p v
    · have l1 := C.full v hv z
      have l2 := G.fit v hv
      exact Int.mul_le_mul_of_nonneg_right (by omega) p0
    · have : p v = 0 := by omega
      rw [this]
      simp
  omega
theorem Cert.same {n : Nat} {c : Nat → Nat → Int} {L : Nat → Nat} {h g : List Nat} {p q : Nat → Int} (C : Cert n c L h p) (G : Cert n c L g q) (hl : h.length = g.length) : costFrom c 0 h = costFrom c 0 g :=
  Int.le_antisymm (C.least G.fits hl) (G.least C.fits hl.symm)
theorem cert_nil (n : Nat) (c : Nat → Nat → Int) (L : Nat → Nat) : Cert n c L [] (fun _ => 0) :=
  ⟨⟨fun _ h => (nomatch h), fun _ _ => Nat.zero_le _⟩, fun _ _ => Int.le_refl _, fun _ _ h => absurd h (Int.lt_irrefl 0), fun _ _ h => (nomatch h)⟩

/-! ### one row more, along a chain of changes (row, version), the last one first -/
/-- a chain whose costs are told by d: each row but the first (the new one, of the number h.length) leaves the version that the one behind it comes to -/
def Tight (c : Nat → Nat → Int) (h : List Nat) (d : Nat → Int) : List (Nat × Nat) → Prop
  | [] => False
  | [(x, v)] => x = h.length ∧ d v = c x v
  | (x, w) :: (y, v) :: r => h[x]? = some v ∧ d w = d v + c x w - c x v ∧ Tight c h d ((y, v) :: r)
def applied (h : List Nat) (z : Nat) (ch : List (Nat × Nat)) : List Nat := ch.foldl (fun l x => l.set x.1 x.2) (h ++ [z])
theorem applied_len {h : List Nat} {z : Nat} : ∀ {ch : List (Nat × Nat)} {l : List Nat}, (ch.foldl (fun l x => l.set x.1 x.2) l).length = l.length := by
  intro ch
  induction ch with
  | nil => intro l; rfl
  | cons a r ih =>
    intro l
    rw [List.foldl_cons, ih, List.length_set]
/-- what stands behind stores at different places -/
theorem stored_at : ∀ (ch : List (Nat × Nat)) (l : List Nat), (ch.map (·.1)).Nodup → ∀ x v, (x, v) ∈ ch → x < l.length → (ch.foldl (fun l x => l.set x.1 x.2) l)[x]? = some v := by
  intro ch
  induction ch with
  | nil => intro l _ x v h _; cases h
  | cons a r ih =>
    intro l hn x v hm hx
    obtain ⟨n1, n2⟩ := List.nodup_cons.mp hn
    rw [List.foldl_cons]
    rcases List.mem_cons.mp hm with e | e
    · subst e
      have key : ∀ (r : List (Nat × Nat)) (l : List Nat), x ∉ r.map (·.1) → (r.foldl (fun l x => l.set x.1 x.2) l)[x]? = l[x]? := by
        intro r
        induction r with
        | nil => intro l _; rfl
        | cons b s ih2 =>
          intro l hb
          rw [List.foldl_cons, ih2 _ (fun q => hb (by simp; right; simpa using q))]
          rw [List.getElem?_set_ne (fun q => hb (by simp [q]))]
      rw [key r _ n1, List.getElem?_set_self hx]
    · exact ih _ n2 x v e (by rw [List.length_set]; exact hx)
theorem stored_not : ∀ (ch : List (Nat × Nat)) (l : List Nat) (x : Nat), x ∉ ch.map (·.1) → (ch.foldl (fun l x => l.set x.1 x.2) l)[x]? = l[x]? := by
  intro r
  induction r with
  | nil => intro l x _; rfl
  | cons b s ih2 =>
    intro l x hb
    rw [List.foldl_cons, ih2 _ x (fun q => hb (by simp; right; simpa using q))]
    rw [List.getElem?_set_ne (fun q => hb (by simp [q]))]
/-- the order of the stores does not matter -/
theorem stored_rev (ch : List (Nat × Nat)) (l : List Nat) (hn : (ch.map (·.1)).Nodup) (hlt : ∀ x ∈ ch.map (·.1), x < l.length) : ch.reverse.foldl (fun l x => l.set x.1 x.2) l = ch.foldl (fun l x => l.set x.1 x.2) l := by
  apply List.ext_getElem?
  intro i
  have hn' : (ch.reverse.map (·.1)).Nodup := by
    rw [List.map_reverse]
    exact List.pairwise_reverse.mpr (hn.imp fun h => Ne.symm h)
  by_cases q : i ∈ ch.map (·.1)
  · obtain ⟨⟨x, v⟩, hm, e⟩ := List.mem_map.mp q
    have e' : x = i := e
    subst e'
    rw [stored_at ch l hn x v hm (hlt x q), stored_at ch.reverse l hn' x v (List.mem_reverse.mpr hm) (hlt x q)]
  · rw [stored_not ch l i q, stored_not ch.reverse l i (by rw [List.map_reverse, List.mem_reverse]; exact q)]
theorem load_set {l : List Nat} {x u v w : Nat} (h : l[x]? = some u) : load (l.set x v) w + (if u = w then 1 else 0) = load l w + (if v = w then 1 else 0) := by
  induction l generalizing x with
  | nil => simp at h
  | cons a r ih =>
    cases x with
    | zero =>
      have e : a = u := by simpa using h
      subst e
      rw [List.set_cons_zero, load_cons, load_cons]
      omega
    | succ x =>
      have := ih (x := x) (by simpa using h)
      rw [List.set_cons_succ, load_cons, load_cons]
      omega
/-- rows of a tight chain: all but the new one are old; their versions are where the next one comes from -/
theorem tight_row {c : Nat → Nat → Int} {h : List Nat} {d : Nat → Int} : ∀ {ch : List (Nat × Nat)}, Tight c h d ch → ∀ x ∈ ch.map (·.1), x ≤ h.length := by
  intro ch
  induction ch with
  | nil => intro q; exact q.elim
  | cons a r ih =>
    intro q x hx
    match r, a, ih, q, hx with
    | [], (y, v), _, q, hx =>
      have e : x = y := by simpa using hx
      have := q.1
      omega
    | (z, u) :: r, (y, w), ih, q, hx =>
      obtain ⟨q1, _, q3⟩ := q
      have hy : y < h.length := (List.getElem?_eq_some_iff.mp q1).1
      rcases List.mem_cons.mp hx with e | e
      · have e' : x = y := e
        omega
      · exact ih q3 x e
theorem tight_nodup {c : Nat → Nat → Int} {h : List Nat} {d : Nat → Int} : ∀ {ch : List (Nat × Nat)}, Tight c h d ch → (ch.map (·.2)).Nodup → (ch.map (·.1)).Nodup := by
  -- a row that comes again would leave the same version again
  have key : ∀ (ch : List (Nat × Nat)), Tight c h d ch → ∀ x v, h[x]? = some v → x ∈ ch.map (·.1) → ∃ a b, ch.map (·.2) = a ++ v :: b ∧ a ≠ [] := by
    intro ch
    induction ch with
    | nil => intro q; exact q.elim
    | cons e r ih =>
      intro q x v hx hm
      match r, e, ih, q, hm with
      | [], (y, u), _, q, hm =>
        have e1 : x = y := by simpa using hm
        have e2 := q.1
        have := (List.getElem?_eq_some_iff.mp hx).1
        omega
      | (z, u) :: r, (y, w), ih, q, hm =>
        obtain ⟨q1, _, q3⟩ := q
        rcases List.mem_cons.mp hm with e1 | e1
        · have e1' : x = y := e1
          subst e1'
          rw [q1] at hx
          have e2 : u = v := by simpa using hx
          subst e2
          exact ⟨[w], r.map (·.2), rfl, by simp⟩
        · obtain ⟨a, b, e2, _⟩ := ih q3 x v hx e1
          refine ⟨w :: a, b, ?_, by simp⟩
          show w :: ((z, u) :: r).map (·.2) = _
          rw [e2]
          rfl
  intro ch
  induction ch with
  | nil => intro q; exact q.elim
  | cons e r ih =>
    intro q hn
    match r, e, ih, q, hn with
    | [], (y, u), _, _, _ => simp
    | (z, u) :: r, (y, w), ih, q, hn =>
      obtain ⟨q1, _, q3⟩ := q
      obtain ⟨n1, n2⟩ := List.nodup_cons.mp hn
      refine List.nodup_cons.mpr ⟨fun hm => ?_, ih q3 n2⟩
      obtain ⟨a, b, e1, e2⟩ := key _ q3 y u q1 hm
      have n2' : (((z, u) :: r).map (·.2)).Nodup := n2
      cases a with
      | nil => exact e2 rfl
      | cons a0 a =>
        have e3 : u = a0 := by
          have := congrArg List.head? e1
          simpa using this
        subst e3
        rw [e1] at n2'
        have := (List.nodup_cons.mp n2').1
        exact this (by simp)
section
variable {n : Nat} {c : Nat → Nat → Int} {L : Nat → Nat} {h : List Nat} {p d : Nat → Int} {t : Nat}
/-- along a tight chain d falls by no less than the price -/
theorem tight_price (C : Cert n c L h p) (ht : t < n) (hr : load h t < L t) : ∀ (ch : List (Nat × Nat)) (x w : Nat), Tight c h d ((x, w) :: ch) → w < n → 0 < L w → p w ≤ d t - d w → ∀ y v, (y, v) ∈ ((x, w) :: ch) → v < n ∧ 0 < L v ∧ p v ≤ d t - d v := by
  intro ch
  induction ch with
  | nil =>
    intro x w q hw hw' hp y v hm
    have e : (y, v) = (x, w) := by simpa using hm
    injection e with e1 e2
    subst e2
    exact ⟨hw, hw', hp⟩
  | cons a r ih =>
    intro x w q hw hw' hp y v hm
    obtain ⟨z, u⟩ := a
    obtain ⟨q1, q2, q3⟩ := q
    have hu : u ∈ h := List.mem_of_getElem? q1
    have hh := C.happy x u q1 w hw hw'
    rcases List.mem_cons.mp hm with e | e
    · injection e with e1 e2
      subst e2
      exact ⟨hw, hw', hp⟩
    · exact ih z u q3 (C.fits.lt u hu) (C.fits.pos hu) (by omega) y v e
theorem load_chain : ∀ (ch : List (Nat × Nat)) (x w : Nat) (l : List Nat) (z u : Nat), Tight c h d ((x, w) :: ch) → (((x, w) :: ch).map (·.1)).Nodup → l.length = h.length + 1 → (∀ y, y ∈ ((x, w) :: ch).map (·.1) → y < h.length → l[y]? = h[y]?) → l[h.length]? = some z →
    load (((x, w) :: ch).foldl (fun l x => l.set x.1 x.2) l) u + (if z = u then 1 else 0) = load l u + (if w = u then 1 else 0) := by
  intro ch
  induction ch with
  | nil =>
    intro x w l z u q hn hl hk hz
    obtain ⟨q1, _⟩ := q
    subst q1
    exact load_set hz
  | cons a r ih =>
    intro x w l z u q hn hl hk hz
    obtain ⟨y, v⟩ := a
    obtain ⟨q1, q2, q3⟩ := q
    obtain ⟨n1, n2⟩ := List.nodup_cons.mp hn
    have hx : x < h.length := (List.getElem?_eq_some_iff.mp q1).1
    rw [List.foldl_cons]
    have e1 := ih y v (l.set x w) z u q3 n2 (by rw [List.length_set]; exact hl) (fun i hi hi' => by
      have nx : x ≠ i := fun e => by
        subst e
        exact n1 hi
      rw [List.getElem?_set_ne nx]
      exact hk i (List.mem_cons_of_mem _ hi) hi') (by rw [List.getElem?_set_ne (by omega)]; exact hz)
    have e2 := load_set (l := l) (x := x) (u := v) (v := w) (w := u) ((hk x List.mem_cons_self hx).trans q1)
    show load (((y, v) :: r).foldl (fun l x => l.set x.1 x.2) (l.set x w)) u + _ = _
    omega
/-- behind a cheapest chain the homes are certified again -/
theorem Cert.step (C : Cert n c L h p) {ch : List (Nat × Nat)} {x z : Nat} (ht : t < n) (hr : load h t < L t) (T : Tight c h d ((x, t) :: ch)) (hnd : (((x, t) :: ch).map (·.2)).Nodup) (hz : n ≤ z)
    (ha : ∀ w, w < n → 0 < L w → d w ≤ c h.length w) (hb : ∀ x v, h[x]? = some v → ∀ w, w < n → 0 < L w → d w ≤ d v + c x w - c x v) (hd : ∀ v, v < n → load h v < L v → d t ≤ d v) :
    Cert n c L (applied h z ((x, t) :: ch)) (fun v => max (p v) (d t - d v)) := by
  have pt : p t = 0 := by
    have a := C.nn t ht
    by_cases q : 0 < p t
    · have := C.full t ht q
      omega
    · omega
  have rows := tight_row T
  have rnd := tight_nodup T hnd
  have pr := tight_price C ht hr ch x t T ht (by omega) (by omega)
  have len : (h ++ [z]).length = h.length + 1 := by simp
  have ld : ∀ u, u < n → load (applied h z ((x, t) :: ch)) u = load h u + if t = u then 1 else 0 := by
    intro u hu
    have := load_chain (u := u) (z := z) ch x t (h ++ [z]) T rnd len (fun y _ hy => List.getElem?_append_left hy) (by simp)
    rw [if_neg (by omega), load_append, load_cons, if_neg (by omega)] at this
    unfold applied
    simp [load] at this ⊢
    omega
  -- the home of a row behind the chain
  have at_ : ∀ y v, (y, v) ∈ ((x, t) :: ch) → (applied h z ((x, t) :: ch))[y]? = some v := fun y v hm => stored_at _ _ rnd y v hm (by
    have := rows y (List.mem_map.mpr ⟨_, hm, rfl⟩)
    omega)
  have not_ : ∀ y, y ∉ ((x, t) :: ch).map (·.1) → (applied h z ((x, t) :: ch))[y]? = (h ++ [z])[y]? := fun y hy => stored_not _ _ y hy
  -- the new row is in the chain
  have new_in : ∀ (ch : List (Nat × Nat)), Tight c h d ch → h.length ∈ ch.map (·.1) := by
    intro ch
    induction ch with
    | nil => intro q; exact q.elim
    | cons a r ih =>
      intro q
      match r, a, ih, q with
      | [], (y, u), _, q =>
        have := q.1
        simp [this]
      | (y', u') :: r, (y, u), ih, q => exact List.mem_cons_of_mem _ (ih q.2.2)
  -- old rows are happy where they were
  have old : ∀ y v, h[y]? = some v → ∀ w, w < n → 0 < L w → c y v + max (p v) (d t - d v) ≤ c y w + max (p w) (d t - d w) := by
    intro y v hy w hw hw'
    have a := C.happy y v hy w hw hw'
    have b := hb y v hy w hw hw'
    omega
  -- a row of the chain
  have chain : ∀ (ch : List (Nat × Nat)), Tight c h d ch → (∀ y v, (y, v) ∈ ch → p v ≤ d t - d v) → ∀ y v, (y, v) ∈ ch → ∀ w, w < n → 0 < L w → c y v + (d t - d v) ≤ c y w + max (p w) (d t - d w) := by
    intro ch
    induction ch with
    | nil => intro q; exact q.elim
    | cons a r ih =>
      intro q hp y v hm w hw hw'
      match r, a, ih, q, hm, hp with
      | [], (y', u), _, q, hm, _ =>
        have e : (y, v) = (y', u) := by simpa using hm
        injection e with e1 e2
        subst e1
        subst e2
        obtain ⟨q1, q2⟩ := q
        have := ha w hw hw'
        subst q1
        omega
      | (z', u') :: r, (y', u), ih, q, hm, hp =>
        obtain ⟨q1, q2, q3⟩ := q
        rcases List.mem_cons.mp hm with e | e
        · injection e with e1 e2
          subst e1
          subst e2
          have a := old y u' q1 w hw hw'
          have b := hp z' u' (List.mem_cons_of_mem _ List.mem_cons_self)
          omega
        · exact ih q3 (fun y v hm => hp y v (List.mem_cons_of_mem _ hm)) y v e w hw hw'
  refine ⟨⟨fun v hv => ?_, fun v hv => ?_⟩, fun v hv => ?_, fun v hv hp => ?_, fun y v hy w hw hw' => ?_⟩
  · obtain ⟨y, hy⟩ := List.mem_iff_getElem?.mp hv
    by_cases q : y ∈ ((x, t) :: ch).map (·.1)
    · obtain ⟨⟨y', v'⟩, hm, e⟩ := List.mem_map.mp q
      have e' : y' = y := e
      subst e'
      rw [at_ y' v' hm] at hy
      have : v' = v := by simpa using hy
      subst this
      exact (pr y' v' hm).1
    · rw [not_ y q] at hy
      have hy2 : y < h.length := by
        have := (List.getElem?_eq_some_iff.mp hy).1
        have : y ≠ h.length := fun e => q (e ▸ new_in _ T)
        omega
      rw [List.getElem?_append_left hy2] at hy
      exact C.fits.lt v (List.mem_of_getElem? hy)
  · rw [ld v hv]
    have := C.fits.fit v hv
    split
    · rename_i e
      subst e
      omega
    · omega
  · have := C.nn v hv
    omega
  · rw [ld v hv]
    by_cases q : load h v < L v
    · have a := hd v hv q
      have b : ¬ 0 < p v := fun z => by
        have := C.full v hv z
        omega
      omega
    · omega
  · by_cases q : y ∈ ((x, t) :: ch).map (·.1)
    · obtain ⟨⟨y', v'⟩, hm, e⟩ := List.mem_map.mp q
      have e' : y' = y := e
      subst e'
      rw [at_ y' v' hm] at hy
      have : v' = v := by simpa using hy
      subst this
      have a := chain _ T (fun y v hm => (pr y v hm).2.2) y' v' hm w hw hw'
      have b := (pr y' v' hm).2.2
      show c y' v' + max (p v') (d t - d v') ≤ c y' w + max (p w) (d t - d w)
      omega
    · rw [not_ y q] at hy
      have hy2 : y < h.length := by
        have := (List.getElem?_eq_some_iff.mp hy).1
        have : y ≠ h.length := fun e => q (e ▸ new_in _ T)
        simp at *
        omega
      rw [List.getElem?_append_left hy2] at hy
      exact old y v hy w hw hw'
end
end Hm
end
section
set_option autoImplicit false
set_option linter.all false
namespace Hm
open Vbjtah

/-! ### the specification's ways -/
def chp (a b : Way) : Way := if b.cost < a.cost then b else a
theorem chp_fold : ∀ (cs : List Way) (a : Way), (cs.foldl chp a = a ∨ (cs.foldl chp a ∈ cs ∧ (cs.foldl chp a).cost < a.cost)) ∧ (cs.foldl chp a).cost ≤ a.cost ∧ ∀ b ∈ cs, (cs.foldl chp a).cost ≤ b.cost := by
  intro cs
  induction cs with
  | nil => intro a; exact ⟨.inl rfl, Int.le_refl _, fun _ h => (nomatch h)⟩
  | cons b r ih =>
    intro a
    obtain ⟨i1, i2, i3⟩ := ih (chp a b)
    rw [List.foldl_cons]
    have hc : (chp a b = b ∧ b.cost < a.cost) ∨ (chp a b = a ∧ a.cost ≤ b.cost) := by
      unfold chp
      by_cases q : b.cost < a.cost
      · rw [if_pos q]; exact .inl ⟨rfl, q⟩
      · rw [if_neg q]; exact .inr ⟨rfl, by omega⟩
    rcases hc with ⟨e, l⟩ | ⟨e, l⟩
    · rw [e] at i1 i2 i3 ⊢
      refine ⟨?_, by omega, fun x hx => ?_⟩
      · rcases i1 with q | ⟨q1, q2⟩
        · exact .inr ⟨by rw [q]; exact List.mem_cons_self, by rw [q]; exact l⟩
        · exact .inr ⟨List.mem_cons_of_mem _ q1, by omega⟩
      · rcases List.mem_cons.mp hx with q | q
        · rw [q]; exact i2
        · exact i3 x q
    · rw [e] at i1 i2 i3 ⊢
      refine ⟨?_, i2, fun x hx => ?_⟩
      · rcases i1 with q | ⟨q1, q2⟩
        · exact .inl q
        · exact .inr ⟨List.mem_cons_of_mem _ q1, q2⟩
      · rcases List.mem_cons.mp hx with q | q
        · rw [q]; omega
        · exact i3 x q
section
variable (n : Nat) (c : Nat → Nat → Int) (h : List Nat)
def wcands (W : Nat → Way) (w : Nat) : List Way := (List.range n).flatMap fun v => (h.zipIdx.filter fun x => x.1 == v).map fun x => ⟨(W v).cost + c x.2 w - c x.2 v, (x.2, w) :: (W v).changes⟩
def roundOf (W : Nat → Way) (w : Nat) : Way := (wcands n c h W w).foldl chp (W w)
def roundsOf : Nat → (Nat → Way) → (Nat → Way)
  | 0, W => W
  | j + 1, W => roundsOf j (roundOf n c h W)
def firstWay (v : Nat) : Way := ⟨c h.length v, [(h.length, v)]⟩
end
theorem rounds_succ (n : Nat) (c : Nat → Nat → Int) (h : List Nat) : ∀ (j : Nat) (W : Nat → Way), roundsOf n c h (j + 1) W = roundOf n c h (roundsOf n c h j W) := by
  intro j
  induction j with
  | zero => intro W; rfl
  | succ j ih => intro W; exact ih (roundOf n c h W)
theorem mem_wcands {n : Nat} {c : Nat → Nat → Int} {h : List Nat} {W : Nat → Way} {w : Nat} {y : Way} : y ∈ wcands n c h W w ↔ ∃ v x, v < n ∧ h[x]? = some v ∧ y = ⟨(W v).cost + c x w - c x v, (x, w) :: (W v).changes⟩ := by
  unfold wcands
  simp only [List.mem_flatMap, List.mem_range, List.mem_map, List.mem_filter]
  constructor
  · rintro ⟨v, hv, ⟨u, x⟩, ⟨h1, h2⟩, e⟩
    have e2 : u = v := by simpa using h2
    subst e2
    exact ⟨u, x, hv, List.mem_zipIdx_iff_getElem?.mp h1, e.symm⟩
  · rintro ⟨v, x, hv, hx, e⟩
    exact ⟨v, hv, (v, x), ⟨List.mem_zipIdx_iff_getElem?.mpr hx, by simp⟩, e.symm⟩
/-- the round as the specification writes it -/
theorem wayRound_eq (n : Nat) (costs : List (List Nat)) (h : List Nat) (W : Nat → Way) : wayRound n costs h ((List.range n).map fun v => some (W v)) = (List.range n).map fun v => some (roundOf n (costIn costs) h W v) := by
  unfold wayRound
  apply List.map_congr_left
  intro w hw
  have hw' : w < n := List.mem_range.mp hw
  have get : ∀ v, v < n → ((List.range n).map fun v => some (W v)).getD v none = some (W v) := by
    intro v hv
    rw [List.getD_eq_getElem?_getD, List.getElem?_map, List.getElem?_range hv]
    rfl
  rw [get w hw']
  unfold roundOf wcands
  have inner : ∀ (l : List (Nat × Nat)) (a : Way) (v : Nat), l.foldl (fun found x => cheaper found (some ⟨(W v).cost + costIn costs x.2 w - costIn costs x.2 v, (x.2, w) :: (W v).changes⟩)) (some a) = some ((l.map fun x => (⟨(W v).cost + costIn costs x.2 w - costIn costs x.2 v, (x.2, w) :: (W v).changes⟩ : Way)).foldl chp a) := by
    intro l
    induction l with
    | nil => intro a v; rfl
    | cons x r ih =>
      intro a v
      rw [List.foldl_cons, List.map_cons, List.foldl_cons, ← ih]
      congr 1
      show (if _ then some _ else some a) = some (chp a _)
      unfold chp
      split <;> rfl
  have outer : ∀ (vs : List Nat) (a : Way), (∀ v ∈ vs, v < n) → vs.foldl (fun best v => match ((List.range n).map fun v => some (W v)).getD v none with
      | none => best
      | some way => (h.zipIdx.filter fun x => x.1 == v).foldl (fun found x => cheaper found (some ⟨way.cost + costIn costs x.2 w - costIn costs x.2 v, (x.2, w) :: way.changes⟩)) best) (some a) =
      some ((vs.flatMap fun v => (h.zipIdx.filter fun x => x.1 == v).map fun x => (⟨(W v).cost + costIn costs x.2 w - costIn costs x.2 v, (x.2, w) :: (W v).changes⟩ : Way)).foldl chp a) := by
    intro vs
    induction vs with
    | nil => intro a _; rfl
    | cons v r ih =>
      intro a hv
      rw [List.foldl_cons, List.flatMap_cons, List.foldl_append, get v (hv v List.mem_cons_self)]
      show r.foldl _ ((h.zipIdx.filter fun x => x.1 == v).foldl (fun found x => cheaper found (some ⟨(W v).cost + costIn costs x.2 w - costIn costs x.2 v, (x.2, w) :: (W v).changes⟩)) (some a)) = _
      rw [inner, ih _ (fun v hv' => hv v (List.mem_cons_of_mem _ hv'))]
  exact outer (List.range n) (W w) (fun v hv => List.mem_range.mp hv)
theorem waysAfter_eq (n : Nat) (costs : List (List Nat)) (h : List Nat) : ∀ (j : Nat) (W : Nat → Way), waysAfter n costs h j ((List.range n).map fun v => some (W v)) = (List.range n).map fun v => some (roundsOf n (costIn costs) h j W v) := by
  intro j
  induction j with
  | zero => intro W; rfl
  | succ j ih =>
    intro W
    show waysAfter n costs h j (wayRound n costs h _) = _
    rw [wayRound_eq, ih]
    rfl

/-! ### what a way is: a walk that is not dearer at any place than what is known there -/
def Wk (c : Nat → Nat → Int) (h : List Nat) (D : Nat → Int) : Int → List (Nat × Nat) → Prop
  | _, [] => False
  | s, [(x, v)] => x = h.length ∧ s = c x v ∧ D v ≤ s
  | s, (x, w) :: (y, v) :: r => h[x]? = some v ∧ D w ≤ s ∧ Wk c h D (s - (c x w - c x v)) ((y, v) :: r)
theorem Wk.mono {c : Nat → Nat → Int} {h : List Nat} {D E : Nat → Int} : ∀ (ch : List (Nat × Nat)) (s : Int), (∀ v ∈ ch.map (·.2), E v ≤ D v) → Wk c h D s ch → Wk c h E s ch
  | [], _, _, q => q
  | [(x, v)], s, hE, q => by
    have := hE v (by simp)
    exact ⟨q.1, q.2.1, by have := q.2.2; omega⟩
  | (x, w) :: (y, v) :: r, s, hE, q => by
    have := hE w (by simp)
    exact ⟨q.1, by have := q.2.1; omega, Wk.mono ((y, v) :: r) _ (fun u hu => hE u (List.mem_cons_of_mem _ hu)) q.2.2⟩
theorem Wk.tight {n : Nat} {c : Nat → Nat → Int} {h : List Nat} {D : Nat → Int} (hs : ∀ x v, h[x]? = some v → ∀ w, w < n → D w ≤ D v + c x w - c x v) : ∀ {ch : List (Nat × Nat)} {x w : Nat}, (∀ v ∈ ((x, w) :: ch).map (·.2), v < n) → Wk c h D (D w) ((x, w) :: ch) → Tight c h D ((x, w) :: ch) := by
  intro ch
  induction ch with
  | nil => intro x w _ q; exact ⟨q.1, q.2.1⟩
  | cons a r ih =>
    intro x w hl q
    obtain ⟨y, v⟩ := a
    obtain ⟨q1, q2, q3⟩ := q
    have hw := hl w (by simp)
    have a := hs x v q1 w hw
    have b : D v ≤ D w - (c x w - c x v) := by
      match r, q3 with
      | [], q3 => exact q3.2.2
      | (_, _) :: _, q3 => exact q3.2.1
    have e : D w - (c x w - c x v) = D v := by omega
    rw [e] at q3
    exact ⟨q1, by omega, ih (fun u hu => hl u (List.mem_cons_of_mem _ hu)) q3⟩
/-- where a walk has been it can not have been much cheaper -/
theorem Wk.back {n : Nat} {c : Nat → Nat → Int} {L : Nat → Nat} {h : List Nat} {p D : Nat → Int} (C : Cert n c L h p) : ∀ {ch : List (Nat × Nat)} {x w : Nat} {s : Int}, Wk c h D s ((x, w) :: ch) → w < n → 0 < L w → ∀ u ∈ ((x, w) :: ch).map (·.2), u < n ∧ 0 < L u ∧ D u ≤ s + p w - p u := by
  intro ch
  induction ch with
  | nil =>
    intro x w s q hw hw' u hu
    have : u = w := by simpa using hu
    subst this
    have := q.2.2
    exact ⟨hw, hw', by omega⟩
  | cons a r ih =>
    intro x w s q hw hw' u hu
    obtain ⟨y, v⟩ := a
    obtain ⟨q1, q2, q3⟩ := q
    have hv : v ∈ h := List.mem_of_getElem? q1
    rcases List.mem_cons.mp hu with e | e
    · have e' : u = w := e
      subst e'
      exact ⟨hw, hw', by omega⟩
    · obtain ⟨i1, i2, i3⟩ := ih q3 (C.fits.lt v hv) (C.fits.pos hv) u e
      have := C.happy x v q1 w hw hw'
      exact ⟨i1, i2, by omega⟩
structure WayOk (n : Nat) (c : Nat → Nat → Int) (h : List Nat) (D : Nat → Int) (w : Nat) (y : Way) : Prop where
  head : ∃ x r, y.changes = (x, w) :: r
  lt : ∀ v ∈ y.changes.map (·.2), v < n
  nd : (y.changes.map (·.2)).Nodup
  wk : Wk c h D y.cost y.changes
def WaysOk (n : Nat) (c : Nat → Nat → Int) (h : List Nat) (W : Nat → Way) : Prop := ∀ w, w < n → WayOk n c h (fun v => (W v).cost) w (W w)
theorem first_ok (n : Nat) (c : Nat → Nat → Int) (h : List Nat) : WaysOk n c h (firstWay c h) := by
  intro w hw
  refine ⟨⟨h.length, [], rfl⟩, fun v hv => ?_, by simp [firstWay], rfl, rfl, Int.le_refl _⟩
  have : v = w := by simpa [firstWay] using hv
  omega
theorem round_cost {n : Nat} {c : Nat → Nat → Int} {h : List Nat} {W : Nat → Way} {w : Nat} : (roundOf n c h W w).cost ≤ (W w).cost ∧ ∀ v x, v < n → h[x]? = some v → (roundOf n c h W w).cost ≤ (W v).cost + c x w - c x v := by
  obtain ⟨_, h2, h3⟩ := chp_fold (wcands n c h W w) (W w)
  exact ⟨h2, fun v x hv hx => h3 _ (mem_wcands.mpr ⟨v, x, hv, hx, rfl⟩)⟩
theorem round_is {n : Nat} {c : Nat → Nat → Int} {h : List Nat} {W : Nat → Way} {w : Nat} : roundOf n c h W w = W w ∨ ∃ v x, v < n ∧ h[x]? = some v ∧ roundOf n c h W w = ⟨(W v).cost + c x w - c x v, (x, w) :: (W v).changes⟩ ∧ (W v).cost + c x w - c x v < (W w).cost := by
  obtain ⟨h1, _, _⟩ := chp_fold (wcands n c h W w) (W w)
  rcases h1 with h1 | ⟨h1, h2⟩
  · exact .inl h1
  · obtain ⟨v, x, hv, hx, e⟩ := mem_wcands.mp h1
    refine .inr ⟨v, x, hv, hx, e, ?_⟩
    rw [e] at h2
    exact h2
theorem round_ok {n : Nat} {c : Nat → Nat → Int} {L : Nat → Nat} {h : List Nat} {p : Nat → Int} (C : Cert n c L h p) {W : Nat → Way} (ok : WaysOk n c h W) : WaysOk n c h (roundOf n c h W) := by
  intro w hw
  have mono : ∀ v, (roundOf n c h W v).cost ≤ (W v).cost := fun v => round_cost.1
  rcases round_is (n := n) (c := c) (h := h) (W := W) (w := w) with e | ⟨v, x, hv, hx, e, hlt⟩
  · have o := ok w hw
    rw [e]
    exact ⟨o.head, o.lt, o.nd, o.wk.mono _ _ fun v _ => mono v⟩
  · have o := ok v hv
    obtain ⟨y, r, ec⟩ := o.head
    have vR : v ∈ h := List.mem_of_getElem? hx
    have hwk := o.wk
    rw [ec] at hwk
    have bk := hwk.back C hv (C.fits.pos vR)
    have nw : w ∉ (W v).changes.map (·.2) := fun q => by
      rw [ec] at q
      obtain ⟨a1, a2, a3⟩ := bk w q
      have := C.happy x v hx w hw a2
      have a4 : (W w).cost ≤ (W v).cost + p v - p w := a3
      omega
    rw [e]
    refine ⟨⟨x, _, rfl⟩, fun u hu => ?_, List.nodup_cons.mpr ⟨nw, o.nd⟩, ?_⟩
    · rcases List.mem_cons.mp hu with q | q
      · have q' : u = w := q
        omega
      · exact o.lt u q
    · show Wk c h _ _ ((x, w) :: (W v).changes)
      rw [ec]
      refine ⟨hx, ?_, ?_⟩
      · show (roundOf n c h W w).cost ≤ _
        rw [e]
        exact Int.le_refl _
      · have e2 : (W v).cost + c x w - c x v - (c x w - c x v) = (W v).cost := by omega
        show Wk c h _ ((W v).cost + c x w - c x v - (c x w - c x v)) _
        rw [e2]
        exact hwk.mono _ _ fun u _ => mono u
section
variable {n : Nat} {c : Nat → Nat → Int} {L : Nat → Nat} {h : List Nat} {p : Nat → Int}
theorem rounds_ok (C : Cert n c L h p) (j : Nat) : WaysOk n c h (roundsOf n c h j (firstWay c h)) := by
  induction j with
  | zero => exact first_ok n c h
  | succ j ih => rw [rounds_succ]; exact round_ok C ih
theorem rounds_len (j : Nat) : ∀ w, w < n → roundsOf n c h (j + 1) (firstWay c h) w = roundsOf n c h j (firstWay c h) w ∨ (roundsOf n c h (j + 1) (firstWay c h) w).changes.length = j + 2 := by
  induction j with
  | zero =>
    intro w hw
    rw [rounds_succ]
    rcases round_is (n := n) (c := c) (h := h) (W := roundsOf n c h 0 (firstWay c h)) (w := w) with e | ⟨v, x, hv, hx, e, _⟩
    · exact .inl e
    · refine .inr ?_
      rw [e]
      rfl
  | succ j ih =>
    intro w hw
    rw [rounds_succ n c h (j + 1)]
    rcases round_is (n := n) (c := c) (h := h) (W := roundsOf n c h (j + 1) (firstWay c h)) (w := w) with e | ⟨v, x, hv, hx, e, hlt⟩
    · exact .inl e
    · rcases ih v hv with q | q
      · have := (round_cost (n := n) (c := c) (h := h) (W := roundsOf n c h j (firstWay c h)) (w := w)).2 v x hv hx
        rw [← rounds_succ] at this
        rw [q] at hlt
        omega
      · refine .inr ?_
        rw [e]
        show (roundsOf n c h (j + 1) (firstWay c h) v).changes.length + 1 = _
        rw [q]
theorem nodup_lt_len {n : Nat} {l : List Nat} (hn : l.Nodup) (hl : ∀ v ∈ l, v < n) : l.length ≤ n := by
  have := hn.length_le_of_subset (l₂ := List.range n) fun v hv => List.mem_range.mpr (hl v hv)
  rw [List.length_range] at this
  exact this
/-- the costs behind as many rounds as there are versions -/
def dist_ (n : Nat) (c : Nat → Nat → Int) (h : List Nat) (v : Nat) : Int := (roundsOf n c h n (firstWay c h) v).cost
theorem rounds_still (C : Cert n c L h p) (hn : 0 < n) : ∀ w, w < n → roundsOf n c h n (firstWay c h) w = roundsOf n c h (n - 1) (firstWay c h) w := by
  intro w hw
  obtain ⟨m, rfl⟩ : ∃ m, n = m + 1 := ⟨n - 1, by omega⟩
  rcases rounds_len (n := m + 1) (c := c) (h := h) m w hw with e | e
  · exact e
  · have o := rounds_ok C (m + 1) w hw
    have := nodup_lt_len o.nd o.lt
    rw [List.length_map] at this
    omega
theorem rounds_mono {j : Nat} (k : Nat) {w : Nat} : (roundsOf n c h (j + k) (firstWay c h) w).cost ≤ (roundsOf n c h j (firstWay c h) w).cost := by
  induction k with
  | zero => exact Int.le_refl _
  | succ k ih =>
    rw [show j + (k + 1) = (j + k) + 1 by omega, rounds_succ]
    have := (round_cost (n := n) (c := c) (h := h) (W := roundsOf n c h (j + k) (firstWay c h)) (w := w)).1
    omega
theorem dist_first {w : Nat} : dist_ n c h w ≤ c h.length w := by
  have := rounds_mono (n := n) (c := c) (h := h) (j := 0) n (w := w)
  rw [Nat.zero_add] at this
  exact this
theorem dist_settled (C : Cert n c L h p) : ∀ x v, h[x]? = some v → ∀ w, w < n → dist_ n c h w ≤ dist_ n c h v + c x w - c x v := by
  intro x v hx w hw
  have hv := C.fits.lt v (List.mem_of_getElem? hx)
  have e := rounds_still C (by omega) v hv
  obtain ⟨m, rfl⟩ : ∃ m, n = m + 1 := ⟨n - 1, by omega⟩
  unfold dist_
  rw [e, rounds_succ]
  exact round_cost.2 v x hv hx
theorem dist_tight (C : Cert n c L h p) {t : Nat} (ht : t < n) : ∃ x r, (roundsOf n c h n (firstWay c h) t).changes = (x, t) :: r ∧ Tight c h (dist_ n c h) ((x, t) :: r) ∧ (((x, t) :: r).map (·.2)).Nodup := by
  have o := rounds_ok C n t ht
  obtain ⟨x, r, e⟩ := o.head
  have l := o.lt
  have nd := o.nd
  have k := o.wk
  rw [e] at l nd k
  exact ⟨x, r, e, Wk.tight (n := n) (D := dist_ n c h) (dist_settled C) l k, nd⟩
theorem room_is {t : Nat} (F : Fits n L h) (hs : h.length < ((List.range n).map L).sum) : ∃ v, v < n ∧ load h v < L v := by
  by_cases q : ∃ v, v < n ∧ load h v < L v
  · exact q
  · have e := price_sum (n := n) (p := fun _ => 1) h F.lt
    have a : psum n (fun v => (L v : Int)) ≤ psum n (fun v => (load h v : Int) * 1) := psum_le fun v hv => by
      have : ¬ load h v < L v := fun z => q ⟨v, hv, z⟩
      omega
    have b : psum n (fun v => (L v : Int)) = (((List.range n).map L).sum : Nat) := by
      unfold psum
      generalize List.range n = l
      induction l with
      | nil => rfl
      | cons x r ih => simp only [List.map_cons, List.sum_cons, ih]; omega
    have c : (h.map fun _ => (1 : Int)).sum = h.length := by
      generalize h = l
      induction l with
      | nil => rfl
      | cons x r ih => simp only [List.map_cons, List.sum_cons, ih, List.length_cons]; omega
    rw [c] at e
    omega
theorem applied_any {d : Nat → Int} {ch : List (Nat × Nat)} {y z : Nat} (T : Tight c h d ch) (hn : (ch.map (·.2)).Nodup) : applied h y ch = applied h z ch := by
  have rows := tight_row T
  have rnd := tight_nodup T hn
  have new_in : ∀ (ch : List (Nat × Nat)), Tight c h d ch → h.length ∈ ch.map (·.1) := by
    intro ch
    induction ch with
    | nil => intro q; exact q.elim
    | cons a r ih =>
      intro q
      match r, a, ih, q with
      | [], (y, u), _, q =>
        have := q.1
        simp [this]
      | (y', u') :: r, (y, u), ih, q => exact List.mem_cons_of_mem _ (ih q.2.2)
  apply List.ext_getElem?
  intro i
  unfold applied
  by_cases q : i ∈ ch.map (·.1)
  · obtain ⟨⟨x, v⟩, hm, e⟩ := List.mem_map.mp q
    have e' : x = i := e
    subst e'
    have := rows x q
    rw [stored_at ch _ rnd x v hm (by simp; omega), stored_at ch _ rnd x v hm (by simp; omega)]
  · rw [stored_not ch _ i q, stored_not ch _ i q]
    have : i ≠ h.length := fun e => q (e ▸ new_in ch T)
    by_cases hi : i < h.length
    · rw [List.getElem?_append_left hi, List.getElem?_append_left hi]
    · rw [List.getElem?_eq_none (by simp; omega), List.getElem?_eq_none (by simp; omega)]
end
/-- the first cheapest one among those that are allowed -/
theorem best_fold {W : Nat → Way} {R : Nat → Bool} {n : Nat} : ∀ (vs : List Nat) (a : Option Way), (∀ v ∈ vs, v < n) → (a = none ∨ ∃ t, t < n ∧ R t = true ∧ a = some (W t)) →
    (vs.foldl (fun found v => if R v = true then cheaper found (((List.range n).map fun v => some (W v)).getD v none) else found) a = none ∧ a = none ∧ ∀ v ∈ vs, R v = false) ∨
    ∃ t, t < n ∧ R t = true ∧ vs.foldl (fun found v => if R v = true then cheaper found (((List.range n).map fun v => some (W v)).getD v none) else found) a = some (W t) ∧ (∀ y, a = some y → (W t).cost ≤ y.cost) ∧ ∀ v ∈ vs, R v = true → (W t).cost ≤ (W v).cost := by
  intro vs
  induction vs with
  | nil =>
    intro a _ ha
    rcases ha with e | ⟨t, h1, h2, e⟩
    · exact .inl ⟨e, e, fun _ h => (nomatch h)⟩
    · exact .inr ⟨t, h1, h2, e, fun y hy => (by rw [e] at hy; cases hy; exact Int.le_refl _), fun _ h => (nomatch h)⟩
  | cons v r ih =>
    intro a hv ha
    have hv0 := hv v List.mem_cons_self
    have get : ((List.range n).map fun v => some (W v)).getD v none = some (W v) := by
      rw [List.getD_eq_getElem?_getD, List.getElem?_map, List.getElem?_range hv0]
      rfl
    rw [List.foldl_cons, get]
    by_cases q : R v = true
    · rw [if_pos q]
      have ca : (cheaper a (some (W v)) = some (W v) ∧ ∀ y, a = some y → (W v).cost < y.cost) ∨ (cheaper a (some (W v)) = a ∧ ∃ y, a = some y ∧ y.cost ≤ (W v).cost) := by
        cases a with
        | none => exact .inl ⟨rfl, fun y h => (nomatch h)⟩
        | some y =>
          by_cases z : (W v).cost < y.cost
          · exact .inl ⟨if_pos z, fun y' h => by cases h; exact z⟩
          · exact .inr ⟨if_neg z, y, rfl, by omega⟩
      have hA : cheaper a (some (W v)) = none ∨ ∃ t, t < n ∧ R t = true ∧ cheaper a (some (W v)) = some (W t) := by
        rcases ca with ⟨e, _⟩ | ⟨e, y, hy, _⟩
        · exact .inr ⟨v, hv0, q, e⟩
        · rw [e]; exact ha
      rcases ih (cheaper a (some (W v))) (fun u hu => hv u (List.mem_cons_of_mem _ hu)) hA with ⟨_, e2, _⟩ | ⟨t, t1, t2, t3, t4, t5⟩
      · rcases ca with ⟨e, _⟩ | ⟨e, y, hy, _⟩
        · rw [e] at e2; cases e2
        · rw [e, hy] at e2; cases e2
      · refine .inr ⟨t, t1, t2, t3, fun y hy => ?_, fun u hu hR => ?_⟩
        · rcases ca with ⟨e, l⟩ | ⟨e, y', hy', l⟩
          · have := t4 _ e
            have := l y hy
            omega
          · rw [e] at t4
            exact t4 y hy
        · rcases List.mem_cons.mp hu with e | e
          · subst e
            rcases ca with ⟨e, l⟩ | ⟨e, y', hy', l⟩
            · exact t4 _ e
            · rw [e] at t4
              have := t4 y' hy'
              omega
          · exact t5 u e hR
    · rw [if_neg q]
      rcases ih a (fun u hu => hv u (List.mem_cons_of_mem _ hu)) ha with ⟨e1, e2, e3⟩ | ⟨t, t1, t2, t3, t4, t5⟩
      · refine .inl ⟨e1, e2, fun u hu => ?_⟩
        rcases List.mem_cons.mp hu with e | e
        · subst e
          cases hR : R u with
          | false => rfl
          | true => exact absurd hR q
        · exact e3 u e
      · refine .inr ⟨t, t1, t2, t3, t4, fun u hu hR => ?_⟩
        rcases List.mem_cons.mp hu with e | e
        · subst e
          exact absurd hR q
        · exact t5 u e hR
section
variable {n : Nat} {costs : List (List Nat)} {limits : List Nat} {h : List Nat} {p : Nat → Int}
/-- the specification's next row -/
theorem nextRow_cert (C : Cert n (costIn costs) (fun v => limits.getD v 0) h p) (hs : h.length < ((List.range n).map fun v => limits.getD v 0).sum) : ∃ g q, withNextRow n costs limits h = some g ∧ g.length = h.length + 1 ∧ Cert n (costIn costs) (fun v => limits.getD v 0) g q := by
  unfold withNextRow
  simp only
  have e1 : ((List.range n).map fun v => some (⟨costIn costs h.length v, [(h.length, v)]⟩ : Way)) = (List.range n).map fun v => some (firstWay (costIn costs) h v) := rfl
  rw [e1, waysAfter_eq]
  have e2 : ∀ (found : Option Way) (v : Nat), (if loadOf h v < limits.getD v 0 then cheaper found (((List.range n).map fun v => some (roundsOf n (costIn costs) h n (firstWay (costIn costs) h) v)).getD v none) else found) =
      if decide (load h v < limits.getD v 0) = true then cheaper found (((List.range n).map fun v => some (roundsOf n (costIn costs) h n (firstWay (costIn costs) h) v)).getD v none) else found := by
    intro found v
    rw [loadOf_eq]
    by_cases q : load h v < limits.getD v 0
    · rw [if_pos q, if_pos (decide_eq_true q)]
    · rw [if_neg q, if_neg (by rw [decide_eq_false q]; decide)]
  simp only [e2]
  obtain ⟨v0, hv0, hr0⟩ := room_is (t := 0) C.fits hs
  rcases best_fold (W := fun v => roundsOf n (costIn costs) h n (firstWay (costIn costs) h) v) (R := fun v => decide (load h v < limits.getD v 0)) (n := n) (List.range n) none (fun v hv => List.mem_range.mp hv) (.inl rfl) with ⟨_, _, e⟩ | ⟨t, t1, t2, t3, _, t5⟩
  · have := e v0 (List.mem_range.mpr hv0)
    rw [decide_eq_true hr0] at this
    cases this
  · rw [t3]
    obtain ⟨x, r, c1, c2, c3⟩ := dist_tight C t1
    have ht : load h t < limits.getD t 0 := of_decide_eq_true t2
    have st := C.step (z := n) (L := fun v => limits.getD v 0) t1 ht c2 c3 (Nat.le_refl n) (fun w _ _ => dist_first) (fun x v hx w hw _ => dist_settled C x v hx w hw) (fun v hv hr => t5 v (List.mem_range.mpr hv) (decide_eq_true hr))
    refine ⟨applied h n ((x, t) :: r), _, ?_, ?_, st⟩
    · show some ((roundsOf n (costIn costs) h n (firstWay (costIn costs) h) t).changes.reverse.foldl (fun (l : List Nat) change => l.set change.1 change.2) (h ++ [0])) = _
      have e3 := stored_rev ((x, t) :: r) (h ++ [0]) (tight_nodup c2 c3) (fun y hy => by
        have := tight_row c2 y hy
        simp
        omega)
      rw [c1, e3]
      exact congrArg some (applied_any (y := 0) (z := n) c2 c3)
    · unfold applied
      rw [applied_len (h := h) (z := n)]
      simp
theorem assignFrom_cert (k : Nat) (hs : k ≤ ((List.range n).map fun v => limits.getD v 0).sum) : ∃ g q, assignFrom n costs limits k = some g ∧ g.length = k ∧ Cert n (costIn costs) (fun v => limits.getD v 0) g q := by
  induction k with
  | zero => exact ⟨[], _, rfl, rfl, cert_nil _ _ _⟩
  | succ k ih =>
    obtain ⟨g, q, e1, e2, C⟩ := ih (by omega)
    obtain ⟨g', q', f1, f2, C'⟩ := nextRow_cert C (by rw [e2]; omega)
    refine ⟨g', q', ?_, by omega, C'⟩
    show (assignFrom n costs limits k).bind _ = _
    rw [e1]
    exact f1
theorem assignmentCost_eq (g : List Nat) : assignmentCost costs g = costFrom (costIn costs) 0 g := by
  unfold assignmentCost sumInts
  have key : ∀ (g : List Nat) (i : Nat) (a : Int), ((g.zipIdx i).map fun x => costIn costs x.2 x.1).foldl (fun a b => a + b) a = a + costFrom (costIn costs) i g := by
    intro g
    induction g with
    | nil => intro i a; simp [costFrom]
    | cons v r ih =>
      intro i a
      rw [List.zipIdx_cons, List.map_cons, List.foldl_cons, ih]
      show a + costIn costs i v + _ = a + (costIn costs i v + _)
      omega
  rw [key]
  omega
/-- what the specification calls the least cost is that of any certified homes -/
theorem leastTotal_eq (hs : costs.length ≤ ((List.range n).map fun v => limits.getD v 0).sum) {g : List Nat} {q : Nat → Int} (C : Cert n (costIn costs) (fun v => limits.getD v 0) g q) (hl : g.length = costs.length) : leastTotal n costs limits = some (costFrom (costIn costs) 0 g) := by
  obtain ⟨g', q', e1, e2, C'⟩ := assignFrom_cert (n := n) (costs := costs) (limits := limits) costs.length hs
  unfold leastTotal
  rw [e1]
  show some (assignmentCost costs g') = _
  rw [assignmentCost_eq, C'.same C (by omega)]
end
end Hm
end
section
set_option Elab.async false
set_option linter.all false
set_option maxRecDepth 100000
set_option maxHeartbeats 4000000
namespace Hm
open PySem PySem.Spec PyProof.Rows L2
open C8 (Cal Met Mak pe_c pe_mt pe_mt0 pe_mk pe_gc)
/-! ### from a def of the text to its promise -/
section
variable {P : Program} {w : World} {K : PySem.W.Frag} {mg : Str → Option Value} {base : Heap}
theorem calOf {x : Str} {st : Stmt} {N ps : List Str} {k : Nat} {sp : Sp} {f : Addr} (hF : ∃ fd, FunD K x x (defArgs st) (defBody st) (defScope st) [] [] f fd) (hm : mg x = some (.ref f)) (S : FnScope N ps (defScope st))
    (hb : ∀ (kV doc pm : Value) (an : Option Addr) (cdv ct : Value) (us : List Value), us.length = ps.length → bindArgs (PySem.W.fnOf x x (defArgs st) (defBody st) (defScope st) .none kV doc pm an cdv ct) ⟨us, []⟩ = pure (ps.zip us)) (len : ∀ vs H Q E, sp vs H Q E → vs.length = ps.length)
    (body : ∀ (cdv : Value) (A : Around) (outer : List Env) (s : Shared) (H : Hp) (vs : List V) (Q : VK) (E : XK), Room k (A.deeper (envOfC x (defScope st) s.heap.objs.size f cdv)) → sp vs H Q E →
      ∃ t, PSs (cxOf CX0 P w K mg base N x (defScope st) f cdv A outer s H E).nox (defBody st) t ∧ t { nx := fun _ H' => Q .non H', rt := Q } (start N vs) H) : Cal P w K mg base (k + 1) x sp [] := by
  obtain ⟨fd, F⟩ := hF
  exact ⟨f, fd, ps, [], F.ok S len fun cdv A outer s H vs Q E hr h => let ⟨t, h1, h2⟩ := body cdv A outer s H vs Q E hr h; ⟨t, h1.nox, h2⟩, hm, F.kp, F.bindsN hb, .nil⟩
theorem metOf {x qual : Str} {C : Addr} {st : Stmt} {N ps : List Str} {k : Nat} {sp : Sp} {f : Addr} (cl : Cls K C) (me : Meth K C x f) (hF : ∃ fd, FunD K x qual (defArgs st) (defBody st) (defScope st) [] [] f fd) (S : FnScope N ps (defScope st))
    (hb : ∀ (kV doc pm : Value) (an : Option Addr) (cdv ct : Value) (us : List Value), us.length = ps.length → bindArgs (PySem.W.fnOf x qual (defArgs st) (defBody st) (defScope st) .none kV doc pm an cdv ct) ⟨us, []⟩ = pure (ps.zip us)) (len : ∀ vs H Q E, sp vs H Q E → vs.length = ps.length)
    (body : ∀ (cdv : Value) (A : Around) (outer : List Env) (s : Shared) (H : Hp) (vs : List V) (Q : VK) (E : XK), Room k (A.deeper (envOfC qual (defScope st) s.heap.objs.size f cdv)) → sp vs H Q E →
      ∃ t, PSs (cxOf CX0 P w K mg base N qual (defScope st) f cdv A outer s H E).nox (defBody st) t ∧ t { nx := fun _ H' => Q .non H', rt := Q } (start N vs) H) : Met P w K mg base (k + 1) C x sp [] := by
  obtain ⟨fd, F⟩ := hF
  exact ⟨f, fd, ps, [], cl, me, F.ok S len fun cdv A outer s H vs Q E hr h => let ⟨t, h1, h2⟩ := body cdv A outer s H vs Q E hr h; ⟨t, h1.nox, h2⟩, F.bindsN hb, .nil⟩
theorem makOf {x qual : Str} {C : Addr} {st : Stmt} {N ps : List Str} {k : Nat} {sp : Sp} {f : Addr} (mk : Mk K C f) (hm : mg x = some (.ref C)) (hF : ∃ fd, FunD K "__init__" qual (defArgs st) (defBody st) (defScope st) [] [] f fd) (S : FnScope N ps (defScope st))
    (hb : ∀ (kV doc pm : Value) (an : Option Addr) (cdv ct : Value) (us : List Value), us.length = ps.length → bindArgs (PySem.W.fnOf "__init__" qual (defArgs st) (defBody st) (defScope st) .none kV doc pm an cdv ct) ⟨us, []⟩ = pure (ps.zip us)) (len : ∀ vs H Q E, sp vs H Q E → vs.length = ps.length)
    (body : ∀ (cdv : Value) (A : Around) (outer : List Env) (s : Shared) (H : Hp) (vs : List V) (Q : VK) (E : XK), Room k (A.deeper (envOfC qual (defScope st) s.heap.objs.size f cdv)) → sp vs H Q E →
      ∃ t, PSs (cxOf CX0 P w K mg base N qual (defScope st) f cdv A outer s H E).nox (defBody st) t ∧ t { nx := fun _ H' => Q .non H', rt := Q } (start N vs) H) : Mak P w K mg base (k + 1) x C sp [] := by
  obtain ⟨fd, F⟩ := hF
  exact ⟨f, fd, ps, [], mk, F.ok S len fun cdv A outer s H vs Q E hr h => let ⟨t, h1, h2⟩ := body cdv A outer s H vs Q E hr h; ⟨t, h1.nox, h2⟩, hm, F.bindsN hb, .nil⟩
end
theorem up {W W' : Wd} {d : D} {v : V} (g : Grow W W') (r : Rep W.f d v) : Rep W'.f d v := Rep.mono g.ff d v r
/-! ### a tree as an object -/
abbrev Tr := Vbjtah.Tree
open Vbjtah (versionCount edgesOf isBelow distance)
def treeNames (full : Bool) : List Str := (["factor", "parents", "lengths", "count", "ups"] : List Str) ++ (if full = true then (["table"] : List Str) else [])
def treeVals (t : Tr) (F : Nat) (full : Bool) : List D := [dn F, .l ((0 :: t.parents).map dn), .l ((0 :: t.lengths).map dn), dn (versionCount t), .l ((List.range (versionCount t)).map fun v => .l ((ups t v).map dn))] ++
  (if full = true then [.l ((List.range (versionCount t)).map fun v => .l ((List.range (versionCount t)).map fun u => dn (distance t v u)))] else [])
def dTree (K : PySem.W.Frag) (t : Tr) (F : Nat) (full : Bool) : D := .o (C_Tree K) (treeNames full) (treeVals t F full)
section
variable {K : PySem.W.Frag} {mg : Str → Option Value} {σ : L2.St} {W : Wd} {te : TE} {t : Tr} {F : Nat} {full : Bool}
theorem fld_factor (T : Top K mg) (h : EvD te σ W (dTree K t F full)) : EvD (tFld K te "factor") σ W (dn F) := ev_fld 0 (cl_Tree T) (na_Tree_factor T) h (by cases full <;> decide +kernel) (by cases full <;> rfl)
theorem fld_parents (T : Top K mg) (h : EvD te σ W (dTree K t F full)) : EvD (tFld K te "parents") σ W (.l ((0 :: t.parents).map dn)) := ev_fld 1 (cl_Tree T) (na_Tree_parents T) h (by cases full <;> decide +kernel) (by cases full <;> rfl)
theorem fld_lengths (T : Top K mg) (h : EvD te σ W (dTree K t F full)) : EvD (tFld K te "lengths") σ W (.l ((0 :: t.lengths).map dn)) := ev_fld 2 (cl_Tree T) (na_Tree_lengths T) h (by cases full <;> decide +kernel) (by cases full <;> rfl)
theorem fld_count (T : Top K mg) (h : EvD te σ W (dTree K t F full)) : EvD (tFld K te "count") σ W (dn (versionCount t)) := ev_fld 3 (cl_Tree T) (na_Tree_count T) h (by cases full <;> decide +kernel) (by cases full <;> rfl)
theorem fld_ups (T : Top K mg) (h : EvD te σ W (dTree K t F full)) : EvD (tFld K te "ups") σ W (.l ((List.range (versionCount t)).map fun v => .l ((ups t v).map dn))) := ev_fld 4 (cl_Tree T) (na_Tree_ups T) h (by cases full <;> decide +kernel) (by cases full <;> rfl)
theorem fld_table (T : Top K mg) (h : EvD te σ W (dTree K t F true)) : EvD (tFld K te "table") σ W (.l ((List.range (versionCount t)).map fun v => .l ((List.range (versionCount t)).map fun u => dn (distance t v u)))) := ev_fld 5 (cl_Tree T) (na_Tree_table T) h (by decide +kernel) rfl
theorem at_range {α : Type} {n j : Nat} {g : Nat → α} (h : j < n) : ((List.range n).map g)[j]? = some (g j) := by
  rw [List.getElem?_map, List.getElem?_range h]
  rfl
theorem at_nat {l : List Nat} {j : Nat} (h : j < l.length) : (l.map dn)[j]? = some (dn (l.getD j 0)) := by
  rw [List.getElem?_map, List.getD_eq_getElem?_getD, List.getElem?_eq_getElem h]
  rfl
theorem edges_eq (t : Tr) : ((List.range (versionCount t - 1)).map fun i => 1 + i) = edgesOf t := by
  unfold edgesOf versionCount
  exact List.map_congr_left fun i _ => Nat.add_comm 1 i
theorem ups_len {t : Tr} (h : Wf t) {v : Nat} (hv : v < versionCount t) : (ups t v).length ≤ 10 := by
  have h1 : (ups t v).Nodup := (ups_pair h hv).imp fun {a b} q => by omega
  have := h1.length_le_of_subset (l₂ := List.range (versionCount t)) fun e he => List.mem_range.mpr (ups_lt h hv he)
  rw [List.length_range] at this
  have := h.pn
  unfold versionCount at *
  omega
theorem vc_le {t : Tr} (h : Wf t) : versionCount t ≤ 10 := by
  have := h.pn
  unfold versionCount
  omega
end
section
variable {K : PySem.W.Frag} {σ : L2.St} {W W1 : Wd} {te : TE} {d : D} {D0 : Ends} {Q : VK}
/-- an if without an else, and what stands behind it -/
theorem s_ifs {t : TT} {tu : TS} {b : Bool} (h : EvT t σ W b) (ok : Ex W.f W.h) (h1 : b = true → ∀ W1, Grow W W1 → tu D0 σ W1.h) (h2 : b = false → ∀ W1, Grow W W1 → D0.nx σ W1.h) : tIfS t tu tNext D0 σ W.h := s_if h ok h1 h2
/-- return, at the end of all that grew -/
theorem s_end (g : Grow W W1) (h : EvD te σ W1 d) (k : ∀ v W2, Grow W W2 → Rep W2.f d v → Q v W2.h) (e : D0.rt = Q := by rfl) : tRet te D0 σ W1.h := s_ret h g.fh fun v W2 g2 r => by
  rw [e]
  exact k v W2 (g.trans g2) r
end
section
variable {K : PySem.W.Frag} {σ : L2.St} {W : Wd} {tl te : TE} {vs : List Nat}
theorem et_yes : EvT tYes σ W true := fun W1 g Q q => q W1 g.rf
theorem filter_all {α : Type} (l : List α) : l.filter (fun _ => true) = l := List.filter_eq_self.mpr fun _ _ => rfl
theorem ev_mapL {α : Type} (xs : List α) (enc : α → D) (g : α → D) {j : Nat} (h : EvD tl σ W (.l (xs.map enc))) (hz : xs.length < 10000000)
    (hb : ∀ (i : Nat) (x : α) (v : V) (W1 : Wd), Grow W W1 → xs[i]? = some x → Rep W1.f (enc x) v → EvD te ((wipe σ vs).set j (some v)) W1 (g x)) (hj : j ∈ vs := by decide) :
    EvD (tLc (iList K tl) (gName j) tYes te vs) σ W (.l (xs.map g)) := by
  have := ev_lcL (K := K) (vs := vs) (te := te) xs enc (fun _ => true) g h hz (fun i x v W1 gr hx r => ⟨et_yes, fun _ => hb i x v W1 gr hx r⟩) hj
  rw [filter_all] at this
  exact this
theorem ev_mapR {ta : TA} (n : Nat) (g : Nat → D) {j : Nat} (h : EvA ta σ W [dn n]) (hz : n < 10000000)
    (hb : ∀ (i : Nat) (W1 : Wd), Grow W W1 → i < n → EvD te ((wipe σ vs).set j (some (vn i))) W1 (g i)) (hj : j ∈ vs := by decide) :
    EvD (tLc (iRng1 ta) (gName j) tYes te vs) σ W (.l ((List.range n).map g)) := by
  have := ev_lcR (vs := vs) (te := te) n (fun _ => true) g h hz (fun i W1 gr hi => ⟨et_yes, fun _ => hb i W1 gr hi⟩) hj
  rw [filter_all] at this
  exact this
theorem ev_mapE {α : Type} {tl : TE} (xs : List α) (enc : α → D) (g : α × Nat → D) {i1 i2 : Nat} (h : EvD tl σ W (.l (xs.map enc))) (hz : xs.length < 10000000)
    (hb : ∀ (i : Nat) (x : α) (v : V) (W1 : Wd), Grow W W1 → xs[i]? = some x → Rep W1.f (enc x) v → EvD te (((wipe σ vs).set i1 (some (vn i))).set i2 (some v)) W1 (g (x, i))) (hj : i1 ∈ vs := by decide) (hj2 : i2 ∈ vs := by decide) :
    EvD (tLc (iEnum K (tCons tl tNil)) (gTup K 2 (gCons (gName i1) (gCons (gName i2) gNil))) tYes te vs) σ W (.l (xs.zipIdx.map g)) := by
  have := ev_lcE (K := K) (vs := vs) (te := te) xs enc (fun _ => true) g h hz (fun i x v W1 gr hx r => ⟨et_yes, fun _ => hb i x v W1 gr hx r⟩) hj hj2
  rw [filter_all] at this
  exact this
theorem EvA.mono {ta : TA} {ds : List D} {W' : Wd} (g : Grow W W') (h : EvA ta σ W ds) : EvA ta σ W' ds := fun W1 a Q q => h W1 (g.trans a) Q q
theorem cut_to {ds : List D} (k : Nat) : (ds.drop (HT.sIx ds.length 0 none)).take (HT.sIx ds.length ds.length (some (k : Int)) - HT.sIx ds.length 0 none) = ds.take k := by
  rw [HT.sIx_none, HT.sIx_nat, List.drop_zero, Nat.sub_zero]
  exact List.take_eq_take_iff.mpr (by omega)
theorem cut_from {ds : List D} (k : Nat) : (ds.drop (HT.sIx ds.length 0 (some (k : Int)))).take (HT.sIx ds.length ds.length none - HT.sIx ds.length 0 (some (k : Int))) = ds.drop k := by
  rw [HT.sIx_none, HT.sIx_nat]
  by_cases h : k ≤ ds.length
  · rw [Nat.min_eq_left h, List.take_of_length_le (by rw [List.length_drop]; exact Nat.le_refl _)]
  · rw [Nat.min_eq_right (by omega), List.drop_length, List.drop_eq_nil_of_le (by omega), List.take_nil]
theorem max_dn (a b : Nat) : D.i (max (a : Int) (b : Int)) = dn (max a b) := congrArg D.i (by omega)
theorem mapD {α β : Type} (l : List α) (f : α → β) (g : β → D) : D.l (l.map fun x => g (f x)) = D.l ((l.map f).map g) := by
  rw [List.map_map]
  rfl
end
end Hm
end
section
set_option Elab.async false
set_option linter.all false
set_option maxRecDepth 100000
set_option maxHeartbeats 4000000
namespace Hm
open PySem PySem.Spec PyProof.Rows L2
open Vbjtah (versionCount edgesOf isBelow distance minimumOf)
/-! ### what is known though it may change later: values of themselves -/
section
variable {K : PySem.W.Frag} {σ : L2.St} {W W' : Wd} {ta tb te : TE} {d : D} {v : V}
theorem EvD.raw (h : EvD te σ W (.v v)) (r : Rep W.f d v) : EvD te σ W d := fun W1 g Q q => h W1 g _ fun u W2 g2 e => by
  have e' : u = v := e
  subst e'
  exact q u W2 g2 (Rep.mono (g.ff.trans g2.ff) d u r)
theorem ev_own {i : Nat} (h : σ[i]? = some (some v)) : EvD (tVar i) σ W (.v v) := fun W1 g _ q => ⟨v, h, q v W1 g.rf rfl⟩
theorem ev_ownIx {p : Addr} {vs : List V} {j : Nat} (ha : EvD ta σ W (.v (.ref p))) (hp : W.h p = some (.lst vs)) (hj : vs[j]? = some v) (hb : EvD tb σ W (dn j)) : EvD (tOp (rIxL K) ta tb) σ W (.v v) := fun W1 g Q q =>
  ha W1 g _ fun x W2 g2 rx => hb W2 (g.trans g2) _ fun y W3 g3 ry => ⟨p, vs, (j : Int), v, rx, ry, SqL.of (((g.trans g2).trans g3).hh p _ hp), atI_nat hj, q v W3 (g2.trans g3) rfl⟩
theorem ev_ownLast {p : Addr} {vs : List V} (ha : EvD ta σ W (.v (.ref p))) (hp : W.h p = some (.lst (vs ++ [v]))) (hb : EvD tb σ W (.i (-1))) : EvD (tOp (rIxL K) ta tb) σ W (.v v) := fun W1 g Q q =>
  ha W1 g _ fun x W2 g2 rx => hb W2 (g.trans g2) _ fun y W3 g3 ry => ⟨p, _, -1, v, rx, ry, SqL.of (((g.trans g2).trans g3).hh p _ hp), by
    unfold atI ixN
    rw [if_neg (by omega), if_pos (by rw [List.length_append]; simp only [List.length_cons, List.length_nil]; omega)]
    show (vs ++ [v])[(-1 + ((vs ++ [v]).length : Int)).toNat]? = some v
    rw [show (-1 + ((vs ++ [v]).length : Int)).toNat = vs.length by rw [List.length_append]; simp only [List.length_cons, List.length_nil]; omega]
    simp, q v W3 (g2.trans g3) rfl⟩
theorem ev_ownFld {a C dx : Addr} {fs : List (Str × V)} {f : Str} (cl : Cls K C) (na : NoAttr K C f) (ha : EvD ta σ W (.v (.ref a))) (hp : W.h a = some (.ins C dx fs)) (hl : fs.lookup f = some v) : EvD (tFld K ta f) σ W (.v v) := fun W1 g Q q =>
  ha W1 g _ fun x W2 g2 rx => ⟨a, C, dx, fs, v, rx, (g.trans g2).hh a _ hp, cl, na, hl, q v W2 g2 rfl⟩
theorem ev_minN {ns : List Nat} (h : ns ≠ []) (ha : EvD ta σ W (.l (ns.map dn))) : EvD (tCB (rMin K) (tCons ta tNil)) σ W (dn (minimumOf ns)) := by
  have h1 : minimumOf ns ∈ ns ∧ ∀ y ∈ ns, minimumOf ns ≤ y := by
    obtain ⟨x, r, rfl⟩ : ∃ x r, ns = x :: r := by
      cases ns with
      | nil => exact absurd rfl h
      | cons x r => exact ⟨x, r, rfl⟩
    unfold minimumOf
    show List.foldl min x (x :: r) ∈ x :: r ∧ ∀ y ∈ x :: r, List.foldl min x (x :: r) ≤ y
    rw [List.foldl_cons, Nat.min_self]
    have gen : ∀ (l : List Nat) (a : Nat), (l.foldl min a = a ∨ l.foldl min a ∈ l) ∧ l.foldl min a ≤ a ∧ ∀ y ∈ l, l.foldl min a ≤ y := by
      intro l
      induction l with
      | nil => intro a; exact ⟨.inl rfl, Nat.le_refl _, fun y hy => by cases hy⟩
      | cons b l ih =>
        intro a
        obtain ⟨i1, i2, i3⟩ := ih (min a b)
        rw [List.foldl_cons]
        refine ⟨?_, by omega, fun y hy => ?_⟩
        · rcases i1 with i1 | i1
          · rw [i1]
            by_cases q : a ≤ b
            · left; omega
            · right
              rw [Nat.min_eq_right (by omega)]
              exact List.mem_cons_self
          · right
            exact List.mem_cons_of_mem _ i1
        · rcases List.mem_cons.mp hy with q | q
          · subst q; omega
          · exact i3 y q
    obtain ⟨i1, i2, i3⟩ := gen r x
    refine ⟨?_, fun y hy => ?_⟩
    · rcases i1 with i1 | i1
      · rw [i1]; exact List.mem_cons_self
      · exact List.mem_cons_of_mem _ i1
    · rcases List.mem_cons.mp hy with q | q
      · subst q; exact i2
      · exact i3 y q
  rw [dn_int] at ha
  exact ev_min (K := K) (List.mem_map.mpr ⟨_, h1.1, rfl⟩) (fun y hy => by
    obtain ⟨n, hn, rfl⟩ := List.mem_map.mp hy
    exact Int.ofNat_le.mpr (h1.2 n hn)) ha
end
/-! ### a list that is built by a loop -/
section
variable {K : PySem.W.Frag} {σ : L2.St} {W : Wd} {te tl : TE} {ta : TA} {D0 : Ends}
/-- a list of one's own, in a loop: its contents so far -/
structure Own (E : Wd) (p : Addr) (ds : List D) (W' : Wd) : Prop where
  gr : Grow E W'
  nf : W'.f p = none
  ex : ∃ vs, W'.h p = some (.lst vs) ∧ Reps W'.f ds vs
theorem Own.start {E W : Wd} (g : Grow E W) {p : Addr} (hp : W.h p = none) : Own E p [] ⟨W.f, upd W.h p (.lst [])⟩ := ⟨g.trans (.own g.fh hp), none_of g.fh hp, [], upd_same, rfl⟩
theorem Own.more {E W W1 : Wd} {p : Addr} {ds : List D} (o : Own E p ds W) (g : Grow W W1) : Own E p ds W1 := by
  obtain ⟨g0, h0, vs, h1, h2⟩ := o
  exact ⟨g0.trans g, g.fr p h0 (by rw [h1]; exact fun e => nomatch e), vs, g.hh p _ h1, Reps.mono g.ff _ _ h2⟩
theorem Own.add {E W1 : Wd} {p : Addr} {ds es : List D} {vs ws : List V} (o : Own E p ds W1) (hn : E.h p = none) (h1 : W1.h p = some (.lst vs)) (r : Reps W1.f es ws) : Own E p (ds ++ es) ⟨W1.f, upd W1.h p (.lst (vs ++ ws))⟩ := by
  obtain ⟨g0, h0, vs', h1', h2⟩ := o
  rw [h1] at h1'
  cases h1'
  exact ⟨g0.set hn h0, h0, _, upd_same, h2.app r⟩
/-- .. and at last -/
theorem Own.done {E W1 : Wd} {p : Addr} {ds : List D} (o : Own E p ds W1) (hn : E.h p = none) : ∃ W2, W2.h = W1.h ∧ Grow E W2 ∧ Rep W2.f (.l ds) (.ref p) ∧ Ex W1.f W2.f := by
  obtain ⟨g0, h0, vs, h1, h2⟩ := o
  exact ⟨⟨upd W1.f p (.lst vs), W1.h⟩, rfl, g0.frz hn h0 h1, frz_rep h0 h2, .new h0⟩
theorem s_buildR {i j : Nat} (n : Nat) (g : Nat → D) (hi : i < σ.length) (hij : i ≠ j) (ok : Ex W.f W.h) (hz : n < 1000000)
    (ha : ∀ p, EvA ta (σ.set i (some (.ref p))) W [dn n])
    (hb : ∀ p m W1, Grow W W1 → m < n → EvD te ((σ.set i (some (.ref p))).set j (some (vn m))) W1 (g m))
    (k : ∀ v W1, Grow W W1 → Rep W1.f (.l ((List.range n).map g)) v → D0.rt v W1.h) :
    tSeq (tAsg (tLst tNil) (gName i)) (tSeq (tFor (iRng1 ta) (gName j) (tDrop (tBM K "list" rAppend (tVar i) (tCons te tNil)))) (tRet (tVar i))) D0 σ W.h := by
  refine s_nil ok fun p hp => ?_
  dsimp only
  have O := Own.start (.refl ok) hp
  refine s_forR (W := ⟨W.f, upd W.h p (.lst [])⟩) n ((ha p).mono O.gr) (by omega) O.gr.fh fun W1 g1 => ⟨fun m σ' W' => (∀ y, σ'.set j y = (σ.set i (some (.ref p))).set j y) ∧ σ'[i]? = some (some (.ref p)) ∧ Own W p ((List.range m).map g) W', ⟨fun _ => rfl, by rw [List.getElem?_set_self hi], O.more g1⟩, ?_, ?_⟩
  · rintro m σ' W' hm ⟨h1, h2, h3⟩
    obtain ⟨vs, h4, h5⟩ := h3.ex
    have hl := h5.len
    rw [List.length_map, List.length_range] at hl
    have e := h1 (some (vn m))
    refine s_app (W := W') (by rw [e]; exact hb p m W' h3.gr hm) h3.gr.fh (by rw [List.getElem?_set_ne (by omega)]; exact h2) h4 (by omega) fun v W2 g2 r2 => ?_
    refine ⟨⟨W2.f, _⟩, rfl, fun y => by rw [List.set_set, h1], by rw [List.getElem?_set_ne (by omega)]; exact h2, ?_⟩
    rw [List.range_succ, List.map_append]
    exact (h3.more g2).add hp (g2.hh p _ h4) (.one r2)
  · rintro σ' W' ⟨h1, h2, h3⟩
    obtain ⟨W2, e2, g2, r2, _⟩ := h3.done hp
    refine ⟨_, h2, ?_⟩
    rw [← e2]
    exact k _ W2 g2 r2
theorem s_buildL {α : Type} (xs : List α) (enc : α → D) {i j : Nat} (g : α → D) (hi : i < σ.length) (hij : i ≠ j) (ok : Ex W.f W.h) (hz : xs.length < 1000000)
    (ha : ∀ p, EvD tl (σ.set i (some (.ref p))) W (.l (xs.map enc)))
    (hb : ∀ (p : Addr) (m : Nat) (x : α) (v : V) (W1 : Wd), Grow W W1 → xs[m]? = some x → Rep W1.f (enc x) v → EvD te ((σ.set i (some (.ref p))).set j (some v)) W1 (g x))
    (k : ∀ v W1, Grow W W1 → Rep W1.f (.l (xs.map g)) v → D0.rt v W1.h) :
    tSeq (tAsg (tLst tNil) (gName i)) (tSeq (tFor (iList K tl) (gName j) (tDrop (tBM K "list" rAppend (tVar i) (tCons te tNil)))) (tRet (tVar i))) D0 σ W.h := by
  refine s_nil ok fun p hp => ?_
  dsimp only
  have O := Own.start (.refl ok) hp
  refine s_forL (W := ⟨W.f, upd W.h p (.lst [])⟩) xs enc ((ha p).mono O.gr) O.gr.fh fun W1 g1 => ⟨fun m σ' W' => (∀ y, σ'.set j y = (σ.set i (some (.ref p))).set j y) ∧ σ'[i]? = some (some (.ref p)) ∧ Own W p ((xs.take m).map g) W' ∧ Ex W1.f W'.f, ⟨fun _ => rfl, by rw [List.getElem?_set_self hi], by rw [List.take_zero]; exact O.more g1, .refl _⟩, fun m σ' W' h => ⟨h.2.2.2, h.2.2.1.gr.fh⟩, ?_, ?_⟩
  · rintro m x v σ' W' hx ⟨h1, h2, h3, hx1⟩ rx
    obtain ⟨vs, h4, h5⟩ := h3.ex
    have hl := h5.len
    rw [List.length_map, List.length_take] at hl
    have e := h1 (some v)
    refine s_app (W := W') (by rw [e]; exact hb p m x v W' h3.gr hx rx) h3.gr.fh (by rw [List.getElem?_set_ne (by omega)]; exact h2) h4 (by omega) fun v W2 g2 r2 => ?_
    refine ⟨⟨W2.f, _⟩, rfl, fun y => by rw [List.set_set, h1], by rw [List.getElem?_set_ne (by omega)]; exact h2, ?_, hx1.trans g2.ff⟩
    rw [List.take_add_one, hx, List.map_append]
    exact (h3.more g2).add hp (g2.hh p _ h4) (.one r2)
  · rintro σ' W' ⟨h1, h2, h3, _⟩
    rw [List.take_length] at h3
    obtain ⟨W2, e2, g2, r2, _⟩ := h3.done hp
    refine ⟨_, h2, ?_⟩
    rw [← e2]
    exact k _ W2 g2 r2
end
end Hm
end
section
set_option Elab.async false
set_option linter.all false
set_option maxRecDepth 100000
set_option maxHeartbeats 4000000
namespace Hm
open PySem PySem.Spec PyProof.Rows L2
open C8 (Cal Met Mak pe_c pe_mt pe_mt0 pe_mk pe_gc)
open Vbjtah (versionCount edgesOf isBelow distance)
/-! ### trees -/
def lenAt (t : Tr) (e : Nat) : Nat := Vbjtah.lengthOf t e
theorem len_at {t : Tr} (h : Wf t) {e : Nat} (he : e ∈ edgesOf t) : ((0 :: t.lengths).map dn)[e]? = some (dn (Vbjtah.lengthOf t e)) := by
  obtain ⟨h1, h2⟩ := mem_edges.mp he
  obtain ⟨i, rfl⟩ : ∃ i, e = i + 1 := ⟨e - 1, by omega⟩
  have hl := h.len
  unfold versionCount at h2
  rw [at_nat (by show i + 1 < t.lengths.length + 1; omega)]
  rfl
theorem par_at {t : Tr} {e : Nat} (h1 : 0 < e) (h2 : e < versionCount t) : ((0 :: t.parents).map dn)[e]? = some (dn (parOf t e)) := by
  obtain ⟨i, rfl⟩ : ∃ i, e = i + 1 := ⟨e - 1, by omega⟩
  unfold versionCount at h2
  rw [at_nat (by show i + 1 < t.parents.length + 1; omega)]
  rfl
theorem edge_lt {t : Tr} {l : List Nat} {i e : Nat} (h : l[i]? = some e) (hl : ∀ e ∈ l, e ∈ edgesOf t) : e ∈ edgesOf t := hl e (List.mem_of_getElem? h)
theorem edges_sz {t : Tr} (h : Wf t) : (edgesOf t).length < 10000000 := by
  have := h.pn
  unfold edgesOf
  rw [List.length_map, List.length_range]
  omega
def isJoined (t : Tr) (v u : Nat) : Bool := if v = u then false else (decide (0 < u) && decide (parOf t u = v)) || (decide (0 < v) && decide (parOf t v = u))
section
variable {P : Program} {w : World} {K : PySem.W.Frag} {mg : Str → Option Value} {base : Heap}
abbrev sp_Tree_edges (K : PySem.W.Frag) : Sp := PuSp (ι := Tr × Nat × Bool) (fun (t, F, full) => [dTree K t F full]) (fun (t, F, full) => Wf t) (fun (t, F, full) => .l ((edgesOf t).map dn))
theorem met_Tree_edges (T : Top K mg) : Met P w K mg base 1 (C_Tree K) "edges" (sp_Tree_edges K) [] :=
  metOf (cl_Tree T) (me_Tree_edges T) (F_Tree_edges T) sc_Tree_edges (fun _ _ _ _ _ _ us hl => match us, hl with | [_], _ => rfl) (fun _ _ _ _ h => h.len fun _ => rfl) fun cdv A outer s H vs Q E hr h => by
  obtain ⟨⟨t, F, full⟩, Hf, ok, ⟨v0, _, rfl, r0, rfl⟩, hp, k⟩ := h
  try dsimp only at hp k
  refine ⟨_, (pss_one (ps_ret (pe_listRg rfl rfl (T_list T) (prg_2 rfl (T_range T) pe_int (pe_fldK K rfl (pv 0) rfl))))), ?_⟩
  exact s_ret (W := ⟨Hf, H⟩) ((ev_listRg (x := 1) (y := versionCount t) ev_int (fld_count T (ev_var r0 rfl)) (by decide) (by have := vc_le hp; omega)).is (by rw [edges_eq])) ok k
abbrev sp_Tree_is_lower (K : PySem.W.Frag) : Sp := PuSp (ι := Tr × Nat × Bool × Nat × Nat) (fun (t, F, full, e, v) => [dTree K t F full, dn e, dn v]) (fun (t, F, full, e, v) => Wf t ∧ v < versionCount t) (fun (t, F, full, e, v) => .b (isBelow t e v))
theorem met_Tree_is_lower (T : Top K mg) : Met P w K mg base 1 (C_Tree K) "is_lower" (sp_Tree_is_lower K) [] :=
  metOf (cl_Tree T) (me_Tree_is_lower T) (F_Tree_is_lower T) sc_Tree_is_lower (fun _ _ _ _ _ _ us hl => match us, hl with | [_, _, _], _ => rfl) (fun _ _ _ _ h => h.len fun _ => rfl) fun cdv A outer s H vs Q E hr h => by
  obtain ⟨⟨t, F, full, e, v⟩, Hf, ok, ⟨v0, _, rfl, r0, v1, _, rfl, r1, v2, _, rfl, r2, rfl⟩, hp, k⟩ := h
  try dsimp only at hp k
  refine ⟨_, (pss_one (ps_ret (pe_cmpR (inK K rfl) (pv 1) (pe_ix (ixL K rfl) (pe_fldK K rfl (pv 0) rfl) (pv 2) (fun _ _ => rfl)) rfl))), ?_⟩
  exact s_ret (W := ⟨Hf, H⟩) ((ev_op (rv_inN (m := e) (l := ups t v)) (ev_var r1 rfl) (ev_op (rv_ix (at_range hp.2)) (fld_ups T (ev_var r0 rfl)) (ev_var r2 rfl))).is (by rw [isBelow_dec hp.1 hp.2])) ok k
abbrev sp_Tree_edges_between (K : PySem.W.Frag) : Sp := PuSp (ι := Tr × Nat × Bool × Nat × Nat) (fun (t, F, full, v, u) => [dTree K t F full, dn v, dn u]) (fun (t, F, full, v, u) => Wf t ∧ v < versionCount t ∧ u < versionCount t) (fun (t, F, full, v, u) => .l (((edgesOf t).filter fun e => isBelow t e v != isBelow t e u).map dn))
theorem met_Tree_edges_between (T : Top K mg) : Met P w K mg base 2 (C_Tree K) "edges_between" (sp_Tree_edges_between K) [] :=
  metOf (cl_Tree T) (me_Tree_edges_between T) (F_Tree_edges_between T) sc_Tree_edges_between (fun _ _ _ _ _ _ us hl => match us, hl with | [_, _, _], _ => rfl) (fun _ _ _ _ h => h.len fun _ => rfl) fun cdv A outer s H vs Q E hr h => by
  obtain ⟨⟨t, F, full, v, u⟩, Hf, ok, ⟨v0, _, rfl, r0, v1, _, rfl, r1, v2, _, rfl, r2, rfl⟩, hp, k⟩ := h
  try dsimp only at hp k
  refine ⟨_, (pss_one (ps_ret (pe_lc (own := [("edge", 3)]) (g := gName 3) rfl sc_Tree_edges_between.nd (pi_listK K rfl (pe_mt0 (met_Tree_edges T) hr (by decide) (pv 0))) (blkOk_by (own := [("edge", 3)]) (N := N_Tree_edges_between) (sc := defScope s_Tree_edges_between) (by decide +kernel)) (fun _ _ _ _ _ => (pg_name (i := 3) sc_Tree_edges_between.nd rfl (Or.inl rfl) (hf := Or.inr rfl))) (fun _ _ _ _ _ => (pts_one (pt_cmpR op_ne (pe_mt (met_Tree_is_lower T) hr (by decide) (pv 0) (pa_cons (pv 3) (pa_cons (pv 1) pa_nil))) (pe_mt (met_Tree_is_lower T) hr (by decide) (pv 0) (pa_cons (pv 3) (pa_cons (pv 2) pa_nil))) (nomark _)))) (fun _ _ _ _ _ => (pv 3))))), ?_⟩
  exact s_ret (W := ⟨Hf, H⟩) (ev_lcL (edgesOf t) dn (fun e => isBelow t e v != isBelow t e u) dn (ev_meth (x := (t, F, full)) rfl hp.1 (by cases full <;> decide +kernel) (ev_var r0 rfl) ea_nil) (edges_sz hp.1) fun i e x W1 g hx rx =>
      ⟨et_test (ev_op rv_neB (ev_meth (x := (t, F, full, e, v)) rfl ⟨hp.1, hp.2.1⟩ (by cases full <;> decide +kernel) (ev_var (up g r0) rfl) (ea_cons (ev_var rx rfl) (ea_cons (ev_var (up g r1) rfl) ea_nil))) (ev_meth (x := (t, F, full, e, u)) rfl ⟨hp.1, hp.2.2⟩ (by cases full <;> decide +kernel) (ev_var (up g r0) rfl) (ea_cons (ev_var rx rfl) (ea_cons (ev_var (up g r2) rfl) ea_nil)))), fun _ => ev_var rx rfl⟩) ok k
abbrev sp_Tree_measured (K : PySem.W.Frag) : Sp := PuSp (ι := Tr × Nat × Bool × Nat × Nat) (fun (t, F, full, v, u) => [dTree K t F full, dn v, dn u]) (fun (t, F, full, v, u) => Wf t ∧ v < versionCount t ∧ u < versionCount t) (fun (t, F, full, v, u) => dn (distance t v u))
theorem met_Tree_measured (T : Top K mg) : Met P w K mg base 3 (C_Tree K) "measured" (sp_Tree_measured K) [] :=
  metOf (cl_Tree T) (me_Tree_measured T) (F_Tree_measured T) sc_Tree_measured (fun _ _ _ _ _ _ us hl => match us, hl with | [_, _, _], _ => rfl) (fun _ _ _ _ h => h.len fun _ => rfl) fun cdv A outer s H vs Q E hr h => by
  obtain ⟨⟨t, F, full, v, u⟩, Hf, ok, ⟨v0, _, rfl, r0, v1, _, rfl, r1, v2, _, rfl, r2, rfl⟩, hp, k⟩ := h
  try dsimp only at hp k
  refine ⟨_, (pss_one (ps_ret (pe_callB (sumK K rfl rfl) rfl (T_sum T) b_sum (pa_cons (pe_lc (own := [("edge", 3)]) (g := gName 3) (tt := tYes) rfl sc_Tree_measured.nd (pi_listK K rfl (pe_mt (met_Tree_edges_between T) hr (by decide) (pv 0) (pa_cons (pv 1) (pa_cons (pv 2) pa_nil)))) (blkOk_by (own := [("edge", 3)]) (N := N_Tree_measured) (sc := defScope s_Tree_measured) (by decide +kernel)) (fun _ _ _ _ _ => (pg_name (i := 3) sc_Tree_measured.nd rfl (Or.inl rfl) (hf := Or.inr rfl))) (fun _ _ _ _ _ => pts_nil) (fun _ _ _ _ _ => (pe_ix (ixL K rfl) (pe_fldK K rfl (pv 0) rfl) (pv 3) (fun _ _ => rfl)))) pa_nil)))), ?_⟩
  exact s_ret (W := ⟨Hf, H⟩) ((ev_sumN (ns := ((edgesOf t).filter fun e => isBelow t e v != isBelow t e u).map (Vbjtah.lengthOf t)) ((ev_mapL ((edgesOf t).filter fun e => isBelow t e v != isBelow t e u) dn (fun e => dn (Vbjtah.lengthOf t e)) (ev_meth (x := (t, F, full, v, u)) rfl hp (by cases full <;> decide +kernel) (ev_var r0 rfl) (ea_cons (ev_var r1 rfl) (ea_cons (ev_var r2 rfl) ea_nil))) (Nat.lt_of_le_of_lt (List.length_filter_le _ _) (edges_sz hp.1)) fun i e x W1 g hx rx =>
      ev_op (rv_ix (len_at hp.1 (edge_lt hx fun e he => (List.mem_filter.mp he).1))) (fld_lengths T (ev_var (up g r0) rfl)) (ev_var rx rfl)).is (mapD _ _ _))).is (by rw [dist_eq])) ok k
abbrev sp_Tree_distances (K : PySem.W.Frag) : Sp := PuSp (ι := Tr × Nat × Bool × Nat) (fun (t, F, full, v) => [dTree K t F full, dn v]) (fun (t, F, full, v) => Wf t ∧ v < versionCount t) (fun (t, F, full, v) => .l ((List.range (versionCount t)).map fun u => dn (distance t v u)))
theorem met_Tree_distances (T : Top K mg) : Met P w K mg base 4 (C_Tree K) "distances" (sp_Tree_distances K) [] :=
  metOf (cl_Tree T) (me_Tree_distances T) (F_Tree_distances T) sc_Tree_distances (fun _ _ _ _ _ _ us hl => match us, hl with | [_, _], _ => rfl) (fun _ _ _ _ h => h.len fun _ => rfl) fun cdv A outer s H vs Q E hr h => by
  obtain ⟨⟨t, F, full, v⟩, Hf, ok, ⟨v0, _, rfl, r0, v1, _, rfl, r1, rfl⟩, hp, k⟩ := h
  try dsimp only at hp k
  refine ⟨_, (pss_one (ps_ret (pe_lc (own := [("other", 2)]) (g := gName 2) (tt := tYes) rfl sc_Tree_distances.nd (pi_range1 rfl (T_range T) (pa_cons (pe_fldK K rfl (pv 0) rfl) pa_nil)) (blkOk_by (own := [("other", 2)]) (N := N_Tree_distances) (sc := defScope s_Tree_distances) (by decide +kernel)) (fun _ _ _ _ _ => (pg_name (i := 2) sc_Tree_distances.nd rfl (Or.inl rfl) (hf := Or.inr rfl))) (fun _ _ _ _ _ => pts_nil) (fun _ _ _ _ _ => (pe_mt (met_Tree_measured T) hr (by decide) (pv 0) (pa_cons (pv 1) (pa_cons (pv 2) pa_nil))))))), ?_⟩
  exact s_ret (W := ⟨Hf, H⟩) (ev_mapR (versionCount t) (fun u => dn (distance t v u)) (ea_cons (fld_count T (ev_var r0 rfl)) ea_nil) (by have := vc_le hp.1; omega) fun u W1 g hu =>
      ev_meth (x := (t, F, full, v, u)) rfl ⟨hp.1, hp.2, hu⟩ (by cases full <;> decide +kernel) (ev_var (up g r0) rfl) (ea_cons (ev_var (up g r1) rfl) (ea_cons (ev_var (W := W1) (d := dn u) rfl rfl) ea_nil))) ok k
abbrev sp_Tree_distance (K : PySem.W.Frag) : Sp := PuSp (ι := Tr × Nat × Nat × Nat) (fun (t, F, v, u) => [dTree K t F true, dn v, dn u]) (fun (t, F, v, u) => v < versionCount t ∧ u < versionCount t) (fun (t, F, v, u) => dn (distance t v u))
theorem met_Tree_distance (T : Top K mg) : Met P w K mg base 1 (C_Tree K) "distance" (sp_Tree_distance K) [] :=
  metOf (cl_Tree T) (me_Tree_distance T) (F_Tree_distance T) sc_Tree_distance (fun _ _ _ _ _ _ us hl => match us, hl with | [_, _, _], _ => rfl) (fun _ _ _ _ h => h.len fun _ => rfl) fun cdv A outer s H vs Q E hr h => by
  obtain ⟨⟨t, F, v, u⟩, Hf, ok, ⟨v0, _, rfl, r0, v1, _, rfl, r1, v2, _, rfl, r2, rfl⟩, hp, k⟩ := h
  try dsimp only at hp k
  refine ⟨_, (pss_one (ps_ret (pe_ix (ixL K rfl) (pe_ix (ixL K rfl) (pe_fldK K rfl (pv 0) rfl) (pv 1) (fun _ _ => rfl)) (pv 2) (fun _ _ => rfl)))), ?_⟩
  exact s_ret (W := ⟨Hf, H⟩) (ev_op (rv_ix (at_range hp.2)) (ev_op (rv_ix (at_range hp.1)) (fld_table T (ev_var r0 rfl)) (ev_var r1 rfl)) (ev_var r2 rfl)) ok k
abbrev sp_Tree_way (K : PySem.W.Frag) : Sp := PuSp (ι := Tr × Nat × Nat × Nat) (fun (t, F, v, u) => [dTree K t F true, dn v, dn u]) (fun (t, F, v, u) => Wf t ∧ v < versionCount t ∧ u < versionCount t) (fun (t, F, v, u) => .l ((way t v u).map dn))
theorem met_Tree_way (T : Top K mg) : Met P w K mg base 1 (C_Tree K) "way" (sp_Tree_way K) [] :=
  metOf (cl_Tree T) (me_Tree_way T) (F_Tree_way T) sc_Tree_way (fun _ _ _ _ _ _ us hl => match us, hl with | [_, _, _], _ => rfl) (fun _ _ _ _ h => h.len fun _ => rfl) fun cdv A outer s H vs Q E hr h => by
  obtain ⟨⟨t, F, v, u⟩, Hf, ok, ⟨v0, _, rfl, r0, v1, _, rfl, r1, v2, _, rfl, r2, rfl⟩, hp, k⟩ := h
  try dsimp only at hp k
  refine ⟨_, (pss_cons (ps_setLc (i := 3) (own := [("own", 6)]) (g := gName 6) rfl sc_Tree_way.nd rfl rfl (sw_true rfl rfl rfl (by decide +kernel)) (pi_listK K rfl (pe_ix (ixL K rfl) (pe_fldK K rfl (pv 0) rfl) (pv 1) (fun _ _ => rfl))) (blkOk_by (own := [("own", 6)]) (N := N_Tree_way) (sc := defScope s_Tree_way) (by decide +kernel)) (fun _ _ _ _ _ => (pg_name (i := 6) sc_Tree_way.nd rfl (Or.inl rfl) (hf := Or.inr rfl))) (fun _ _ _ _ _ => (pts_one (pt_cmpR (notInK K rfl) (pv 6) (pe_ix (ixL K rfl) (pe_fldK K rfl (pv 0) rfl) (pv 2) (fun _ _ => rfl)) rfl))) (fun _ _ _ _ _ => (pv 6)))
      (pss_cons (ps_setLc (i := 4) (own := [("own", 6)]) (g := gName 6) rfl sc_Tree_way.nd rfl rfl (sw_true rfl rfl rfl (by decide +kernel)) (pi_listK K rfl (pe_ix (ixL K rfl) (pe_fldK K rfl (pv 0) rfl) (pv 2) (fun _ _ => rfl))) (blkOk_by (own := [("own", 6)]) (N := N_Tree_way) (sc := defScope s_Tree_way) (by decide +kernel)) (fun _ _ _ _ _ => (pg_name (i := 6) sc_Tree_way.nd rfl (Or.inl rfl) (hf := Or.inr rfl))) (fun _ _ _ _ _ => (pts_one (pt_cmpR (notInK K rfl) (pv 6) (pe_ix (ixL K rfl) (pe_fldK K rfl (pv 0) rfl) (pv 1) (fun _ _ => rfl)) rfl))) (fun _ _ _ _ _ => (pv 6)))
      (pss_cons (ps_setLc (i := 5) (own := [("own", 6)]) (g := gName 6) rfl sc_Tree_way.nd rfl rfl (sw_true rfl rfl rfl (by decide +kernel)) (pi_listK K rfl (pe_ix (ixL K rfl) (pe_fldK K rfl (pv 0) rfl) (pv 1) (fun _ _ => rfl))) (blkOk_by (own := [("own", 6)]) (N := N_Tree_way) (sc := defScope s_Tree_way) (by decide +kernel)) (fun _ _ _ _ _ => (pg_name (i := 6) sc_Tree_way.nd rfl (Or.inl rfl) (hf := Or.inr rfl))) (fun _ _ _ _ _ => (pts_one (pt_cmpR (inK K rfl) (pv 6) (pe_ix (ixL K rfl) (pe_fldK K rfl (pv 0) rfl) (pv 2) (fun _ _ => rfl)) rfl))) (fun _ _ _ _ _ => (pv 6)))
      (pss_one (ps_ret (pe_op op_cat (pe_op op_cat (pv 3) (pe_slice (slL K rfl) (pv 5) po_none (po_some pe_int))) (pe_revK K rfl (pv 4)))))))), ?_⟩
  have lv := ups_len hp.1 hp.2.1
  have lu := ups_len hp.1 hp.2.2
  refine s_set (W := ⟨Hf, H⟩) (ev_lcL (ups t v) dn (fun x => !(decide (x ∈ ups t u))) dn (ev_op (rv_ix (at_range hp.2.1)) (fld_ups T (ev_var r0 rfl)) (ev_var r1 rfl)) (by omega) fun i x y W1 g hx rx => ⟨et_test (ev_op rv_niN (ev_var rx rfl) (ev_op (rv_ix (at_range hp.2.2)) (fld_ups T (ev_var (up g r0) rfl)) (ev_var (up g r2) rfl))), fun _ => ev_var rx rfl⟩) ok fun va W1 g1 ra => ?_
  refine s_set (ev_lcL (ups t u) dn (fun x => !(decide (x ∈ ups t v))) dn (ev_op (rv_ix (at_range hp.2.2)) (fld_ups T (ev_var (up g1 r0) rfl)) (ev_var (up g1 r2) rfl)) (by omega) fun i x y W2 g hx rx => ⟨et_test (ev_op rv_niN (ev_var rx rfl) (ev_op (rv_ix (at_range hp.2.1)) (fld_ups T (ev_var (up (g1.trans g) r0) rfl)) (ev_var (up (g1.trans g) r1) rfl))), fun _ => ev_var rx rfl⟩) g1.fh fun vb W2 g2 rb => ?_
  refine s_set (ev_lcL (ups t v) dn (fun x => decide (x ∈ ups t u)) dn (ev_op (rv_ix (at_range hp.2.1)) (fld_ups T (ev_var (up (g1.trans g2) r0) rfl)) (ev_var (up (g1.trans g2) r1) rfl)) (by omega) fun i x y W3 g hx rx => ⟨et_test (ev_op rv_inN (ev_var rx rfl) (ev_op (rv_ix (at_range hp.2.2)) (fld_ups T (ev_var (up ((g1.trans g2).trans g) r0) rfl)) (ev_var (up ((g1.trans g2).trans g) r2) rfl))), fun _ => ev_var rx rfl⟩) g2.fh fun vc W3 g3 rc => ?_
  have f1 := List.length_filter_le (fun x => !(decide (x ∈ ups t u))) (ups t v)
  have f2 := List.length_filter_le (fun x => !(decide (x ∈ ups t v))) (ups t u)
  refine s_ret ((ev_op (rv_cat (by simp only [List.length_append, List.length_reverse, List.length_map, List.length_take]; omega)) (ev_op (rv_cat (by simp only [List.length_map, List.length_take]; omega)) (ev_var (up (g2.trans g3) ra) rfl) ((ev_slice (ev_var rc rfl) eo_none (eo_some (m := ((1 : Nat) : Int)) ev_int)).is (d' := .l ((((ups t v).filter fun x => decide (x ∈ ups t u)).map dn).take 1)) (by rw [cut_to]))) (ev_rev (ev_var (up g3 rb) rfl))).is ?_) g3.fh fun r W4 g4 r4 => k r W4 (g1.trans (g2.trans (g3.trans g4))) r4
  unfold way
  rw [List.map_append, List.map_append, List.map_take, List.map_reverse]
abbrev sp_Tree_are_joined (K : PySem.W.Frag) : Sp := PuSp (ι := Tr × Nat × Nat × Nat) (fun (t, F, v, u) => [dTree K t F true, dn v, dn u]) (fun (t, F, v, u) => Wf t ∧ v < versionCount t ∧ u < versionCount t) (fun (t, F, v, u) => .b (isJoined t v u))
theorem met_Tree_are_joined (T : Top K mg) : Met P w K mg base 1 (C_Tree K) "are_joined" (sp_Tree_are_joined K) [] :=
  metOf (cl_Tree T) (me_Tree_are_joined T) (F_Tree_are_joined T) sc_Tree_are_joined (fun _ _ _ _ _ _ us hl => match us, hl with | [_, _, _], _ => rfl) (fun _ _ _ _ h => h.len fun _ => rfl) fun cdv A outer s H vs Q E hr h => by
  obtain ⟨⟨t, F, v, u⟩, Hf, ok, ⟨v0, _, rfl, r0, v1, _, rfl, r1, v2, _, rfl, r2, rfl⟩, hp, k⟩ := h
  try dsimp only at hp k
  refine ⟨_, (pss_cons (ps_if (pt_cmpR op_eq (pv 1) (pv 2) (nomark _))
      (pss_one (ps_ret pe_bl))
      pss_nil)
      (pss_one (ps_ret (pe_or (pe_and (pe_cmpR op_gt (pv 2) pe_int (nomark _)) (pe_one (pe_cmpR op_eq (pe_ix (ixL K rfl) (pe_fldK K rfl (pv 0) rfl) (pv 2) (fun _ _ => rfl)) (pv 1) (nomark _)))) (pe_one (pe_and (pe_cmpR op_gt (pv 1) pe_int (nomark _)) (pe_one (pe_cmpR op_eq (pe_ix (ixL K rfl) (pe_fldK K rfl (pv 0) rfl) (pv 1) (fun _ _ => rfl)) (pv 2) (nomark _))))))))), ?_⟩
  refine s_if (W := ⟨Hf, H⟩) (et_test (ev_op rv_eq (ev_var r1 rfl) (ev_var r2 rfl))) ok (fun e W1 g => ?_) (fun e W1 g => ?_)
  · refine s_ret (ev_bl.is ?_) g.fh fun r W2 g2 r2 => k r W2 (g.trans g2) r2
    unfold isJoined
    rw [if_pos (by have := of_decide_eq_true e; omega)]
  · refine s_ret ((ev_orV (ev_andV (ev_op rv_gt (ev_var (up g r2) rfl) ev_int) fun q => ev_op rv_eq (ev_op (rv_ix (par_at (by have := of_decide_eq_true q; omega) hp.2.2)) (fld_parents T (ev_var (up g r0) rfl)) (ev_var (up g r2) rfl)) (ev_var (up g r1) rfl)) fun _ => ev_andV (ev_op rv_gt (ev_var (up g r1) rfl) ev_int) fun q => ev_op rv_eq (ev_op (rv_ix (par_at (by have := of_decide_eq_true q; omega) hp.2.1)) (fld_parents T (ev_var (up g r0) rfl)) (ev_var (up g r1) rfl)) (ev_var (up g r2) rfl)).is ?_) g.fh fun r W2 g2 r2 => k r W2 (g.trans g2) r2
    unfold isJoined
    rw [if_neg (by have := of_decide_eq_false e; omega)]
    simp only [Int.ofNat_lt, Int.ofNat_inj, Int.natCast_pos]
abbrev sp_Tree_neighbours (K : PySem.W.Frag) : Sp := PuSp (ι := Tr × Nat × Nat) (fun (t, F, v) => [dTree K t F true, dn v]) (fun (t, F, v) => Wf t ∧ v < versionCount t) (fun (t, F, v) => .l (((List.range (versionCount t)).filter (isJoined t v)).map dn))
theorem met_Tree_neighbours (T : Top K mg) : Met P w K mg base 2 (C_Tree K) "neighbours" (sp_Tree_neighbours K) [] :=
  metOf (cl_Tree T) (me_Tree_neighbours T) (F_Tree_neighbours T) sc_Tree_neighbours (fun _ _ _ _ _ _ us hl => match us, hl with | [_, _], _ => rfl) (fun _ _ _ _ h => h.len fun _ => rfl) fun cdv A outer s H vs Q E hr h => by
  obtain ⟨⟨t, F, v⟩, Hf, ok, ⟨v0, _, rfl, r0, v1, _, rfl, r1, rfl⟩, hp, k⟩ := h
  try dsimp only at hp k
  refine ⟨_, (pss_one (ps_ret (pe_lc (own := [("own", 2)]) (g := gName 2) rfl sc_Tree_neighbours.nd (pi_range1 rfl (T_range T) (pa_cons (pe_fldK K rfl (pv 0) rfl) pa_nil)) (blkOk_by (own := [("own", 2)]) (N := N_Tree_neighbours) (sc := defScope s_Tree_neighbours) (by decide +kernel)) (fun _ _ _ _ _ => (pg_name (i := 2) sc_Tree_neighbours.nd rfl (Or.inl rfl) (hf := Or.inr rfl))) (fun _ _ _ _ _ => (pts_one (pt_val (pe_mt (met_Tree_are_joined T) hr (by decide) (pv 0) (pa_cons (pv 1) (pa_cons (pv 2) pa_nil)))))) (fun _ _ _ _ _ => (pv 2))))), ?_⟩
  exact s_ret (W := ⟨Hf, H⟩) (ev_lcR (versionCount t) (isJoined t v) dn (ea_cons (fld_count T (ev_var r0 rfl)) ea_nil) (by have := vc_le hp.1; omega) fun u W1 g hu =>
      ⟨et_B (ev_meth (x := (t, F, v, u)) rfl ⟨hp.1, hp.2, hu⟩ (by decide +kernel) (ev_var (up g r0) rfl) (ea_cons (ev_var (up g r1) rfl) (ea_cons (ev_var (W := W1) (d := dn u) rfl rfl) ea_nil))), fun _ => ev_var rfl rfl⟩) ok k
abbrev sp_Tree_beyond (K : PySem.W.Frag) : Sp := PuSp (ι := Tr × Nat × Nat × Nat) (fun (t, F, v, u) => [dTree K t F true, dn v, dn u]) (fun (t, F, v, u) => Wf t ∧ v < versionCount t ∧ u < versionCount t) (fun (t, F, v, u) => .l (((List.range (versionCount t)).filter fun x => isBelow t (max v u) x == isBelow t (max v u) u).map dn))
theorem met_Tree_beyond (T : Top K mg) : Met P w K mg base 2 (C_Tree K) "beyond" (sp_Tree_beyond K) [] :=
  metOf (cl_Tree T) (me_Tree_beyond T) (F_Tree_beyond T) sc_Tree_beyond (fun _ _ _ _ _ _ us hl => match us, hl with | [_, _, _], _ => rfl) (fun _ _ _ _ h => h.len fun _ => rfl) fun cdv A outer s H vs Q E hr h => by
  obtain ⟨⟨t, F, v, u⟩, Hf, ok, ⟨v0, _, rfl, r0, v1, _, rfl, r1, v2, _, rfl, r2, rfl⟩, hp, k⟩ := h
  try dsimp only at hp k
  refine ⟨_, (pss_cons (ps_set (i := 3) sc_Tree_beyond.nd rfl (Or.inr rfl) (pe_callB (call_max2 rfl) rfl (T_max T) b_max (pa_cons (pv 1) (pa_cons (pv 2) pa_nil))))
      (pss_cons (ps_set (i := 4) sc_Tree_beyond.nd rfl (Or.inr rfl) (pe_mt (met_Tree_is_lower T) hr (by decide) (pv 0) (pa_cons (pv 3) (pa_cons (pv 2) pa_nil))))
      (pss_one (ps_ret (pe_lc (own := [("own", 5)]) (g := gName 5) rfl sc_Tree_beyond.nd (pi_range1 rfl (T_range T) (pa_cons (pe_fldK K rfl (pv 0) rfl) pa_nil)) (blkOk_by (own := [("own", 5)]) (N := N_Tree_beyond) (sc := defScope s_Tree_beyond) (by decide +kernel)) (fun _ _ _ _ _ => (pg_name (i := 5) sc_Tree_beyond.nd rfl (Or.inl rfl) (hf := Or.inr rfl))) (fun _ _ _ _ _ => (pts_one (pt_cmpR op_eq (pe_mt (met_Tree_is_lower T) hr (by decide) (pv 0) (pa_cons (pv 3) (pa_cons (pv 5) pa_nil))) (pv 4) (nomark _)))) (fun _ _ _ _ _ => (pv 5))))))), ?_⟩
  refine s_set (W := ⟨Hf, H⟩) ((ev_max2 (ev_var r1 rfl) (ev_var r2 rfl)).is (max_dn v u)) ok fun ve W1 g1 re => ?_
  refine s_set (ev_meth (x := (t, F, true, max v u, u)) rfl ⟨hp.1, hp.2.2⟩ (by decide +kernel) (ev_var (up g1 r0) rfl) (ea_cons (ev_var re rfl) (ea_cons (ev_var (up g1 r2) rfl) ea_nil))) g1.fh fun vs W2 g2 rs => ?_
  exact s_ret (ev_lcR (versionCount t) (fun x => isBelow t (max v u) x == isBelow t (max v u) u) dn (ea_cons (fld_count T (ev_var (up (g1.trans g2) r0) rfl)) ea_nil) (by have := vc_le hp.1; omega) fun x W3 g hx =>
    ⟨et_test (ev_op rv_eqB (ev_meth (x := (t, F, true, max v u, x)) rfl ⟨hp.1, hx⟩ (by decide +kernel) (ev_var (up ((g1.trans g2).trans g) r0) rfl) (ea_cons (ev_var (up (g2.trans g) re) rfl) (ea_cons (ev_var (W := W3) (d := dn x) rfl rfl) ea_nil))) (ev_var (up g rs) rfl)), fun _ => ev_var rfl rfl⟩) g2.fh fun r W3 g3 r3 => k r W3 (g1.trans (g2.trans g3)) r3
abbrev sp_Tree_fixed_cost (K : PySem.W.Frag) : Sp := PuSp (ι := Tr × Nat × Nat × List Nat) (fun (t, F, v, us) => [dTree K t F true, dn v, .l (us.map dn)]) (fun (t, F, v, us) => v < versionCount t ∧ (∀ u ∈ us, u < versionCount t) ∧ us.length ≤ 1000) (fun (t, F, v, us) => dn ((us.map (distance t v)).sum))
theorem met_Tree_fixed_cost (T : Top K mg) : Met P w K mg base 2 (C_Tree K) "fixed_cost" (sp_Tree_fixed_cost K) [] :=
  metOf (cl_Tree T) (me_Tree_fixed_cost T) (F_Tree_fixed_cost T) sc_Tree_fixed_cost (fun _ _ _ _ _ _ us hl => match us, hl with | [_, _, _], _ => rfl) (fun _ _ _ _ h => h.len fun _ => rfl) fun cdv A outer s H vs Q E hr h => by
  obtain ⟨⟨t, F, v, us⟩, Hf, ok, ⟨v0, _, rfl, r0, v1, _, rfl, r1, v2, _, rfl, r2, rfl⟩, hp, k⟩ := h
  try dsimp only at hp k
  refine ⟨_, (pss_one (ps_ret (pe_callB (sumK K rfl rfl) rfl (T_sum T) b_sum (pa_cons (pe_lc (own := [("version", 3)]) (g := gName 3) (tt := tYes) rfl sc_Tree_fixed_cost.nd (pi_listK K rfl (pv 2)) (blkOk_by (own := [("version", 3)]) (N := N_Tree_fixed_cost) (sc := defScope s_Tree_fixed_cost) (by decide +kernel)) (fun _ _ _ _ _ => (pg_name (i := 3) sc_Tree_fixed_cost.nd rfl (Or.inl rfl) (hf := Or.inr rfl))) (fun _ _ _ _ _ => pts_nil) (fun _ _ _ _ _ => (pe_mt (met_Tree_distance T) hr (by decide) (pv 0) (pa_cons (pv 1) (pa_cons (pv 3) pa_nil))))) pa_nil)))), ?_⟩
  exact s_ret (W := ⟨Hf, H⟩) (ev_sumN (ns := us.map (distance t v)) ((ev_mapL us dn (fun u => dn (distance t v u)) (ev_var r2 rfl) (by omega) fun i u x W1 g hx rx => ev_meth (x := (t, F, v, u)) rfl ⟨hp.1, hp.2.1 u (List.mem_of_getElem? hx)⟩ (by decide +kernel) (ev_var (up g r0) rfl) (ea_cons (ev_var (up g r1) rfl) (ea_cons (ev_var rx rfl) ea_nil))).is (mapD _ _ _))) ok k
end
end Hm
end
section
set_option Elab.async false
set_option linter.all false
set_option maxRecDepth 100000
set_option maxHeartbeats 4000000
namespace Hm
open PySem PySem.Spec PyProof.Rows L2
open C8 (Cal Met Mak pe_c pe_mt pe_mt0 pe_mk pe_gc)
open Vbjtah (versionCount edgesOf isBelow distance)
/-! ### limits -/
theorem ev_g {K : PySem.W.Frag} {σ : L2.St} {W : Wd} (n : Int) : EvD (tC (.int n)) σ W (.i n) := ev_int
def areWithin (ns : List Int) (lo hi : Int) (most : Nat) : Bool := decide (ns.length ≤ most) && ns.all fun n => decide (lo ≤ n) && decide (n ≤ hi)
def isVer (n : Int) : Bool := decide (0 ≤ n) && decide (n < 10)
def isRowNo (n : Int) : Bool := decide (1 ≤ n) && decide (n ≤ 9999)
def areParents (ns : List Int) : Bool := decide (ns.length < 10) && ns.zipIdx.all fun x => decide (0 ≤ x.1) && decide (x.1 ≤ (x.2 : Int))
def isTreeArgs (f : Int) (ps ls : List Int) : Bool := (decide (1 ≤ f) && decide (f ≤ 20)) && areParents ps && decide (ls.length = ps.length) && areWithin ls 1 100 10
def areLimits (ns : List Int) : Bool := areWithin ns 0 12 10
def isCheck (a b c : List Int) : Bool := areLimits a && areWithin b 0 9 12 && areWithin c 0 1000000000 10
def isListRight (call : Int) (ns : List Int) : Bool := if call = 3 ∨ call = 6 then areWithin ns 0 9 60 else if call = 9 then areWithin ns (-1000000000) 1000000000 1200 else if call = 12 then areLimits ns else areWithin ns 0 1000 10
theorem all_map_id {α : Type} (l : List α) (f : α → Bool) : (l.map f).all id = l.all f := by
  rw [List.all_map]
  rfl
theorem ev_allL {K : PySem.W.Frag} {σ : L2.St} {W : Wd} {te : TE} {α : Type} {l : List α} {f : α → Bool} (h : EvD te σ W (.l (l.map fun x => .b (f x)))) : EvD (tCB (rAll K) (tCons te tNil)) σ W (.b (l.all f)) := by
  rw [← all_map_id]
  exact ev_all (by rw [List.map_map]; exact h)
section
variable {P : Program} {w : World} {K : PySem.W.Frag} {mg : Str → Option Value} {base : Heap}
abbrev sp_are_within (K : PySem.W.Frag) : Sp := PuSp (ι := List Int × Nat × Int × Int) (fun (ns, most, lo, hi) => [.l (ns.map D.i), dn most, .i lo, .i hi]) (fun (ns, most, lo, hi) => ns.length ≤ 1200) (fun (ns, most, lo, hi) => .b (areWithin ns lo hi most))
theorem cal_are_within (T : Top K mg) : Cal P w K mg base 1 "are_within" (sp_are_within K) [] :=
  calOf (F_are_within T) (gf_are_within T) sc_are_within (fun _ _ _ _ _ _ us hl => match us, hl with | [_, _, _, _], _ => rfl) (fun _ _ _ _ h => h.len fun _ => rfl) fun cdv A outer s H vs Q E hr h => by
  obtain ⟨⟨ns, most, lo, hi⟩, Hf, ok, ⟨v0, _, rfl, r0, v1, _, rfl, r1, v2, _, rfl, r2, v3, _, rfl, r3, rfl⟩, hp, k⟩ := h
  try dsimp only at hp k
  refine ⟨_, (pss_one (ps_ret (pe_and (pe_cmpR op_le (pe_callB (lenK K rfl) rfl (T_len T) b_len (pa_cons (pv 0) pa_nil)) (pv 1) (nomark _)) (pe_one (pe_callB (allK K rfl rfl) rfl (T_all T) b_all (pa_cons (pe_lc (own := [("number", 4)]) (g := gName 4) (tt := tYes) rfl sc_are_within.nd (pi_listK K rfl (pv 0)) (blkOk_by (own := [("number", 4)]) (N := N_are_within) (sc := defScope s_are_within) (by decide +kernel)) (fun _ _ _ _ _ => (pg_name (i := 4) sc_are_within.nd rfl (Or.inl rfl) (hf := Or.inr rfl))) (fun _ _ _ _ _ => pts_nil) (fun _ _ _ _ _ => (pe_chain op_le op_le (pv 2) (pv 4) (pv 3)))) pa_nil)))))), ?_⟩
  exact s_ret (W := ⟨Hf, H⟩) ((ev_andV (ev_op rv_le (ev_lenK (ev_var r0 rfl)) (ev_var r1 rfl)) fun _ => ev_allL (ev_mapL ns D.i (fun n => .b (decide (lo ≤ n) && decide (n ≤ hi))) (ev_var r0 rfl) (by omega) fun i n v W1 g hx rx => ev_chain rv_le rv_le (ev_var (up g r2) rfl) (ev_var rx rfl) (ev_var (up g r3) rfl))).is (by unfold areWithin; simp only [List.length_map, Int.ofNat_le])) ok k
abbrev sp_is_version (K : PySem.W.Frag) : Sp := PuSp (ι := Int) (fun n => [.i n]) (fun n => True) (fun n => .b (isVer n))
theorem cal_is_version (T : Top K mg) : Cal P w K mg base 1 "is_version" (sp_is_version K) [] :=
  calOf (F_is_version T) (gf_is_version T) sc_is_version (fun _ _ _ _ _ _ us hl => match us, hl with | [_], _ => rfl) (fun _ _ _ _ h => h.len fun _ => rfl) fun cdv A outer s H vs Q E hr h => by
  obtain ⟨n, Hf, ok, ⟨v0, _, rfl, r0, rfl⟩, hp, k⟩ := h
  try dsimp only at hp k
  refine ⟨_, (pss_one (ps_ret (pe_chain op_le op_lt pe_int (pv 0) (pe_gc rfl (g_MOST_VERSIONS T))))), ?_⟩
  exact s_ret (W := ⟨Hf, H⟩) (ev_chain rv_le rv_lt ev_int (ev_var r0 rfl) ev_int) ok k
abbrev sp_is_row (K : PySem.W.Frag) : Sp := PuSp (ι := Int) (fun n => [.i n]) (fun n => True) (fun n => .b (isRowNo n))
theorem cal_is_row (T : Top K mg) : Cal P w K mg base 1 "is_row" (sp_is_row K) [] :=
  calOf (F_is_row T) (gf_is_row T) sc_is_row (fun _ _ _ _ _ _ us hl => match us, hl with | [_], _ => rfl) (fun _ _ _ _ h => h.len fun _ => rfl) fun cdv A outer s H vs Q E hr h => by
  obtain ⟨n, Hf, ok, ⟨v0, _, rfl, r0, rfl⟩, hp, k⟩ := h
  try dsimp only at hp k
  refine ⟨_, (pss_one (ps_ret (pe_chain op_le op_le pe_int (pv 0) (pe_gc rfl (g_MOST_ROW T))))), ?_⟩
  exact s_ret (W := ⟨Hf, H⟩) (ev_chain rv_le rv_le ev_int (ev_var r0 rfl) ev_int) ok k
abbrev sp_are_parents (K : PySem.W.Frag) : Sp := PuSp (ι := List Int) (fun ns => [.l (ns.map D.i)]) (fun ns => ns.length ≤ 1200) (fun ns => .b (areParents ns))
theorem cal_are_parents (T : Top K mg) : Cal P w K mg base 1 "are_parents" (sp_are_parents K) [] :=
  calOf (F_are_parents T) (gf_are_parents T) sc_are_parents (fun _ _ _ _ _ _ us hl => match us, hl with | [_], _ => rfl) (fun _ _ _ _ h => h.len fun _ => rfl) fun cdv A outer s H vs Q E hr h => by
  obtain ⟨ns, Hf, ok, ⟨v0, _, rfl, r0, rfl⟩, hp, k⟩ := h
  try dsimp only at hp k
  refine ⟨_, (pss_one (ps_ret (pe_and (pe_cmpR op_lt (pe_callB (lenK K rfl) rfl (T_len T) b_len (pa_cons (pv 0) pa_nil)) (pe_gc rfl (g_MOST_VERSIONS T)) (nomark _)) (pe_one (pe_callB (allK K rfl rfl) rfl (T_all T) b_all (pa_cons (pe_lc (own := [("place", 1), ("parent", 2)]) (g := (gTup K 2 (gCons (gName 1) (gCons (gName 2) gNil)))) (tt := tYes) rfl sc_are_parents.nd (pi_enumK K rfl rfl (T_enumerate T) (pa_cons (pv 0) pa_nil)) (blkOk_by (own := [("place", 1), ("parent", 2)]) (N := N_are_parents) (sc := defScope s_are_parents) (by decide +kernel)) (fun _ _ _ _ _ => (pg_tupK K rfl rfl (pgs_cons (pg_name (i := 1) sc_are_parents.nd rfl (Or.inl rfl) (hf := Or.inr rfl)) (pgs_cons (pg_name (i := 2) sc_are_parents.nd rfl (Or.inl rfl) (hf := Or.inr rfl)) pgs_nil)))) (fun _ _ _ _ _ => pts_nil) (fun _ _ _ _ _ => (pe_chain op_le op_le pe_int (pv 2) (pv 1)))) pa_nil)))))), ?_⟩
  exact s_ret (W := ⟨Hf, H⟩) ((ev_andV (ev_op rv_lt (ev_lenK (ev_var r0 rfl)) ev_int) fun _ => ev_allL (ev_mapE ns D.i (fun x => .b (decide (0 ≤ x.1) && decide (x.1 ≤ (x.2 : Int)))) (ev_var r0 rfl) (by omega) fun i n v W1 g hx rx => ev_chain rv_le rv_le ev_int (ev_var rx rfl) (ev_var (d := dn i) rfl rfl))).is (by unfold areParents; simp only [List.length_map]; rw [show (10 : Int) = ((10 : Nat) : Int) from rfl]; simp only [Int.ofNat_lt])) ok k
abbrev sp_is_tree (K : PySem.W.Frag) : Sp := PuSp (ι := Int × List Int × List Int) (fun (f, ps, ls) => [.i f, .l (ps.map D.i), .l (ls.map D.i)]) (fun (f, ps, ls) => ps.length ≤ 1200 ∧ ls.length ≤ 1200) (fun (f, ps, ls) => .b (isTreeArgs f ps ls))
theorem cal_is_tree (T : Top K mg) : Cal P w K mg base 2 "is_tree" (sp_is_tree K) [] :=
  calOf (F_is_tree T) (gf_is_tree T) sc_is_tree (fun _ _ _ _ _ _ us hl => match us, hl with | [_, _, _], _ => rfl) (fun _ _ _ _ h => h.len fun _ => rfl) fun cdv A outer s H vs Q E hr h => by
  obtain ⟨⟨f, ps, ls⟩, Hf, ok, ⟨v0, _, rfl, r0, v1, _, rfl, r1, v2, _, rfl, r2, rfl⟩, hp, k⟩ := h
  try dsimp only at hp k
  refine ⟨_, (pss_cons (ps_if (PW.pt (pw_or (pt_not (pt_chain op_le op_le pe_int (pv 0) (pe_gc rfl (g_MOST_FACTOR T)))) (pw_or (pt_not (pt_val (pe_c (cal_are_parents T) hr (by decide) rfl (pa_cons (pv 1) pa_nil)))) (pw_or1 (pt_cmpR op_ne (pe_callB (lenK K rfl) rfl (T_len T) b_len (pa_cons (pv 2) pa_nil)) (pe_callB (lenK K rfl) rfl (T_len T) b_len (pa_cons (pv 1) pa_nil)) (nomark _))))))
      (pss_one (ps_ret pe_bl))
      pss_nil)
      (pss_one (ps_ret (pe_c (cal_are_within T) hr (by decide) rfl (pa_cons (pv 2) (pa_cons (pe_gc rfl (g_MOST_VERSIONS T)) (pa_cons pe_int (pa_cons (pe_gc rfl (g_MOST_LENGTH T)) pa_nil)))))))), ?_⟩
  refine s_ifs (W := ⟨Hf, H⟩) (et_or (et_not (et_test (ev_chain rv_le rv_le ev_int (ev_var r0 rfl) ev_int))) fun _ => et_or (et_not (et_B (ev_call (x := ps) hp.1 (ea_cons (ev_var r1 rfl) ea_nil)))) fun _ => et_test (ev_op rv_ne (ev_lenK (ev_var r2 rfl)) (ev_lenK (ev_var r1 rfl)))) ok (fun e W1 g => ?_) (fun e W1 g => ?_)
  · refine s_end g (ev_bl.is ?_) k
    refine congrArg D.b (Eq.symm ?_)
    unfold isTreeArgs
    revert e
    simp only [List.length_map, Int.ofNat_inj]
    cases decide (1 ≤ f) && decide (f ≤ 20) <;> cases areParents ps <;> cases decide (ls.length = ps.length) <;> simp
  · dsimp only
    refine s_end g (EvD.is (ev_call (x := (ls, 10, 1, 100)) hp.2 (ea_cons (ev_var (up g r2) rfl) (ea_cons ev_int (ea_cons ev_int (ea_cons ev_int ea_nil))))) ?_) k
    refine congrArg D.b (Eq.symm ?_)
    unfold isTreeArgs
    revert e
    simp only [List.length_map, Int.ofNat_inj]
    cases decide (1 ≤ f) && decide (f ≤ 20) <;> cases areParents ps <;> cases decide (ls.length = ps.length) <;> simp
abbrev sp_are_limits (K : PySem.W.Frag) : Sp := PuSp (ι := List Int) (fun ns => [.l (ns.map D.i)]) (fun ns => ns.length ≤ 1200) (fun ns => .b (areLimits ns))
theorem cal_are_limits (T : Top K mg) : Cal P w K mg base 2 "are_limits" (sp_are_limits K) [] :=
  calOf (F_are_limits T) (gf_are_limits T) sc_are_limits (fun _ _ _ _ _ _ us hl => match us, hl with | [_], _ => rfl) (fun _ _ _ _ h => h.len fun _ => rfl) fun cdv A outer s H vs Q E hr h => by
  obtain ⟨ns, Hf, ok, ⟨v0, _, rfl, r0, rfl⟩, hp, k⟩ := h
  try dsimp only at hp k
  refine ⟨_, (pss_one (ps_ret (pe_c (cal_are_within T) hr (by decide) rfl (pa_cons (pv 0) (pa_cons (pe_gc rfl (g_MOST_VERSIONS T)) (pa_cons pe_int (pa_cons (pe_gc rfl (g_MOST_LIMIT T)) pa_nil))))))), ?_⟩
  exact s_ret (W := ⟨Hf, H⟩) (ev_call (x := (ns, 10, 0, 12)) hp (ea_cons (ev_var r0 rfl) (ea_cons ev_int (ea_cons ev_int (ea_cons ev_int ea_nil))))) ok k
abbrev sp_is_check (K : PySem.W.Frag) : Sp := PuSp (ι := List Int × List Int × List Int) (fun (a, b, c) => [.l [.l (a.map D.i), .l (b.map D.i), .l (c.map D.i)]]) (fun (a, b, c) => a.length ≤ 1200 ∧ b.length ≤ 1200 ∧ c.length ≤ 1200) (fun (a, b, c) => .b (isCheck a b c))
theorem cal_is_check (T : Top K mg) : Cal P w K mg base 3 "is_check" (sp_is_check K) [] :=
  calOf (F_is_check T) (gf_is_check T) sc_is_check (fun _ _ _ _ _ _ us hl => match us, hl with | [_], _ => rfl) (fun _ _ _ _ h => h.len fun _ => rfl) fun cdv A outer s H vs Q E hr h => by
  obtain ⟨⟨a, b, c⟩, Hf, ok, ⟨v0, _, rfl, r0, rfl⟩, hp, k⟩ := h
  try dsimp only at hp k
  refine ⟨_, (pss_cons (ps_if (PW.pt (pw_or (pt_not (pt_val (pe_c (cal_are_limits T) hr (by decide) rfl (pa_cons (pe_ix (ixL K rfl) (pv 0) pe_int (fun _ _ => rfl)) pa_nil)))) (pw_or1 (pt_not (pt_val (pe_c (cal_are_within T) hr (by decide) rfl (pa_cons (pe_ix (ixL K rfl) (pv 0) pe_int (fun _ _ => rfl)) (pa_cons (pe_gc rfl (g_MOST_ROWS T)) (pa_cons pe_int (pa_cons (pe_op op_sub (pe_gc rfl (g_MOST_VERSIONS T)) pe_int) pa_nil))))))))))
      (pss_one (ps_ret pe_bl))
      pss_nil)
      (pss_one (ps_ret (pe_c (cal_are_within T) hr (by decide) rfl (pa_cons (pe_ix (ixL K rfl) (pv 0) pe_int (fun _ _ => rfl)) (pa_cons (pe_gc rfl (g_MOST_VERSIONS T)) (pa_cons pe_int (pa_cons (pe_gc rfl (g_MOST_VALUE T)) pa_nil)))))))), ?_⟩
  refine s_ifs (W := ⟨Hf, H⟩) (et_or (et_not (et_B (ev_call (x := a) hp.1 (ea_cons (ev_op (rv_ix (j := 0) rfl) (ev_var r0 rfl) ev_int) ea_nil)))) fun _ => et_not (et_B (ev_call (x := (b, 12, 0, 9)) hp.2.1 (ea_cons (ev_op (rv_ix (j := 1) rfl) (ev_var r0 rfl) ev_int) (ea_cons ev_int (ea_cons ev_int (ea_cons (ev_op rv_sub ev_int ev_int) ea_nil))))))) ok (fun e W1 g => ?_) (fun e W1 g => ?_)
  · refine s_end g (ev_bl.is ?_) k
    refine congrArg D.b (Eq.symm ?_)
    unfold isCheck
    revert e
    cases areLimits a <;> cases areWithin b 0 9 12 <;> simp
  · dsimp only
    refine s_end g (EvD.is (ev_call (x := (c, 10, 0, 1000000000)) hp.2.2 (ea_cons (ev_op (rv_ix (j := 2) rfl) (ev_var (up g r0) rfl) ev_int) (ea_cons ev_int (ea_cons ev_int (ea_cons ev_int ea_nil))))) ?_) k
    refine congrArg D.b (Eq.symm ?_)
    unfold isCheck
    revert e
    cases areLimits a <;> cases areWithin b 0 9 12 <;> simp
abbrev sp_is_list_right (K : PySem.W.Frag) : Sp := PuSp (ι := Int × List Int) (fun (call, ns) => [.i call, .l (ns.map D.i)]) (fun (call, ns) => ns.length ≤ 1200) (fun (call, ns) => .b (isListRight call ns))
theorem cal_is_list_right (T : Top K mg) : Cal P w K mg base 3 "is_list_right" (sp_is_list_right K) [] :=
  calOf (F_is_list_right T) (gf_is_list_right T) sc_is_list_right (fun _ _ _ _ _ _ us hl => match us, hl with | [_, _], _ => rfl) (fun _ _ _ _ h => h.len fun _ => rfl) fun cdv A outer s H vs Q E hr h => by
  obtain ⟨⟨call, ns⟩, Hf, ok, ⟨v0, _, rfl, r0, v1, _, rfl, r1, rfl⟩, hp, k⟩ := h
  try dsimp only at hp k
  refine ⟨_, (pss_cons (ps_if (pt_cmpR (inK K rfl) (pv 0) (pe_tup (pa_cons (pe_gc rfl (g_USE T)) (pa_cons (pe_gc rfl (g_SCHEDULE_COST T)) pa_nil))) rfl)
      (pss_one (ps_ret (pe_c (cal_are_within T) hr (by decide) rfl (pa_cons (pv 1) (pa_cons (pe_gc rfl (g_MOST_USES T)) (pa_cons pe_int (pa_cons (pe_op op_sub (pe_gc rfl (g_MOST_VERSIONS T)) pe_int) pa_nil)))))))
      pss_nil)
      (pss_cons (ps_if (pt_cmpR op_eq (pv 0) (pe_gc rfl (g_CHECK_BOUND T)) (nomark _))
      (pss_one (ps_ret (pe_c (cal_are_within T) hr (by decide) rfl (pa_cons (pv 1) (pa_cons (pe_gc rfl (g_MOST_VALUES T)) (pa_cons (pe_op op_sub pe_int (pe_gc rfl (g_MOST_VALUE T))) (pa_cons (pe_gc rfl (g_MOST_VALUE T)) pa_nil)))))))
      pss_nil)
      (pss_cons (ps_if (pt_cmpR op_eq (pv 0) (pe_gc rfl (g_ASSIGN T)) (nomark _))
      (pss_one (ps_ret (pe_c (cal_are_limits T) hr (by decide) rfl (pa_cons (pv 1) pa_nil))))
      pss_nil)
      (pss_one (ps_ret (pe_c (cal_are_within T) hr (by decide) rfl (pa_cons (pv 1) (pa_cons (pe_gc rfl (g_MOST_VERSIONS T)) (pa_cons pe_int (pa_cons (pe_gc rfl (g_MOST_WEIGHT T)) pa_nil)))))))))), ?_⟩
  refine s_ifs (W := ⟨Hf, H⟩) (et_test (ev_op (rv_inT (l := [3, 6])) (ev_var r0 rfl) (ev_tup (ea_cons ev_int (ea_cons ev_int ea_nil))))) ok (fun e W1 g => ?_) (fun e W1 g => ?_)
  · refine s_end g (EvD.is (ev_call (x := (ns, 60, 0, 9)) hp (ea_cons (ev_var (up g r1) rfl) (ea_cons ev_int (ea_cons ev_int (ea_cons (ev_op rv_sub ev_int ev_int) ea_nil))))) ?_) k
    unfold isListRight
    rw [if_pos (by have := of_decide_eq_true e; simpa using this)]
  have n1 : ¬ (call = 3 ∨ call = 6) := by have := of_decide_eq_false e; simpa using this
  refine s_ifs (et_test (ev_op rv_eq (ev_var (up g r0) rfl) ev_int)) g.fh (fun e2 W2 g2 => ?_) (fun e2 W2 g2 => ?_)
  · refine s_end (g.trans g2) (EvD.is (ev_call (x := (ns, 1200, -1000000000, 1000000000)) hp (ea_cons (ev_var (up (g.trans g2) r1) rfl) (ea_cons ev_int (ea_cons (ev_op rv_sub ev_int ev_int) (ea_cons ev_int ea_nil))))) ?_) k
    unfold isListRight
    rw [if_neg n1, if_pos (of_decide_eq_true e2)]
  refine s_ifs (et_test (ev_op rv_eq (ev_var (up (g.trans g2) r0) rfl) ev_int)) g2.fh (fun e3 W3 g3 => ?_) (fun e3 W3 g3 => ?_)
  · refine s_end (g.trans (g2.trans g3)) (EvD.is (ev_call (x := ns) hp (ea_cons (ev_var (up (g.trans (g2.trans g3)) r1) rfl) ea_nil)) ?_) k
    unfold isListRight
    rw [if_neg n1, if_neg (of_decide_eq_false e2), if_pos (of_decide_eq_true e3)]
  · dsimp only
    refine s_end (g.trans (g2.trans g3)) (EvD.is (ev_call (x := (ns, 10, 0, 1000)) hp (ea_cons (ev_var (up (g.trans (g2.trans g3)) r1) rfl) (ea_cons ev_int (ea_cons ev_int (ea_cons ev_int ea_nil))))) ?_) k
    unfold isListRight
    rw [if_neg n1, if_neg (of_decide_eq_false e2), if_neg (of_decide_eq_false e3)]
end
end Hm
end
section
set_option Elab.async false
set_option linter.all false
set_option maxRecDepth 100000
set_option maxHeartbeats 4000000
namespace Hm
open PySem PySem.Spec PyProof.Rows L2
open C8 (Cal Met Mak pe_c pe_mt pe_mt0 pe_mk pe_gc)
open Vbjtah (versionCount edgesOf isBelow distance)
/-! ### all arguments; a tree's making -/
def flagRight (call : Int) (ns : List Int) : Bool := if call = 1 ∨ call = 11 then ns.all isVer else if call = 2 then isRowNo (ns.getD 0 0) && isVer (ns.getD 1 0) else ns.all isRowNo
def areRight (call : Int) (ns : List Int) (ls : List (List Int)) : Bool :=
  if call = 0 then isTreeArgs (ns.getD 0 0) (ls.getD 0 []) (ls.getD 1 [])
  else if call = 13 then isCheck (ls.getD 0 []) (ls.getD 1 []) (ls.getD 2 [])
  else if flagRight call ns = false then false else ls.all (isListRight call)
abbrev dLs (ls : List (List Int)) : D := .l (ls.map fun l => .l (l.map D.i))
def shapeOk (call : Int) (ns : List Int) (ls : List (List Int)) : Prop := (call = 0 → ns.length = 1 ∧ ls.length = 2) ∧ (call = 13 → ls.length = 3) ∧ (call = 2 → ns.length = 2) ∧ ns.length ≤ 10 ∧ ls.length ≤ 10 ∧ ∀ l ∈ ls, l.length ≤ 1200
theorem one_of {α : Type} {l : List α} (h : l.length = 1) : ∃ a, l = [a] := match l, h with | [a], _ => ⟨a, rfl⟩
theorem two_of {α : Type} {l : List α} (h : l.length = 2) : ∃ a b, l = [a, b] := match l, h with | [a, b], _ => ⟨a, b, rfl⟩
theorem three_of {α : Type} {l : List α} (h : l.length = 3) : ∃ a b c, l = [a, b, c] := match l, h with | [a, b, c], _ => ⟨a, b, c, rfl⟩
section
variable {P : Program} {w : World} {K : PySem.W.Frag} {mg : Str → Option Value} {base : Heap}
abbrev sp_are_right (K : PySem.W.Frag) : Sp := PuSp (ι := Int × List Int × List (List Int)) (fun (call, ns, ls) => [.i call, .l (ns.map D.i), dLs ls]) (fun (call, ns, ls) => shapeOk call ns ls) (fun (call, ns, ls) => .b (areRight call ns ls))
theorem cal_are_right (T : Top K mg) : Cal P w K mg base 4 "are_right" (sp_are_right K) [] :=
  calOf (F_are_right T) (gf_are_right T) sc_are_right (fun _ _ _ _ _ _ us hl => match us, hl with | [_, _, _], _ => rfl) (fun _ _ _ _ h => h.len fun _ => rfl) fun cdv A outer s H vs Q E hr h => by
  obtain ⟨⟨call, ns, ls⟩, Hf, ok, ⟨v0, _, rfl, r0, v1, _, rfl, r1, v2, _, rfl, r2, rfl⟩, hp, k⟩ := h
  try dsimp only at hp k
  refine ⟨_, (pss_cons (ps_if (pt_cmpR op_eq (pv 0) (pe_gc rfl (g_TREE T)) (nomark _))
      (pss_one (ps_ret (pe_c (cal_is_tree T) hr (by decide) rfl (pa_cons (pe_ix (ixL K rfl) (pv 1) pe_int (fun _ _ => rfl)) (pa_cons (pe_ix (ixL K rfl) (pv 2) pe_int (fun _ _ => rfl)) (pa_cons (pe_ix (ixL K rfl) (pv 2) pe_int (fun _ _ => rfl)) pa_nil))))))
      pss_nil)
      (pss_cons (ps_if (pt_cmpR op_eq (pv 0) (pe_gc rfl (g_CHECK_ASSIGNMENT T)) (nomark _))
      (pss_one (ps_ret (pe_c (cal_is_check T) hr (by decide) rfl (pa_cons (pv 2) pa_nil))))
      pss_nil)
      (pss_cons (ps_if (pt_cmpR (inK K rfl) (pv 0) (pe_tup (pa_cons (pe_gc rfl (g_DISTANCE T)) (pa_cons (pe_gc rfl (g_CHECK_MEDIAN T)) pa_nil))) rfl)
      (pss_one (ps_if (pt_not (pt_val (pe_callB (allK K rfl rfl) rfl (T_all T) b_all (pa_cons (pe_lc (own := [("number", 4)]) (g := gName 4) (tt := tYes) rfl sc_are_right.nd (pi_listK K rfl (pv 1)) (blkOk_by (own := [("number", 4)]) (N := N_are_right) (sc := defScope s_are_right) (by decide +kernel)) (fun _ _ _ _ _ => (pg_name (i := 4) sc_are_right.nd rfl (Or.inl rfl) (hf := Or.inr rfl))) (fun _ _ _ _ _ => pts_nil) (fun _ _ _ _ _ => (pe_c (cal_is_version T) hr (by decide) rfl (pa_cons (pv 4) pa_nil)))) pa_nil))))
      (pss_one (ps_ret pe_bl))
      pss_nil))
      (pss_one (ps_if (pt_cmpR op_eq (pv 0) (pe_gc rfl (g_ADD T)) (nomark _))
      (pss_one (ps_if (PW.pt (pw_or (pt_not (pt_val (pe_c (cal_is_row T) hr (by decide) rfl (pa_cons (pe_ix (ixL K rfl) (pv 1) pe_int (fun _ _ => rfl)) pa_nil)))) (pw_or1 (pt_not (pt_val (pe_c (cal_is_version T) hr (by decide) rfl (pa_cons (pe_ix (ixL K rfl) (pv 1) pe_int (fun _ _ => rfl)) pa_nil)))))))
      (pss_one (ps_ret pe_bl))
      pss_nil))
      (pss_one (ps_if (pt_not (pt_val (pe_callB (allK K rfl rfl) rfl (T_all T) b_all (pa_cons (pe_lc (own := [("number", 4)]) (g := gName 4) (tt := tYes) rfl sc_are_right.nd (pi_listK K rfl (pv 1)) (blkOk_by (own := [("number", 4)]) (N := N_are_right) (sc := defScope s_are_right) (by decide +kernel)) (fun _ _ _ _ _ => (pg_name (i := 4) sc_are_right.nd rfl (Or.inl rfl) (hf := Or.inr rfl))) (fun _ _ _ _ _ => pts_nil) (fun _ _ _ _ _ => (pe_c (cal_is_row T) hr (by decide) rfl (pa_cons (pv 4) pa_nil)))) pa_nil))))
      (pss_one (ps_ret pe_bl))
      pss_nil)))))
      (pss_one (ps_ret (pe_callB (allK K rfl rfl) rfl (T_all T) b_all (pa_cons (pe_lc (own := [("own", 3)]) (g := gName 3) (tt := tYes) rfl sc_are_right.nd (pi_listK K rfl (pv 2)) (blkOk_by (own := [("own", 3)]) (N := N_are_right) (sc := defScope s_are_right) (by decide +kernel)) (fun _ _ _ _ _ => (pg_name (i := 3) sc_are_right.nd rfl (Or.inl rfl) (hf := Or.inr rfl))) (fun _ _ _ _ _ => pts_nil) (fun _ _ _ _ _ => (pe_c (cal_is_list_right T) hr (by decide) rfl (pa_cons (pv 0) (pa_cons (pv 3) pa_nil))))) pa_nil))))))), ?_⟩
  obtain ⟨h1, h2, h3, h4, h5, h6⟩ := hp
  refine s_ifs (W := ⟨Hf, H⟩) (et_test (ev_op rv_eq (ev_var r0 rfl) ev_int)) ok (fun e W1 g => ?_) (fun e W1 g => ?_)
  · have e := of_decide_eq_true e
    obtain ⟨f, rfl⟩ := one_of (h1 e).1
    obtain ⟨p, l, rfl⟩ := two_of (h1 e).2
    refine s_end g (EvD.is (ev_call (x := (f, p, l)) ⟨h6 p (by simp), h6 l (by simp)⟩ (ea_cons (ev_op (rv_ix (j := 0) rfl) (ev_var (up g r1) rfl) ev_int) (ea_cons (ev_op (rv_ix (j := 0) rfl) (ev_var (up g r2) rfl) ev_int) (ea_cons (ev_op (rv_ix (j := 1) rfl) (ev_var (up g r2) rfl) ev_int) ea_nil)))) ?_) k
    unfold areRight
    rw [if_pos e]
    rfl
  have n0 : ¬ call = 0 := of_decide_eq_false e
  dsimp only
  refine s_ifs (et_test (ev_op rv_eq (ev_var (up g r0) rfl) ev_int)) g.fh (fun e W2 g' => ?_) (fun e W2 g' => ?_)
  · have e := of_decide_eq_true e
    have n0' := n0
    obtain ⟨a, b, c, rfl⟩ := three_of (h2 e)
    refine s_end (g.trans g') (EvD.is (ev_call (x := (a, b, c)) ⟨h6 a (by simp), h6 b (by simp), h6 c (by simp)⟩ (ea_cons (ev_var (up (g.trans g') r2) rfl) ea_nil)) ?_) k
    unfold areRight
    rw [if_neg n0, if_pos e]
    rfl
  have n13 : ¬ call = 13 := of_decide_eq_false e
  have g2 := g.trans g'
  dsimp only
  refine s_if (et_test (ev_op (rv_inT (l := [1, 11])) (ev_var (up g2 r0) rfl) (ev_tup (ea_cons ev_int (ea_cons ev_int ea_nil))))) g2.fh (fun e W3 g' => ?_) (fun e W3 g' => ?_)
  · have e := of_decide_eq_true e
    have e : call = 1 ∨ call = 11 := by simpa using e
    have g3 := g2.trans g'
    refine s_ifs (et_not (et_B (ev_allL (ev_mapL ns D.i (fun n => .b (isVer n)) (ev_var (up g3 r1) rfl) (by omega) fun i n v W9 g9 hx rx => ev_call (x := n) trivial (ea_cons (ev_var rx rfl) ea_nil))))) g3.fh (fun e' W4 g' => ?_) (fun e' W4 g' => ?_)
    · refine s_end (g3.trans g') (ev_bl.is ?_) k
      unfold areRight
      rw [if_neg n0, if_neg n13, if_pos (show flagRight call ns = false from by unfold flagRight; rw [if_pos e]; simpa using e')]
    · have g4 := g3.trans g'
      dsimp only
      refine s_end g4 (EvD.is (ev_allL (ev_mapL ls (fun l => .l (l.map D.i)) (fun l => .b (isListRight call l)) (ev_var (up g4 r2) rfl) (by omega) fun i l v W9 g9 hx rx => ev_call (x := (call, l)) (h6 l (List.mem_of_getElem? hx)) (ea_cons (ev_var (up (g4.trans g9) r0) rfl) (ea_cons (ev_var rx rfl) ea_nil)))) ?_) k
      unfold areRight
      rw [if_neg n0, if_neg n13, if_neg (by rw [show flagRight call ns = true from by unfold flagRight; rw [if_pos e]; simpa using e']; decide)]
  have n1 : ¬ (call = 1 ∨ call = 11) := by have := of_decide_eq_false e; simpa using this
  have g3 := g2.trans g'
  refine s_if (et_test (ev_op rv_eq (ev_var (up g3 r0) rfl) ev_int)) g3.fh (fun e W4 g' => ?_) (fun e W4 g' => ?_)
  · have e := of_decide_eq_true e
    have g4 := g3.trans g'
    obtain ⟨a, b, hab⟩ := two_of (h3 e)
    subst hab
    refine s_ifs (et_or (et_not (et_B (ev_call (x := a) trivial (ea_cons (ev_op (rv_ix (j := 0) rfl) (ev_var (up g4 r1) rfl) ev_int) ea_nil)))) fun _ => et_not (et_B (ev_call (x := b) trivial (ea_cons (ev_op (rv_ix (j := 1) rfl) (ev_var (up g4 r1) rfl) ev_int) ea_nil)))) g4.fh (fun e' W5 g' => ?_) (fun e' W5 g' => ?_)
    · refine s_end (g4.trans g') (ev_bl.is ?_) k
      unfold areRight
      rw [if_neg n0, if_neg n13, if_pos (show flagRight call [a, b] = false from by
        unfold flagRight
        rw [if_neg n1, if_pos e]
        show (isRowNo a && isVer b) = false
        revert e'
        cases isRowNo a <;> cases isVer b <;> simp)]
    · have g5 := g4.trans g'
      dsimp only
      refine s_end g5 (EvD.is (ev_allL (ev_mapL ls (fun l => .l (l.map D.i)) (fun l => .b (isListRight call l)) (ev_var (up g5 r2) rfl) (by omega) fun i l v W9 g9 hx rx => ev_call (x := (call, l)) (h6 l (List.mem_of_getElem? hx)) (ea_cons (ev_var (up (g5.trans g9) r0) rfl) (ea_cons (ev_var rx rfl) ea_nil)))) ?_) k
      unfold areRight
      rw [if_neg n0, if_neg n13, if_neg (by rw [show flagRight call [a, b] = true from by
        unfold flagRight
        rw [if_neg n1, if_pos e]
        show (isRowNo a && isVer b) = true
        revert e'
        cases isRowNo a <;> cases isVer b <;> simp]; decide)]
  have n2 : ¬ call = 2 := of_decide_eq_false e
  have g4 := g3.trans g'
  refine s_ifs (et_not (et_B (ev_allL (ev_mapL ns D.i (fun n => .b (isRowNo n)) (ev_var (up g4 r1) rfl) (by omega) fun i n v W9 g9 hx rx => ev_call (x := n) trivial (ea_cons (ev_var rx rfl) ea_nil))))) g4.fh (fun e' W5 g' => ?_) (fun e' W5 g' => ?_)
  · refine s_end (g4.trans g') (ev_bl.is ?_) k
    unfold areRight
    rw [if_neg n0, if_neg n13, if_pos (show flagRight call ns = false from by unfold flagRight; rw [if_neg n1, if_neg n2]; simpa using e')]
  · have g5 := g4.trans g'
    dsimp only
    refine s_end g5 (EvD.is (ev_allL (ev_mapL ls (fun l => .l (l.map D.i)) (fun l => .b (isListRight call l)) (ev_var (up g5 r2) rfl) (by omega) fun i l v W9 g9 hx rx => ev_call (x := (call, l)) (h6 l (List.mem_of_getElem? hx)) (ea_cons (ev_var (up (g5.trans g9) r0) rfl) (ea_cons (ev_var rx rfl) ea_nil)))) ?_) k
    unfold areRight
    rw [if_neg n0, if_neg n13, if_neg (by rw [show flagRight call ns = true from by unfold flagRight; rw [if_neg n1, if_neg n2]; simpa using e']; decide)]
end
end Hm
end
section
set_option Elab.async false
set_option linter.all false
set_option maxRecDepth 100000
set_option maxHeartbeats 4000000
namespace Hm
open PySem PySem.Spec PyProof.Rows L2
/-! ### lists and objects of one's own -/
theorem Reps.snoc {H : Hp} {d : D} : ∀ {ds : List D} {vs : List V}, Reps H (ds ++ [d]) vs → ∃ vs' v, vs = vs' ++ [v] ∧ Reps H ds vs' ∧ Rep H d v
  | [], _, ⟨v, r, h1, h2, h3⟩ => by
    have e : r = [] := h3
    subst e
    exact ⟨[], v, h1, rfl, h2⟩
  | c :: ds, _, ⟨u, r, h1, h2, h3⟩ => by
    obtain ⟨vs', v, e1, e2, e3⟩ := Reps.snoc (ds := ds) h3
    exact ⟨u :: vs', v, by rw [h1, e1]; rfl, ⟨u, vs', rfl, h2, e2⟩, e3⟩
section
variable {K : PySem.W.Frag} {σ : L2.St} {W E0 : Wd} {te tl tv : TE} {ta : TA} {D0 : Ends} {d : D} {ds : List D} {p : Addr}
theorem Own.last {i : Nat} (o : Own E0 p (ds ++ [d]) W) (hi : σ[i]? = some (some (.ref p))) {tb : TE} (hb : EvD tb σ W (.i (-1))) : EvD (tOp (rIxL K) (tVar i) tb) σ W d := by
  obtain ⟨vs, h1, h2⟩ := o.ex
  obtain ⟨vs', v, rfl, _, r⟩ := h2.snoc
  exact (ev_ownLast (ev_own hi) h1 hb).raw r
theorem Own.at {i j : Nat} (o : Own E0 p ds W) (hi : σ[i]? = some (some (.ref p))) (hj : ds[j]? = some d) {tb : TE} (hb : EvD tb σ W (dn j)) : EvD (tOp (rIxL K) (tVar i) tb) σ W d := by
  obtain ⟨vs, h1, h2⟩ := o.ex
  obtain ⟨v, h3, r⟩ := h2.get hj
  exact (ev_ownIx (ev_own hi) h1 h3 hb).raw r
theorem s_lst {i : Nat} (h : EvA ta σ W ds) (ok : Ex W.f W.h) (hz : ds.length ≤ 10000000) (k : ∀ q W1, Own W q ds W1 → W.h q = none → D0.nx (σ.set i (some (.ref q))) W1.h) : tAsg (tLst ta) (gName i) D0 σ W.h := h W (.refl ok) _ fun vs W1 g r =>
  ⟨szLe (by rw [r.len]; exact hz), fun q hq => k q ⟨W1.f, upd W1.h q (.lst vs)⟩ ⟨g.trans (.own g.fh hq), none_of g.fh hq, vs, upd_same, r⟩ (none_of g.hh hq)⟩
theorem s_appO {i : Nat} (o : Own E0 p ds W) (hn : E0.h p = none) (hi : σ[i]? = some (some (.ref p))) (h : EvD te σ W d) (hz : ds.length < 10000000) (k : ∀ W1, Own E0 p (ds ++ [d]) W1 → Ex W.f W1.f → D0.nx σ W1.h) : tDrop (tBM K "list" rAppend (tVar i) (tCons te tNil)) D0 σ W.h := by
  obtain ⟨vs, h1, h2⟩ := o.ex
  exact s_app h o.gr.fh hi h1 (by rw [h2.len]; exact hz) fun v W1 g r => k ⟨W1.f, _⟩ ((o.more g).add hn (g.hh p _ h1) (.one r)) g.ff
theorem s_extO {i : Nat} {es : List D} (o : Own E0 p ds W) (hn : E0.h p = none) (hi : σ[i]? = some (some (.ref p))) (h : EvD te σ W (.l es)) (hz : ds.length + es.length ≤ 10000000) (k : ∀ W1, Own E0 p (ds ++ es) W1 → Ex W.f W1.f → D0.nx σ W1.h) : tDrop (tBM K "list" rExtend (tVar i) (tCons te tNil)) D0 σ W.h := by
  obtain ⟨vs, h1, h2⟩ := o.ex
  exact s_ext h o.gr.fh hi h1 (by rw [h2.len]; exact hz) fun ws W1 g r => k ⟨W1.f, _⟩ ((o.more g).add hn (g.hh p _ h1) r) g.ff
theorem s_extTO {i : Nat} {es : List D} (o : Own E0 p ds W) (hn : E0.h p = none) (hi : σ[i]? = some (some (.ref p))) (h : EvD te σ W (.t es)) (hz : ds.length + es.length ≤ 10000000) (k : ∀ W1, Own E0 p (ds ++ es) W1 → Ex W.f W1.f → D0.nx σ W1.h) : tDrop (tBM K "list" (rExtendT K) (tVar i) (tCons te tNil)) D0 σ W.h := by
  obtain ⟨vs, h1, h2⟩ := o.ex
  exact s_extT h o.gr.fh hi h1 (by rw [h2.len]; exact hz) fun ws W1 g r => k ⟨W1.f, _⟩ ((o.more g).add hn (g.hh p _ h1) r) g.ff
/-- the list is what is handed back -/
theorem s_retO {i : Nat} {Q : VK} (o : Own E0 p ds W) (hn : E0.h p = none) (hi : σ[i]? = some (some (.ref p))) (k : ∀ v W2, Grow E0 W2 → Rep W2.f (.l ds) v → Q v W2.h) (e : D0.rt = Q := by rfl) : tRet (tVar i) D0 σ W.h := by
  obtain ⟨W2, e2, g2, r2, _⟩ := o.done hn
  refine ⟨_, hi, ?_⟩
  rw [← e2, e]
  exact k _ W2 g2 r2
/-! objects while they are made -/
structure OwnO (E : Wd) (a C dx : Addr) (ns : List Str) (ds : List D) (W : Wd) : Prop where
  gr : Grow E W
  nf : W.f a = none
  ex : ∃ vs, W.h a = some (.ins C dx (ns.zip vs)) ∧ Reps W.f ds vs
theorem putF_new {f : Str} {v : V} : ∀ {ns : List Str} {vs : List V}, f ∉ ns → ns.length = vs.length → putF f v (ns.zip vs) = (ns ++ [f]).zip (vs ++ [v])
  | [], [], _, _ => rfl
  | n :: ns, u :: vs, h, e => by
    show (if n = f then (n, v) :: ns.zip vs else (n, u) :: putF f v (ns.zip vs)) = (n, u) :: (ns ++ [f]).zip (vs ++ [v])
    rw [if_neg fun (q : n = f) => h (q ▸ List.mem_cons_self), putF_new (fun q => h (List.mem_cons_of_mem _ q)) (by simpa using e)]
theorem putF_old {f : Str} {v : V} : ∀ {ns : List Str} {vs : List V} {j : Nat}, ns[j]? = some f → (∀ i, i < j → ns[i]? ≠ some f) → ns.length = vs.length → putF f v (ns.zip vs) = ns.zip (vs.set j v)
  | [], _, _, h, _, _ => by simp at h
  | _ :: _, [], _, _, _, h => by simp at h
  | n :: ns, w :: vs, 0, h, _, _ => by
    have e : n = f := by simpa using h
    subst e
    show (if n = n then (n, v) :: ns.zip vs else (n, w) :: putF n v (ns.zip vs)) = _
    rw [if_pos rfl]
    rfl
  | n :: ns, w :: vs, j + 1, h, hn, h2 => by
    have ne : n ≠ f := fun e => hn 0 (by omega) (by simp [e])
    show (if n = f then (n, v) :: ns.zip vs else (n, w) :: putF f v (ns.zip vs)) = _
    rw [if_neg ne, putF_old (j := j) (by simpa using h) (fun i hi => by have := hn (i + 1) (by omega); simpa using this) (by simpa using h2)]
    rfl
theorem OwnO.more {E W1 : Wd} {a C dx : Addr} {ns : List Str} (o : OwnO E a C dx ns ds W) (g : Grow W W1) : OwnO E a C dx ns ds W1 := by
  obtain ⟨g0, h0, vs, h1, h2⟩ := o
  exact ⟨g0.trans g, g.fr a h0 (by rw [h1]; exact fun e => nomatch e), vs, g.hh a _ h1, Reps.mono g.ff _ _ h2⟩
theorem s_newF {a C dx : Addr} {ns : List Str} {f : Str} {i : Nat} (o : OwnO E0 a C dx ns ds W) (hn : E0.h a = none) (hi : σ[i]? = some (some (.ref a))) (cl : Cls K C) (na : NoAttr K C f) (hl : ns.length = ds.length) (hf : decide (f ∈ ns) = false) (hz : ns.length < 1000) (h : EvD tv σ W d)
    (k : ∀ W1, OwnO E0 a C dx (ns ++ [f]) (ds ++ [d]) W1 → Ex W.f W1.f → D0.nx σ W1.h) : sFld K (tVar i) tv f D0 σ W.h := by
  obtain ⟨g0, h0, vs, h1, h2⟩ := o
  refine h W g0.rf _ fun v W1 g r => ⟨_, hi, a, C, dx, _, rfl, g.hh a _ h1, cl, na, by rw [List.length_zip]; omega, ?_⟩
  have hlv := h2.len
  rw [putF_new (of_decide_eq_false hf) (by omega)]
  have f0 := g.fr a h0 (by rw [h1]; exact fun e => nomatch e)
  exact k ⟨W1.f, upd W1.h a (.ins C dx ((ns ++ [f]).zip (vs ++ [v])))⟩ ⟨(g0.trans g).set hn f0, f0, _, upd_same, (Reps.mono g.ff _ _ h2).app (.one r)⟩ g.ff
theorem OwnO.fld {a C dx : Addr} {ns : List Str} {f : Str} {i j : Nat} (o : OwnO E0 a C dx ns ds W) (hi : σ[i]? = some (some (.ref a))) (cl : Cls K C) (na : NoAttr K C f) (hf : fldIx f ns j = true) (hd : ds[j]? = some d) : EvD (tFld K (tVar i) f) σ W d := by
  obtain ⟨vs, h1, h2⟩ := o.ex
  obtain ⟨v, h3, r⟩ := h2.get hd
  obtain ⟨f1, f2⟩ := fldIx_ok hf
  exact (ev_ownFld cl na (ev_own hi) h1 (zip_lookup f1 f2 h3)).raw r
/-- the object as it is, for good -/
theorem OwnO.done {a C dx : Addr} {ns : List Str} (o : OwnO E0 a C dx ns ds W) (hn : E0.h a = none) : ∃ W2, W2.h = W.h ∧ Grow E0 W2 ∧ Rep W2.f (.o C ns ds) (.ref a) ∧ Ex W.f W2.f ∧ ∀ x, x ≠ a → W2.f x = W.f x := by
  obtain ⟨g0, h0, vs, h1, h2⟩ := o
  exact ⟨⟨upd W.f a (.ins C dx (ns.zip vs)), W.h⟩, rfl, g0.frz hn h0 h1, ⟨a, dx, vs, rfl, upd_same, Reps.mono (.new h0) _ _ h2⟩, .new h0, fun x hx => upd_ne hx⟩
/-- without an address -/
def less (H : Hp) (a : Addr) : Hp := fun x => if x = a then none else H x
theorem less_same {H : Hp} {a : Addr} : less H a a = none := if_pos rfl
theorem less_ne {H : Hp} {a x : Addr} (h : x ≠ a) : less H a x = H x := if_neg h
theorem less_ex {H H' : Hp} {a : Addr} (e : Ex H H') (h : H a = none) : Ex H (less H' a) := fun x o hx => by
  rw [less_ne (ne_of_none hx h)]
  exact e x o hx
mutual
theorem Rep.less {H : Hp} {a C dx : Addr} {fs : List (Str × V)} (ha : H a = some (.ins C dx fs)) : ∀ (d : D) (v : V), noObj d = true → Rep H d v → Rep (less H a) d v
  | .i _, _, _, h => h
  | .b _, _, _, h => h
  | .n, _, _, h => h
  | .l xs, _, hn, ⟨p, vs, h1, h2, h3⟩ => ⟨p, vs, h1, by
    rw [less_ne (fun q => by subst q; rw [ha] at h2; cases h2)]
    exact h2, Reps.less ha xs vs hn h3⟩
  | .t xs, _, hn, ⟨p, vs, h1, h2, h3⟩ => ⟨p, vs, h1, by
    rw [less_ne (fun q => by subst q; rw [ha] at h2; cases h2)]
    exact h2, Reps.less ha xs vs hn h3⟩
  | .o _ _ _, _, hn, _ => by cases hn
  | .v _, _, hn, _ => by cases hn
theorem Reps.less {H : Hp} {a C dx : Addr} {fs : List (Str × V)} (ha : H a = some (.ins C dx fs)) : ∀ (ds : List D) (vs : List V), noObjs ds = true → Reps H ds vs → Reps (less H a) ds vs
  | [], _, _, h => h
  | d :: ds, _, hn, ⟨v, r, h1, h2, h3⟩ => by
    have hn' : (noObj d && noObjs ds) = true := hn
    rw [Bool.and_eq_true] at hn'
    exact ⟨v, r, h1, Rep.less ha d v hn'.1 h2, Reps.less ha ds r hn'.2 h3⟩
end
/-- a field whose value is asked of the object itself -/
theorem s_tmpF {a C dx : Addr} {ns : List Str} {f : Str} {i : Nat} (o : OwnO E0 a C dx ns ds W) (hn : E0.h a = none) (hi : σ[i]? = some (some (.ref a))) (cl : Cls K C) (na : NoAttr K C f) (hl : ns.length = ds.length) (hf : decide (f ∈ ns) = false) (hz : ns.length < 1000) (nd : noObj d = true)
    (h : ∀ W1, Grow E0 W1 → W1.h = W.h → Ex W.f W1.f → Rep W1.f (.o C ns ds) (.ref a) → EvD tv σ W1 d)
    (k : ∀ W1, OwnO E0 a C dx (ns ++ [f]) (ds ++ [d]) W1 → Ex W.f W1.f → D0.nx σ W1.h) : sFld K (tVar i) tv f D0 σ W.h := by
  obtain ⟨W1, e1, g1, r1, x1, y1⟩ := o.done hn
  obtain ⟨g0, h0, vs, h1, h2⟩ := o
  rw [← e1]
  have hw1 : W1.h a = some (.ins C dx (ns.zip vs)) := by rw [e1]; exact h1
  refine h W1 g1 e1 x1 r1 W1 g1.rf _ fun v W2 g2 r2 => ?_
  have hw2 := g2.hh a _ hw1
  obtain ⟨a', dx', vs', q1, q2, q3⟩ := r1
  cases q1
  have q4 : W1.h a = some (.ins C dx' (ns.zip vs')) := g1.fh a _ q2
  have q5 := g2.ff a _ q2
  refine ⟨_, hi, a, C, dx, _, rfl, hw2, cl, na, by rw [List.length_zip]; omega, ?_⟩
  have hlv := h2.len
  rw [putF_new (of_decide_eq_false hf) (by omega)]
  have xf : Ex W.f (Hm.less W2.f a) := less_ex (x1.trans g2.ff) h0
  refine k ⟨Hm.less W2.f a, upd W2.h a (.ins C dx ((ns ++ [f]).zip (vs ++ [v])))⟩ ⟨⟨less_ex (g1.ff.trans g2.ff) (none_of g0.ff h0), ?_, (g1.trans g2).hh.mut hn, ?_⟩, less_same, _, upd_same, (Reps.mono xf _ _ h2).app (.one (Rep.less q5 d v nd r2))⟩ xf
  · exact Ex.mut (fun x u hx => by
      have hx : Hm.less W2.f a x = some u := hx
      by_cases q : x = a
      · subst q; rw [less_same] at hx; cases hx
      · rw [less_ne q] at hx; exact g2.fh x u hx) less_same
  · intro x q6 q7
    show Hm.less W2.f a x = none
    by_cases q : x = a
    · subst q; exact less_same
    · rw [less_ne q]; exact (g1.trans g2).fr x q6 q7
/-! ### promises of those that make objects -/
def MkSp {ι : Type} (C : Addr) (args : ι → List D) (pre : ι → Prop) (post : ι → Wd → Wd → Addr → Prop) : Sp := fun vs H Q _ => ∃ (x : ι) (Hf H0 : Hp) (a dx : Addr) (us : List V), vs = .ref a :: us ∧ H0 a = none ∧ H0 dx = none ∧ dx ≠ a ∧ H = upd (upd H0 dx (.own a)) a (.ins C dx []) ∧ Ex Hf H0 ∧ Reps Hf (args x) us ∧ pre x ∧
  ∀ W', post x ⟨Hf, H0⟩ W' a → Q .non W'.h
theorem MkSp.len {ι : Type} {C : Addr} {args : ι → List D} {pre : ι → Prop} {post : ι → Wd → Wd → Addr → Prop} {vs : List V} {H : Hp} {Q : VK} {E : XK} {n : Nat} (h : MkSp C args pre post vs H Q E) (hn : ∀ x, (args x).length = n) : vs.length = n + 1 := by
  obtain ⟨x, _, _, a, _, us, rfl, _, _, _, _, _, r, _⟩ := h
  rw [List.length_cons, r.len, hn]
/-- the object at first -/
theorem OwnO.start {Hf H0 : Hp} {a C dx : Addr} (ok : Ex Hf H0) (h1 : H0 a = none) (h2 : H0 dx = none) (h3 : dx ≠ a) : OwnO ⟨Hf, H0⟩ a C dx [] [] ⟨Hf, upd (upd H0 dx (.own a)) a (.ins C dx [])⟩ :=
  ⟨⟨.refl _, (ok.mut (none_of ok h2)).mut (none_of ok h1), (Ex.new h2).trans (.new (by rw [upd_ne (Ne.symm h3)]; exact h1)), fun _ h _ => h⟩, none_of ok h1, [], upd_same, rfl⟩
def mkRes {ι : Type} (res : ι → D) : ι → Wd → Wd → Addr → Prop := fun x E W a => Grow E W ∧ Rep W.f (res x) (.ref a)
theorem ev_make {ι : Type} {C : Addr} {args : ι → List D} {pre : ι → Prop} {res : ι → D} {E : XK} {tr : TA} (x : ι) (hp : pre x) (ha : EvA tr σ W (args x)) : EvD (tMake C (MkSp C args pre (mkRes res)) [] E tr) σ W (res x) := fun W1 g Q q =>
  ha W1 g _ fun vs W2 g2 rs a dx h1 h2 h3 => ⟨x, W2.f, W2.h, a, dx, vs, by rw [List.append_nil], h1, h2, h3, rfl, g2.fh, rs, hp, fun W' ⟨g', r'⟩ => ⟨rfl, q _ W' (g2.trans g') r'⟩⟩
end
end Hm
end
section
set_option Elab.async false
set_option linter.all false
set_option maxRecDepth 100000
set_option maxHeartbeats 4000000
namespace Hm
open PySem PySem.Spec PyProof.Rows L2
open C8 (Cal Met Mak pe_c pe_mt pe_mt0 pe_mk pe_gc)
open Vbjtah (versionCount edgesOf isBelow distance)
section
variable {P : Program} {w : World} {K : PySem.W.Frag} {mg : Str → Option Value} {base : Heap}
abbrev sp_way_up (K : PySem.W.Frag) : Sp := PuSp (ι := Tr × Nat) (fun (t, v) => [.l ((0 :: t.parents).map dn), dn v]) (fun (t, v) => Wf t ∧ v < versionCount t) (fun (t, v) => .l ((ups t v).map dn))
theorem cal_way_up (T : Top K mg) : Cal P w K mg base 1 "way_up" (sp_way_up K) [] :=
  calOf (F_way_up T) (gf_way_up T) sc_way_up (fun _ _ _ _ _ _ us hl => match us, hl with | [_, _], _ => rfl) (fun _ _ _ _ h => h.len fun _ => rfl) fun cdv A outer s H vs Q E hr h => by
  obtain ⟨⟨t, v⟩, Hf, ok, ⟨v0, _, rfl, r0, v1, _, rfl, r1, rfl⟩, hp, k⟩ := h
  try dsimp only at hp k
  refine ⟨_, (pss_cons (ps_set (i := 2) sc_way_up.nd rfl (Or.inl rfl) (pe_lst (pa_cons (pv 1) pa_nil)))
      (pss_cons (ps_while PassesOwn.never (pt_cmpR op_gt (pe_ix (ixL K rfl) (pv 2) (pe_un un_neg pe_int) (fun _ _ => rfl)) pe_int (nomark _))
      (pss_one (ps_expr (pe_bm PySem.F.plainAttrs_list PySem.F.slot_list_append PySem.F.type_list_append mt_append (pv 2) (pa_cons (pe_ix (ixL K rfl) (pv 0) (pe_ix (ixL K rfl) (pv 2) (pe_un un_neg pe_int) (fun _ _ => rfl)) (fun _ _ => rfl)) pa_nil)))))
      (pss_one (ps_ret (pv 2))))), ?_⟩
  refine s_lst (W := ⟨Hf, H⟩) (ds := [dn v]) (ea_cons (ev_var r1 rfl) ea_nil) ok (by show 1 ≤ 10000000; decide) fun p W1 o1 hn => ?_
  dsimp only
  refine s_while (fun m σ W => m < versionCount t ∧ σ = [some v0, some v1, some (.ref p)] ∧ ∃ l, l ++ ups t m = ups t v ∧ l.length + m ≤ 10 ∧ Own ⟨Hf, H⟩ p ((l ++ [m]).map dn) W) v ⟨hp.2, rfl, [], rfl, by have := vc_le hp.1; have := hp.2; show 0 + v ≤ 10; omega, o1⟩ ?_
  rintro m σ W2 ⟨hm, rfl, l, hl, hs, o2⟩
  rw [List.map_append] at o2
  refine ⟨decide ((0 : Int) < (m : Int)), et_test (ev_op rv_gt (o2.last rfl (ev_neg ev_int)) ev_int), o2.gr.fh, fun e W3 g3 => ?_, fun e W3 g3 => ?_⟩
  · have e : 0 < m := by have := of_decide_eq_true e; omega
    have o3 := o2.more g3
    refine s_appO (d := dn (parOf t m)) o3 hn rfl (ev_op (rv_ix (par_at e hm)) (ev_var (up o3.gr r0) rfl) (o3.last rfl (ev_neg ev_int))) (by simp only [List.length_append, List.length_map, List.length_cons, List.length_nil]; omega) fun W4 o4 x4 => ?_
    refine ⟨W4, rfl, parOf t m, hp.1.parLt e hm, Nat.lt_trans (hp.1.parLt e hm) hm, rfl, l ++ [m], ?_, ?_, ?_⟩
    · rw [← hl, ups_pos hp.1 e hm, List.append_assoc]
      rfl
    · have := hp.1.parLt e hm
      rw [List.length_append, List.length_cons, List.length_nil]
      omega
    · rw [List.map_append, List.map_append]
      exact o4
  · have e : m = 0 := by have := of_decide_eq_false e; omega
    subst e
    refine s_retO (o2.more g3) hn rfl fun r W4 g4 r4 => k r W4 g4 (by rw [← hl, ups_zero, List.map_append]; exact r4)
abbrev sp_ways_up (K : PySem.W.Frag) : Sp := PuSp (ι := Tr) (fun t => [.l ((0 :: t.parents).map dn)]) (fun t => Wf t) (fun t => .l ((List.range (versionCount t)).map fun v => .l ((ups t v).map dn)))
theorem cal_ways_up (T : Top K mg) : Cal P w K mg base 2 "ways_up" (sp_ways_up K) [] :=
  calOf (F_ways_up T) (gf_ways_up T) sc_ways_up (fun _ _ _ _ _ _ us hl => match us, hl with | [_], _ => rfl) (fun _ _ _ _ h => h.len fun _ => rfl) fun cdv A outer s H vs Q E hr h => by
  obtain ⟨t, Hf, ok, ⟨v0, _, rfl, r0, rfl⟩, hp, k⟩ := h
  try dsimp only at hp k
  refine ⟨_, (pss_one (ps_ret (pe_lc (own := [("version", 1)]) (g := gName 1) (tt := tYes) rfl sc_ways_up.nd (pi_range1 rfl (T_range T) (pa_cons (pe_callB (lenK K rfl) rfl (T_len T) b_len (pa_cons (pv 0) pa_nil)) pa_nil)) (blkOk_by (own := [("version", 1)]) (N := N_ways_up) (sc := defScope s_ways_up) (by decide +kernel)) (fun _ _ _ _ _ => (pg_name (i := 1) sc_ways_up.nd rfl (Or.inl rfl) (hf := Or.inr rfl))) (fun _ _ _ _ _ => pts_nil) (fun _ _ _ _ _ => (pe_c (cal_way_up T) hr (by decide) rfl (pa_cons (pv 0) (pa_cons (pv 1) pa_nil))))))), ?_⟩
  exact s_ret (W := ⟨Hf, H⟩) (ev_mapR (versionCount t) (fun v => .l ((ups t v).map dn)) (ea_cons ((ev_lenK (ev_var r0 rfl)).is (by rw [List.length_map]; rfl)) ea_nil) (by have := vc_le hp; omega) fun v W1 g hv => ev_call (x := (t, v)) ⟨hp, hv⟩ (ea_cons (ev_var (up g r0) rfl) (ea_cons (ev_var (W := W1) (d := dn v) rfl rfl) ea_nil))) ok k
abbrev sp_Tree_init (K : PySem.W.Frag) : Sp := MkSp (ι := Tr × Nat) (C_Tree K) (fun (t, F) => [dn F, .l (t.parents.map dn), .l (t.lengths.map dn)]) (fun (t, F) => Wf t) (mkRes fun (t, F) => dTree K t F true)
theorem noObjs_all : ∀ {l : List D}, (∀ d ∈ l, noObj d = true) → noObjs l = true
  | [], _ => rfl
  | d :: l, h => by
    show (noObj d && noObjs l) = true
    rw [h d List.mem_cons_self, noObjs_all fun x hx => h x (List.mem_cons_of_mem _ hx)]
    rfl
theorem noObj_tab (t : Tr) : noObj (.l ((List.range (versionCount t)).map fun v => .l ((List.range (versionCount t)).map fun u => dn (distance t v u)))) = true := noObjs_all fun d hd => by
  obtain ⟨v, _, rfl⟩ := List.mem_map.mp hd
  exact noObjs_all fun d hd => by
    obtain ⟨u, _, rfl⟩ := List.mem_map.mp hd
    rfl
theorem mak_Tree (T : Top K mg) : Mak P w K mg base 5 "Tree" (C_Tree K) (sp_Tree_init K) [] :=
  makOf (mk_Tree T) (gc_Tree T) (F_Tree_init T) sc_Tree_init (fun _ _ _ _ _ _ us hl => match us, hl with | [_, _, _, _], _ => rfl) (fun _ _ _ _ h => h.len fun _ => rfl) fun cdv A outer s H vs Q E hr h => by
  obtain ⟨⟨t, F⟩, Hf, H0, a, dx, us, rfl, q1, q2, q3, rfl, ok, ⟨v1, _, rfl, r1, v2, _, rfl, r2, v3, _, rfl, r3, rfl⟩, hp, k⟩ := h
  dsimp only at hp k
  refine ⟨_, (pss_cons (ps_fld (pv 0) (pv 1) rfl)
        (pss_cons (ps_fld (pv 0) (pe_op op_cat (pe_lst (pa_cons pe_int pa_nil)) (pv 2)) rfl)
        (pss_cons (ps_fld (pv 0) (pe_op op_cat (pe_lst (pa_cons pe_int pa_nil)) (pv 3)) rfl)
        (pss_cons (ps_fld (pv 0) (pe_op op_add (pe_callB (lenK K rfl) rfl (T_len T) b_len (pa_cons (pv 2) pa_nil)) pe_int) rfl)
        (pss_cons (ps_fld (pv 0) (pe_c (cal_ways_up T) hr (by decide) rfl (pa_cons (pe_fldK K rfl (pv 0) rfl) pa_nil)) rfl)
        (pss_one (ps_fld (pv 0) (pe_lc (own := [("version", 4)]) (g := gName 4) (tt := tYes) rfl sc_Tree_init.nd (pi_range1 rfl (T_range T) (pa_cons (pe_fldK K rfl (pv 0) rfl) pa_nil)) (blkOk_by (own := [("version", 4)]) (N := N_Tree_init) (sc := defScope s_Tree_init) (by decide +kernel)) (fun _ _ _ _ _ => (pg_name (i := 4) sc_Tree_init.nd rfl (Or.inl rfl) (hf := Or.inr rfl))) (fun _ _ _ _ _ => pts_nil) (fun _ _ _ _ _ => (pe_mt (met_Tree_distances T) hr (by decide) (pv 0) (pa_cons (pv 4) pa_nil)))) rfl))))))), ?_⟩
  have hpn := hp.pn
  have o0 := OwnO.start (C := C_Tree K) ok q1 q2 q3
  refine s_newF o0 q1 rfl (cl_Tree T) (na_Tree_factor T) rfl rfl (by decide) (ev_var r1 rfl) fun W1 o1 x1 => ?_
  dsimp only
  refine s_newF o1 q1 rfl (cl_Tree T) (na_Tree_parents T) rfl (by decide +kernel) (by decide) (d := .l ((0 :: t.parents).map dn)) (ev_op (rv_cat (xs := [dn 0]) (by rw [List.length_map]; simp only [List.length_cons, List.length_nil]; omega)) (ev_lst (ea_cons ev_int ea_nil)) (ev_var (up o1.gr r2) rfl)) fun W2 o2 x2 => ?_
  dsimp only
  refine s_newF o2 q1 rfl (cl_Tree T) (na_Tree_lengths T) rfl (by decide +kernel) (by decide) (d := .l ((0 :: t.lengths).map dn)) (ev_op (rv_cat (xs := [dn 0]) (by rw [List.length_map, hp.len]; simp only [List.length_cons, List.length_nil]; omega)) (ev_lst (ea_cons ev_int ea_nil)) (ev_var (up o2.gr r3) rfl)) fun W3 o3 x3 => ?_
  dsimp only
  refine s_newF o3 q1 rfl (cl_Tree T) (na_Tree_count T) rfl (by decide +kernel) (by decide) (d := dn (versionCount t)) ((ev_op rv_add (ev_lenK (ev_var (up o3.gr r2) rfl)) ev_int).is (by rw [List.length_map]; rfl)) fun W4 o4 x4 => ?_
  dsimp only
  refine s_newF o4 q1 rfl (cl_Tree T) (na_Tree_ups T) rfl (by decide +kernel) (by decide) (ev_call (x := t) hp (ea_cons (o4.fld (j := 1) rfl (cl_Tree T) (na_Tree_parents T) (by decide +kernel) rfl) ea_nil)) fun W5 o5 x5 => ?_
  dsimp only
  refine s_tmpF o5 q1 rfl (cl_Tree T) (na_Tree_table T) rfl (by decide +kernel) (by decide) (noObj_tab t) (fun W6 g6 e6 x6 r6 => ev_mapR (versionCount t) (fun v => .l ((List.range (versionCount t)).map fun u => dn (distance t v u))) (ea_cons (fld_count (full := false) T (ev_var r6 rfl)) ea_nil) (by have := vc_le hp; omega) fun v W7 g hv => ev_meth (x := (t, F, false, v)) rfl ⟨hp, hv⟩ (by decide +kernel) (ev_var (up g r6) rfl) (ea_cons (ev_var (W := W7) (d := dn v) rfl rfl) ea_nil)) fun W6 o6 x6 => ?_
  obtain ⟨W7, e7, g7, r7, _⟩ := o6.done q1
  rw [← e7]
  exact k W7 ⟨g7, r7⟩
end
end Hm
end
section
set_option Elab.async false
set_option linter.all false
set_option maxRecDepth 100000
set_option maxHeartbeats 4000000
namespace Hm
open PySem PySem.Spec PyProof.Rows L2
open Vbjtah (minimumOf)
section
variable {K : PySem.W.Frag} {σ : L2.St} {W W' : Wd} {ta tb te : TE} {D0 : Ends} {a b : Nat} {d : D}
theorem rv_addN : RvD (rI0 fun i j => .int (i + j)) W (dn a) (dn b) (dn (a + b)) := by
  have := @rv_add W a b
  rw [show ((a : Int) + (b : Int)) = ((a + b : Nat) : Int) by omega] at this
  exact this
theorem rv_mulN (h : a < 2 ^ 64) : RvD (rI CMul fun i j => .int (i * j)) W (dn a) (dn b) (dn (a * b)) := by
  have := @rv_mul W a b ⟨by omega, by omega⟩
  rw [show ((a : Int) * (b : Int)) = ((a * b : Nat) : Int) from (Int.natCast_mul a b).symm] at this
  exact this
theorem rv_ltN : RvD (rI0 fun i j => .bl (decide (i < j))) W (dn a) (dn b) (.b (decide (a < b))) := by
  have := @rv_lt W a b
  rw [show decide ((a : Int) < (b : Int)) = decide (a < b) from by simp only [Int.ofNat_lt]] at this
  exact this
theorem rv_gtN : RvD (rI0 fun i j => .bl (decide (j < i))) W (dn a) (dn b) (.b (decide (b < a))) := by
  have := @rv_gt W a b
  rw [show decide ((b : Int) < (a : Int)) = decide (b < a) from by simp only [Int.ofNat_lt]] at this
  exact this
theorem rv_eqN : RvD rEq W (dn a) (dn b) (.b (decide (a = b))) := by
  have := @rv_eq W a b
  rw [show decide ((a : Int) = (b : Int)) = decide (a = b) from by simp only [Int.ofNat_inj]] at this
  exact this
theorem rv_neN : RvD rNe W (dn a) (dn b) (.b (!decide (a = b))) := by
  have := @rv_ne W a b
  rw [show decide ((a : Int) = (b : Int)) = decide (a = b) from by simp only [Int.ofNat_inj]] at this
  exact this
theorem ev_nat {n : Nat} : EvD (tC (.int (n : Int))) σ W (dn n) := ev_int
theorem ev_indexN {ns : List Nat} {x j : Nat} (hj : ns[j]? = some x) (hf : ∀ m, m < j → ns[m]? ≠ some x) (ha : EvD ta σ W (.l (ns.map dn))) (h : EvD te σ W (dn x)) : EvD (tBM K "list" (rIndex K) ta (tCons te tNil)) σ W (dn j) := by
  rw [dn_int] at ha
  refine ev_index (ns := ns.map fun (n : Nat) => (n : Int)) (x := (x : Int)) ?_ ?_ ha h
  · rw [List.getElem?_map, hj]
    rfl
  · intro m hm e
    rw [List.getElem?_map] at e
    cases q : ns[m]? with
    | none => rw [q] at e; cases e
    | some y =>
      rw [q] at e
      have e' : ((y : Nat) : Int) = x := by simpa using e
      have e2 : y = x := by omega
      exact hf m hm (by rw [q, e2])
theorem s_parNil {i j l : Nat} {v : V} (ok : Ex W.f W.h) (hv : σ[l]? = some (some v)) (k : ∀ p, W.h p = none → D0.nx ((σ.set i (some (.ref p))).set j (some v)) (upd W.h p (.lst []))) : tPar i j (tCons (tLst tNil) (tCons (tVar l) tNil)) D0 σ W.h :=
  ⟨by show 0 ≤ sizeLine; decide, fun p hp => ⟨v, hv, _, _, rfl, k p hp⟩⟩
theorem s_parNil2 {i j : Nat} (h : EvD te σ W d) (ok : Ex W.f W.h) (k : ∀ v p W1, Grow W W1 → Rep W1.f d v → W1.h p = none → D0.nx ((σ.set i (some v)).set j (some (.ref p))) (upd W1.h p (.lst []))) : tPar i j (tCons te (tCons (tLst tNil) tNil)) D0 σ W.h := h W (.refl ok) _ fun v W1 g r =>
  ⟨by show 0 ≤ sizeLine; decide, fun p hp => ⟨_, _, rfl, k v p W1 g r hp⟩⟩
end
theorem min_mem {l : List Nat} (h : l ≠ []) : minimumOf l ∈ l ∧ ∀ y ∈ l, minimumOf l ≤ y := by
  obtain ⟨x, r, rfl⟩ : ∃ x r, l = x :: r := by
    cases l with
    | nil => exact absurd rfl h
    | cons x r => exact ⟨x, r, rfl⟩
  have gen : ∀ (l : List Nat) (a : Nat), (l.foldl min a = a ∨ l.foldl min a ∈ l) ∧ l.foldl min a ≤ a ∧ ∀ y ∈ l, l.foldl min a ≤ y := by
    intro l
    induction l with
    | nil => intro a; exact ⟨.inl rfl, Nat.le_refl _, fun y hy => by cases hy⟩
    | cons b l ih =>
      intro a
      obtain ⟨i1, i2, i3⟩ := ih (min a b)
      rw [List.foldl_cons]
      refine ⟨?_, by omega, fun y hy => ?_⟩
      · rcases i1 with i1 | i1
        · rw [i1]
          by_cases q : a ≤ b
          · left; omega
          · right
            rw [Nat.min_eq_right (by omega)]
            exact List.mem_cons_self
        · right
          exact List.mem_cons_of_mem _ i1
      · rcases List.mem_cons.mp hy with q | q
        · subst q; omega
        · exact i3 y q
  unfold minimumOf
  show List.foldl min x (x :: r) ∈ x :: r ∧ ∀ y ∈ x :: r, List.foldl min x (x :: r) ≤ y
  rw [List.foldl_cons, Nat.min_self]
  obtain ⟨i1, i2, i3⟩ := gen r x
  refine ⟨?_, fun y hy => ?_⟩
  · rcases i1 with i1 | i1
    · rw [i1]; exact List.mem_cons_self
    · exact List.mem_cons_of_mem _ i1
  · rcases List.mem_cons.mp hy with q | q
    · subst q; exact i2
    · exact i3 y q
theorem find_range {n : Nat} {p : Nat → Bool} {j : Nat} (hj : j < n) (hp : p j = true) (hf : ∀ m, m < j → p m = false) : (List.range n).find? p = some j := by
  rw [List.find?_eq_some_iff_getElem]
  refine ⟨hp, j, by rw [List.length_range]; exact hj, List.getElem_range _, fun m hm => ?_⟩
  rw [List.getElem_range, hf m hm]
  rfl
theorem first_least {n : Nat} (hn : 0 < n) (f : Nat → Nat) : ∃ j, j < n ∧ f j = minimumOf ((List.range n).map f) ∧ (∀ m, m < j → f m ≠ minimumOf ((List.range n).map f)) ∧ (List.range n).find? (fun x => f x == minimumOf ((List.range n).map f)) = some j := by
  have hm := (min_mem (l := (List.range n).map f) (by intro e; have := congrArg List.length e; simp at this; omega)).1
  obtain ⟨x, hx, ex⟩ := List.mem_map.mp hm
  obtain ⟨j, hj⟩ : ∃ j, (List.range n).find? (fun x => f x == minimumOf ((List.range n).map f)) = some j := by
    rw [← Option.isSome_iff_exists, List.find?_isSome]
    exact ⟨x, hx, beq_iff_eq.mpr ex⟩
  obtain ⟨h1, i, hi, e1, h2⟩ := List.find?_eq_some_iff_getElem.mp hj
  rw [List.getElem_range] at e1
  subst e1
  rw [List.length_range] at hi
  refine ⟨i, hi, beq_iff_eq.mp h1, fun m hm e => ?_, hj⟩
  have := h2 m hm
  rw [List.getElem_range] at this
  simp [e] at this
abbrev dP (p : Int × Int) : D := .t [.i p.1, .i p.2]
end Hm
end
section
set_option Elab.async false
set_option linter.all false
set_option maxRecDepth 100000
set_option maxHeartbeats 4000000
namespace Hm
open PySem PySem.Spec PyProof.Rows L2
open C8 (Cal Met Mak pe_c pe_mt pe_mt0 pe_mk pe_gc)
open Vbjtah (versionCount edgesOf isBelow distance)
/-! ### schedules -/
open Vbjtah (minimumOf scheduleCost costTable scheduleFrom bestCost bestSchedule edgeCosts firstCosts boundValues valueFields lengthOf remainingCosts)
def byFor (t : Tr) (F home version : Nat) (later : List Nat) : Nat → Nat := fun next => F * distance t home next + distance t next version + later.getD next 0
def rowFor (t : Tr) (F version : Nat) (later : List Nat) : List Nat := (List.range (versionCount t)).map fun home => minimumOf ((List.range (versionCount t)).map (byFor t F home version later))
theorem costTable_nil {t : Tr} {F : Nat} : costTable t F [] = [(List.range (versionCount t)).map fun _ => 0] := rfl
theorem costTable_ex (t : Tr) (F : Nat) (us : List Nat) : ∃ later rest, costTable t F us = later :: rest ∧ later.length = versionCount t ∧ rest.length = us.length ∧ ∀ v, costTable t F (v :: us) = rowFor t F v later :: later :: rest := by
  induction us with
  | nil => exact ⟨_, [], rfl, by show ((List.range (versionCount t)).map fun _ => 0).length = _; rw [List.length_map, List.length_range], rfl, fun v => rfl⟩
  | cons u us ih =>
    obtain ⟨l, r, h1, h2, h3, h4⟩ := ih
    refine ⟨rowFor t F u l, l :: r, h4 u, by unfold rowFor; rw [List.length_map, List.length_range], by rw [List.length_cons, List.length_cons, h3], fun v => ?_⟩
    show (match costTable t F (u :: us) with
      | [] => []
      | later :: rest => rowFor t F v later :: later :: rest) = _
    rw [h4 u]
theorem costTable_rows (t : Tr) (F : Nat) (us : List Nat) : (costTable t F us).length = us.length + 1 ∧ ∀ l ∈ costTable t F us, l.length = versionCount t := by
  induction us with
  | nil => exact ⟨rfl, fun l hl => by
      rw [costTable_nil, List.mem_singleton] at hl
      rw [hl, List.length_map, List.length_range]⟩
  | cons u us ih =>
    obtain ⟨l, r, h1, h2, h3, h4⟩ := costTable_ex t F us
    rw [h1] at ih
    rw [h4]
    refine ⟨by simpa using ih.1, fun x hx => ?_⟩
    rcases List.mem_cons.mp hx with q | q
    · rw [q]
      unfold rowFor
      rw [List.length_map, List.length_range]
    · exact ih.2 x q
def nextPair (F l : Nat) (b : Bool) (c : Int × Int) : Int × Int :=
  (min (c.1 + if b = true then 0 else (l : Int)) (c.2 + (if b = true then (l : Int) else 0) + ((F * l : Nat) : Int)), min (c.2 + if b = true then (l : Int) else 0) (c.1 + (if b = true then 0 else (l : Int)) + ((F * l : Nat) : Int)))
theorem edgeCosts_cons (F l : Nat) (c : Int × Int) (b : Bool) (r : List Bool) : edgeCosts F l c (b :: r) = c :: edgeCosts F l (nextPair F l b c) r := rfl
def pairsOf (t : Tr) (F first : Nat) (uses : List Nat) (e : Nat) : List (Int × Int) := edgeCosts F (lengthOf t e) (firstCosts t F first e) (uses.map (isBelow t e))
theorem edgeCosts_len (F l : Nat) : ∀ (r : List Bool) (c : Int × Int), (edgeCosts F l c r).length = r.length + 1
  | [], _ => rfl
  | b :: r, c => by rw [edgeCosts_cons, List.length_cons, edgeCosts_len F l r, List.length_cons]
def fieldsOf (l : List (Int × Int)) : List Int := l.flatMap fun x => [x.1, x.2]
theorem fieldsOf_len (l : List (Int × Int)) : (fieldsOf l).length = 2 * l.length := by
  induction l with
  | nil => rfl
  | cons a l ih =>
    show ([a.1, a.2] ++ fieldsOf l).length = _
    rw [List.length_append, ih]
    simp only [List.length_cons, List.length_nil]
    omega
def placeOf (q e i : Nat) : Nat := 2 * ((e - 1) * (q + 1) + i)
def pairAt (values : List Int) (q e i : Nat) : Int × Int := (values.getD (placeOf q e i) 0, values.getD (placeOf q e i + 1) 0)
def firstBad (t : Tr) (F first e : Nat) (x : Int × Int) : Bool := decide ((firstCosts t F first e).1 < x.1) || decide ((firstCosts t F first e).2 < x.2)
def faultCode (t : Tr) (F first : Nat) (uses : List Nat) (values : List Int) (e i : Nat) : Nat :=
  let x := pairAt values uses.length e i
  let before := pairAt values uses.length e (i - 1)
  let b := isBelow t e (uses.getD (i - 1) 0)
  let l : Int := (lengthOf t e : Int)
  if i = 0 ∧ firstBad t F first e x = true then 1
  else if 0 < i ∧ before.1 + (if b = true then 0 else l) < x.1 then 2
  else if 0 < i ∧ before.2 + (if b = true then l else 0) < x.2 then 3
  else if (F : Int) * l < ((x.1 - x.2).natAbs : Int) then 4 else 0
section
variable {P : Program} {w : World} {K : PySem.W.Frag} {mg : Str → Option Value} {base : Heap}
abbrev sp_schedule_cost (K : PySem.W.Frag) : Sp := PuSp (ι := Tr × Nat × Nat × List Nat × List Nat) (fun (t, F, first, uses, homes) => [dTree K t F true, dn first, .l (uses.map dn), .l (homes.map dn)]) (fun (t, F, first, uses, homes) => F ≤ 20 ∧ first < versionCount t ∧ (∀ u ∈ uses, u < versionCount t) ∧ (∀ u ∈ homes, u < versionCount t) ∧ uses.length = homes.length) (fun (t, F, first, uses, homes) => dn (scheduleCost t F first homes uses))
theorem cal_schedule_cost (T : Top K mg) : Cal P w K mg base 2 "schedule_cost" (sp_schedule_cost K) [] :=
  calOf (F_schedule_cost T) (gf_schedule_cost T) sc_schedule_cost (fun _ _ _ _ _ _ us hl => match us, hl with | [_, _, _, _], _ => rfl) (fun _ _ _ _ h => h.len fun _ => rfl) fun cdv A outer s H vs Q E hr h => by
  obtain ⟨⟨t, F, first, uses, homes⟩, Hf, ok, ⟨v0, _, rfl, r0, v1, _, rfl, r1, v2, _, rfl, r2, v3, _, rfl, r3, rfl⟩, hp, k⟩ := h
  try dsimp only at hp k
  refine ⟨_, (pss_cons (ps_par (i := 4) (j := 5) rfl sc_schedule_cost.nd rfl rfl (by decide) rfl rfl (pa_cons pe_int (pa_cons (pv 1) pa_nil)) rfl)
      (pss_cons (ps_for PassesOwn.never rfl (pi_zipK K rfl rfl (T_zip T) (pa_cons (pv 2) (pa_cons (pv 3) pa_nil))) (pg_tupK K rfl rfl (pgs_cons (pg_name (i := 6) sc_schedule_cost.nd rfl (Or.inl rfl)) (pgs_cons (pg_name (i := 7) sc_schedule_cost.nd rfl (Or.inl rfl)) pgs_nil)))
      (pss_cons (ps_set (i := 4) sc_schedule_cost.nd rfl (Or.inl rfl) (pe_op op_add (pe_op op_add (pv 4) (pe_op op_mul (pe_fldK K rfl (pv 0) rfl) (pe_mt (met_Tree_distance T) hr (by decide) (pv 0) (pa_cons (pv 5) (pa_cons (pv 7) pa_nil))))) (pe_mt (met_Tree_distance T) hr (by decide) (pv 0) (pa_cons (pv 7) (pa_cons (pv 6) pa_nil)))))
      (pss_one (ps_set (i := 5) sc_schedule_cost.nd rfl (Or.inl rfl) (pv 7)))))
      (pss_one (ps_ret (pv 4))))), ?_⟩
  obtain ⟨hF, h1, h2, h3, h4⟩ := hp
  refine s_par (W := ⟨Hf, H⟩) (d1 := dn 0) (d2 := dn first) (ea_cons ev_int (ea_cons (ev_var r1 rfl) ea_nil)) ok fun va vb W1 g1 ra rb => ?_
  cases ra
  cases rb
  dsimp only
  refine s_forZ uses dn homes dn h4 (ev_var (up g1 r2) rfl) (ev_var (up g1 r3) rfl) g1.fh fun W2 g2 => ⟨fun m σ' W' => ∃ c hm x y, σ' = [some v0, some v1, some v2, some v3, some (vn c), some (vn hm), x, y] ∧ Grow W2 W' ∧ hm < versionCount t ∧ c + scheduleCost t F hm (homes.drop m) (uses.drop m) = scheduleCost t F first homes uses, ⟨0, first, none, none, rfl, g2.rf, h1, by simp⟩, fun m σ' W' ⟨_, _, _, _, _, q, _⟩ => ⟨q.ff, q.fh⟩, ?_, ?_⟩
  · rintro m u w xv xw σ' W' W3 hu hw ⟨c, hm, x, y, rfl, g3, hh, hc⟩ g4 rx rw'
    cases rx
    cases rw'
    have hw' := h3 w (List.mem_of_getElem? hw)
    have hu' := h2 u (List.mem_of_getElem? hu)
    have gg := (g1.trans g2).trans (g3.trans g4)
    refine s_set (W := W3) (d := dn (c + F * distance t hm w + distance t w u)) (ev_op rv_addN (ev_op rv_addN (ev_var (W := W3) (d := dn c) rfl rfl) (ev_op (rv_mulN (by omega)) (fld_factor T (ev_var (up gg r0) rfl)) (ev_meth (x := (t, F, hm, w)) rfl ⟨hh, hw'⟩ (by decide +kernel) (ev_var (up gg r0) rfl) (ea_cons (ev_var (W := W3) (d := dn hm) rfl rfl) (ea_cons (ev_var (W := W3) (d := dn w) rfl rfl) ea_nil))))) (ev_meth (x := (t, F, w, u)) rfl ⟨hw', hu'⟩ (by decide +kernel) (ev_var (up gg r0) rfl) (ea_cons (ev_var (W := W3) (d := dn w) rfl rfl) (ea_cons (ev_var (W := W3) (d := dn u) rfl rfl) ea_nil)))) g4.fh fun v W5 g5 r5 => ?_
    cases r5
    dsimp only
    refine s_set (d := dn w) (ev_var (W := W5) (d := dn w) rfl rfl) g5.fh fun v W6 g6 r6 => ?_
    cases r6
    refine ⟨W6, rfl, c + F * distance t hm w + distance t w u, w, _, _, rfl, (g3.trans g4).trans (g5.trans g6), hw', ?_⟩
    rw [← hc, List.drop_eq_getElem_cons (List.getElem?_eq_some_iff.mp hu).1, List.drop_eq_getElem_cons (List.getElem?_eq_some_iff.mp hw).1, (List.getElem?_eq_some_iff.mp hu).2, (List.getElem?_eq_some_iff.mp hw).2]
    show _ = c + (F * distance t hm w + distance t w u + scheduleCost t F w (homes.drop (m + 1)) (uses.drop (m + 1)))
    omega
  · rintro σ' W' ⟨c, hm, x, y, rfl, g3, hh, hc⟩
    rw [List.drop_eq_nil_of_le (as := uses) (Nat.le_refl _), h4, List.drop_eq_nil_of_le (Nat.le_refl _)] at hc
    refine s_end ((g1.trans g2).trans g3) (EvD.is (ev_var (d := dn c) rfl rfl) ?_) k
    rw [← hc]
    rfl
abbrev sp_costs_by (K : PySem.W.Frag) : Sp := PuSp (ι := Tr × Nat × Nat × Nat × List Nat) (fun (t, F, home, version, later) => [dTree K t F true, dn home, dn version, .l (later.map dn)]) (fun (t, F, home, version, later) => Wf t ∧ F ≤ 20 ∧ home < versionCount t ∧ version < versionCount t ∧ later.length = versionCount t) (fun (t, F, home, version, later) => .l (((List.range (versionCount t)).map (byFor t F home version later)).map dn))
theorem cal_costs_by (T : Top K mg) : Cal P w K mg base 2 "costs_by" (sp_costs_by K) [] :=
  calOf (F_costs_by T) (gf_costs_by T) sc_costs_by (fun _ _ _ _ _ _ us hl => match us, hl with | [_, _, _, _], _ => rfl) (fun _ _ _ _ h => h.len fun _ => rfl) fun cdv A outer s H vs Q E hr h => by
  obtain ⟨⟨t, F, home, version, later⟩, Hf, ok, ⟨v0, _, rfl, r0, v1, _, rfl, r1, v2, _, rfl, r2, v3, _, rfl, r3, rfl⟩, hp, k⟩ := h
  try dsimp only at hp k
  refine ⟨_, (pss_cons (ps_set (i := 4) sc_costs_by.nd rfl (Or.inl rfl) (pe_lst pa_nil))
      (pss_cons (ps_for PassesOwn.never rfl (pi_range1 rfl (T_range T) (pa_cons (pe_fldK K rfl (pv 0) rfl) pa_nil)) (pg_name (i := 5) sc_costs_by.nd rfl (Or.inl rfl))
      (pss_one (ps_expr (pe_bm PySem.F.plainAttrs_list PySem.F.slot_list_append PySem.F.type_list_append mt_append (pv 4) (pa_cons (pe_op op_add (pe_op op_add (pe_op op_mul (pe_fldK K rfl (pv 0) rfl) (pe_mt (met_Tree_distance T) hr (by decide) (pv 0) (pa_cons (pv 1) (pa_cons (pv 5) pa_nil)))) (pe_mt (met_Tree_distance T) hr (by decide) (pv 0) (pa_cons (pv 5) (pa_cons (pv 2) pa_nil)))) (pe_ix (ixL K rfl) (pv 3) (pv 5) (fun _ _ => rfl))) pa_nil)))))
      (pss_one (ps_ret (pv 4))))), ?_⟩
  obtain ⟨hw, hF, h1, h2, h3⟩ := hp
  have hc := vc_le hw
  refine s_buildR (W := ⟨Hf, H⟩) (versionCount t) (fun own => dn (byFor t F home version later own)) (by show 4 < 6; decide) (by decide) ok (by omega) (fun p => ea_cons (fld_count T (ev_var r0 rfl)) ea_nil) (fun p m W1 g hm => ev_op rv_addN (ev_op rv_addN (ev_op (rv_mulN (by omega)) (fld_factor T (ev_var (up g r0) rfl)) (ev_meth (x := (t, F, home, m)) rfl ⟨h1, hm⟩ (by decide +kernel) (ev_var (up g r0) rfl) (ea_cons (ev_var (up g r1) rfl) (ea_cons (ev_var (W := W1) (d := dn m) rfl rfl) ea_nil)))) (ev_meth (x := (t, F, m, version)) rfl ⟨hm, h2⟩ (by decide +kernel) (ev_var (up g r0) rfl) (ea_cons (ev_var (W := W1) (d := dn m) rfl rfl) (ea_cons (ev_var (up g r2) rfl) ea_nil)))) (ev_op (rv_ix (at_nat (by omega))) (ev_var (up g r3) rfl) (ev_var (W := W1) (d := dn m) rfl rfl))) fun v W1 g r => k v W1 g (by rw [List.map_map]; exact r)
abbrev sp_costs_ahead (K : PySem.W.Frag) : Sp := PuSp (ι := Tr × Nat × Nat × List Nat) (fun (t, F, version, later) => [dTree K t F true, dn version, .l (later.map dn)]) (fun (t, F, version, later) => Wf t ∧ F ≤ 20 ∧ version < versionCount t ∧ later.length = versionCount t) (fun (t, F, version, later) => .l ((rowFor t F version later).map dn))
theorem cal_costs_ahead (T : Top K mg) : Cal P w K mg base 3 "costs_ahead" (sp_costs_ahead K) [] :=
  calOf (F_costs_ahead T) (gf_costs_ahead T) sc_costs_ahead (fun _ _ _ _ _ _ us hl => match us, hl with | [_, _, _], _ => rfl) (fun _ _ _ _ h => h.len fun _ => rfl) fun cdv A outer s H vs Q E hr h => by
  obtain ⟨⟨t, F, version, later⟩, Hf, ok, ⟨v0, _, rfl, r0, v1, _, rfl, r1, v2, _, rfl, r2, rfl⟩, hp, k⟩ := h
  try dsimp only at hp k
  refine ⟨_, (pss_cons (ps_set (i := 3) sc_costs_ahead.nd rfl (Or.inl rfl) (pe_lst pa_nil))
      (pss_cons (ps_for PassesOwn.never rfl (pi_range1 rfl (T_range T) (pa_cons (pe_fldK K rfl (pv 0) rfl) pa_nil)) (pg_name (i := 4) sc_costs_ahead.nd rfl (Or.inl rfl))
      (pss_one (ps_expr (pe_bm PySem.F.plainAttrs_list PySem.F.slot_list_append PySem.F.type_list_append mt_append (pv 3) (pa_cons (pe_callB (minK K rfl rfl) rfl (T_min T) b_min (pa_cons (pe_c (cal_costs_by T) hr (by decide) rfl (pa_cons (pv 0) (pa_cons (pv 4) (pa_cons (pv 1) (pa_cons (pv 2) pa_nil))))) pa_nil)) pa_nil)))))
      (pss_one (ps_ret (pv 3))))), ?_⟩
  obtain ⟨hw, hF, h2, h3⟩ := hp
  have hc := vc_le hw
  refine s_buildR (W := ⟨Hf, H⟩) (versionCount t) (fun home => dn (minimumOf ((List.range (versionCount t)).map (byFor t F home version later)))) (by show 3 < 5; decide) (by decide) ok (by omega) (fun p => ea_cons (fld_count T (ev_var r0 rfl)) ea_nil) (fun p m W1 g hm => ev_minN (fun e => by have := congrArg List.length e; rw [List.length_map, List.length_range] at this; simp at this; omega) (ev_call (x := (t, F, m, version, later)) ⟨hw, hF, hm, h2, h3⟩ (ea_cons (ev_var (up g r0) rfl) (ea_cons (ev_var (W := W1) (d := dn m) rfl rfl) (ea_cons (ev_var (up g r1) rfl) (ea_cons (ev_var (up g r2) rfl) ea_nil)))))) fun v W1 g r => k v W1 g (by unfold rowFor; rw [List.map_map]; exact r)
abbrev sp_cost_table (K : PySem.W.Frag) : Sp := PuSp (ι := Tr × Nat × List Nat) (fun (t, F, uses) => [dTree K t F true, .l (uses.map dn)]) (fun (t, F, uses) => Wf t ∧ F ≤ 20 ∧ (∀ u ∈ uses, u < versionCount t) ∧ uses.length ≤ 1000) (fun (t, F, uses) => .l ((costTable t F uses).map fun l => .l (l.map dn)))
theorem cal_cost_table (T : Top K mg) : Cal P w K mg base 4 "cost_table" (sp_cost_table K) [] :=
  calOf (F_cost_table T) (gf_cost_table T) sc_cost_table (fun _ _ _ _ _ _ us hl => match us, hl with | [_, _], _ => rfl) (fun _ _ _ _ h => h.len fun _ => rfl) fun cdv A outer s H vs Q E hr h => by
  obtain ⟨⟨t, F, uses⟩, Hf, ok, ⟨v0, _, rfl, r0, v1, _, rfl, r1, rfl⟩, hp, k⟩ := h
  try dsimp only at hp k
  refine ⟨_, (pss_cons (ps_set (i := 2) sc_cost_table.nd rfl (Or.inl rfl) (pe_lst (pa_cons (pe_op op_rep (pe_lst (pa_cons pe_int pa_nil)) (pe_fldK K rfl (pv 0) rfl)) pa_nil)))
      (pss_cons (ps_for PassesOwn.never rfl (pi_listK K rfl (pe_revK K rfl (pv 1))) (pg_name (i := 3) sc_cost_table.nd rfl (Or.inl rfl))
      (pss_one (ps_expr (pe_bm PySem.F.plainAttrs_list PySem.F.slot_list_append PySem.F.type_list_append mt_append (pv 2) (pa_cons (pe_c (cal_costs_ahead T) hr (by decide) rfl (pa_cons (pv 0) (pa_cons (pv 3) (pa_cons (pe_ix (ixL K rfl) (pv 2) (pe_un un_neg pe_int) (fun _ _ => rfl)) pa_nil)))) pa_nil)))))
      (pss_one (ps_ret (pe_revK K rfl (pv 2)))))), ?_⟩
  obtain ⟨hw, hF, h2, h3⟩ := hp
  have hc := vc_le hw
  refine s_lst (W := ⟨Hf, H⟩) (ds := [.l (List.replicate (versionCount t) (dn 0))]) (ea_cons (ev_op (rv_rep (by omega)) (ev_lst (ea_cons ev_int ea_nil)) (fld_count T (ev_var r0 rfl))) ea_nil) ok (by show 1 ≤ 10000000; decide) fun p W1 o1 hn => ?_
  dsimp only
  refine s_forL uses.reverse dn (by rw [List.map_reverse]; exact ev_rev (ev_var (up o1.gr r1) rfl)) o1.gr.fh fun W2 g2 => ⟨fun m σ' W' => ∃ x, σ' = [some v0, some v1, some (.ref p), x] ∧ Ex W2.f W'.f ∧ Own ⟨Hf, H⟩ p (((costTable t F (uses.reverse.take m).reverse).reverse).map fun l => .l (l.map dn)) W', ⟨none, rfl, .refl _, ?_⟩, fun m σ' W' ⟨_, _, q, o⟩ => ⟨q, o.gr.fh⟩, ?_, ?_⟩
  · rw [List.take_zero, List.reverse_nil, costTable_nil]
    have e : ((List.range (versionCount t)).map fun _ => 0).map dn = List.replicate (versionCount t) (dn 0) := by
      rw [List.map_map]
      exact List.ext_getElem (by simp) fun i h1 h2 => by simp
    show Own ⟨Hf, H⟩ p [.l (((List.range (versionCount t)).map fun _ => 0).map dn)] W2
    rw [e]
    exact o1.more g2
  · rintro m u xv σ' W' hu ⟨x, rfl, xf, o3⟩ rx
    have hu' := h2 u (List.mem_reverse.mp (List.mem_of_getElem? hu))
    have hm := (List.getElem?_eq_some_iff.mp hu).1
    rw [List.length_reverse] at hm
    obtain ⟨later, rest, c1, c2, c3, c4⟩ := costTable_ex t F (uses.reverse.take m).reverse
    rw [c1, List.reverse_cons, List.map_append] at o3
    have hl : (rest.reverse.map fun l => D.l (l.map dn)).length ≤ 1000 := by
      rw [List.length_map, List.length_reverse, c3, List.length_reverse, List.length_take]
      omega
    refine s_appO o3 hn rfl (ev_call (x := (t, F, u, later)) ⟨hw, hF, hu', c2⟩ (ea_cons (ev_var (up o3.gr r0) rfl) (ea_cons (ev_var rx rfl) (ea_cons (o3.last rfl (ev_neg ev_int)) ea_nil)))) (by rw [List.length_append]; simp only [List.length_map, List.length_cons, List.length_nil] at hl ⊢; omega) fun W4 o4 x4 => ?_
    refine ⟨W4, rfl, _, rfl, xf.trans x4, ?_⟩
    rw [List.take_add_one, hu, List.reverse_append, Option.toList_some, List.reverse_singleton, List.singleton_append, c4, List.reverse_cons, List.reverse_cons, List.map_append, List.map_append]
    exact o4
  · rintro σ' W' ⟨x, rfl, xf, o3⟩
    rw [List.take_length, List.reverse_reverse] at o3
    obtain ⟨W4, e4, g4, r4, _⟩ := o3.done hn
    rw [← e4]
    refine s_end g4 (EvD.is (ev_rev (ev_var r4 rfl)) ?_) k
    rw [← List.map_reverse, List.reverse_reverse]
abbrev sp_best_schedule (K : PySem.W.Frag) : Sp := PuSp (ι := Tr × Nat × Nat × List Nat) (fun (t, F, first, uses) => [dTree K t F true, dn first, .l (uses.map dn)]) (fun (t, F, first, uses) => Wf t ∧ F ≤ 20 ∧ first < versionCount t ∧ (∀ u ∈ uses, u < versionCount t) ∧ uses.length ≤ 1000) (fun (t, F, first, uses) => .t [dn (bestCost t F first uses), .l ((bestSchedule t F first uses).map dn)])
theorem cal_best_schedule (T : Top K mg) : Cal P w K mg base 5 "best_schedule" (sp_best_schedule K) [] :=
  calOf (F_best_schedule T) (gf_best_schedule T) sc_best_schedule (fun _ _ _ _ _ _ us hl => match us, hl with | [_, _, _], _ => rfl) (fun _ _ _ _ h => h.len fun _ => rfl) fun cdv A outer s H vs Q E hr h => by
  obtain ⟨⟨t, F, first, uses⟩, Hf, ok, ⟨v0, _, rfl, r0, v1, _, rfl, r1, v2, _, rfl, r2, rfl⟩, hp, k⟩ := h
  try dsimp only at hp k
  refine ⟨_, (pss_cons (ps_set (i := 3) sc_best_schedule.nd rfl (Or.inl rfl) (pe_c (cal_cost_table T) hr (by decide) rfl (pa_cons (pv 0) (pa_cons (pv 2) pa_nil))))
      (pss_cons (ps_par (i := 4) (j := 5) rfl sc_best_schedule.nd rfl rfl (by decide) rfl rfl (pa_cons (pe_lst pa_nil) (pa_cons (pv 1) pa_nil)) rfl)
      (pss_cons (ps_for PassesOwn.never rfl (pi_enumK K rfl rfl (T_enumerate T) (pa_cons (pv 2) pa_nil)) (pg_tupK K rfl rfl (pgs_cons (pg_name (i := 6) sc_best_schedule.nd rfl (Or.inl rfl)) (pgs_cons (pg_name (i := 7) sc_best_schedule.nd rfl (Or.inl rfl)) pgs_nil)))
      (pss_cons (ps_set (i := 8) sc_best_schedule.nd rfl (Or.inl rfl) (pe_c (cal_costs_by T) hr (by decide) rfl (pa_cons (pv 0) (pa_cons (pv 5) (pa_cons (pv 7) (pa_cons (pe_ix (ixL K rfl) (pv 3) (pe_op op_add (pv 6) pe_int) (fun _ _ => rfl)) pa_nil))))))
      (pss_cons (ps_set (i := 5) sc_best_schedule.nd rfl (Or.inl rfl) (pe_bm PySem.F.plainAttrs_list PySem.F.slot_list_index PySem.F.type_list_index (indexK K rfl) (pv 8) (pa_cons (pe_callB (minK K rfl rfl) rfl (T_min T) b_min (pa_cons (pv 8) pa_nil)) pa_nil)))
      (pss_one (ps_expr (pe_bm PySem.F.plainAttrs_list PySem.F.slot_list_append PySem.F.type_list_append mt_append (pv 4) (pa_cons (pv 5) pa_nil)))))))
      (pss_one (ps_ret (pe_tup (pa_cons (pe_ix (ixL K rfl) (pe_ix (ixL K rfl) (pv 3) pe_int (fun _ _ => rfl)) (pv 1) (fun _ _ => rfl)) (pa_cons (pv 4) pa_nil)))))))), ?_⟩
  obtain ⟨hw, hF, h1, h2, h3⟩ := hp
  have hc := vc_le hw
  obtain ⟨tl, tr⟩ := costTable_rows t F uses
  refine s_set (W := ⟨Hf, H⟩) (ev_call (x := (t, F, uses)) ⟨hw, hF, h2, h3⟩ (ea_cons (ev_var r0 rfl) (ea_cons (ev_var r2 rfl) ea_nil))) ok fun v3 W1 g1 r3 => ?_
  dsimp only
  refine s_parNil (v := v1) g1.fh rfl fun p hp => ?_
  cases r1
  dsimp only
  have o1 := Own.start g1.rf hp
  refine s_forE (W := ⟨W1.f, upd W1.h p (.lst [])⟩) uses dn (ev_var (up (g1.trans o1.gr) r2) rfl) o1.gr.fh fun W2 g2 => ⟨fun m σ' W' => ∃ hm fin x y z, σ' = [some v0, some (vn first), some v2, some v3, some (.ref p), some (vn hm), x, y, z] ∧ Ex W2.f W'.f ∧ Own W1 p (List.map dn fin) W' ∧ hm < versionCount t ∧ fin.length = m ∧ fin ++ scheduleFrom t F hm (uses.drop m) ((costTable t F uses).drop (m + 1)) = bestSchedule t F first uses, ⟨first, [], none, none, none, rfl, .refl _, o1.more g2, h1, rfl, rfl⟩, fun m σ' W' ⟨_, _, _, _, _, _, q, o, _⟩ => ⟨q, o.gr.fh⟩, ?_, ?_⟩
  · rintro m u xv σ' W' W3 hu ⟨hm, fin, x, y, z, rfl, xf, o3, hh, fl, hs⟩ g4 rx
    cases rx
    have hu' := h2 u (List.mem_of_getElem? hu)
    have hml := (List.getElem?_eq_some_iff.mp hu).1
    have o4 := o3.more g4
    have gg := g1.trans o4.gr
    obtain ⟨later, hl⟩ : ∃ l, (costTable t F uses)[m + 1]? = some l := ⟨_, List.getElem?_eq_getElem (by omega)⟩
    have ll := tr later (List.mem_of_getElem? hl)
    refine s_set (W := W3) (ev_call (x := (t, F, hm, u, later)) ⟨hw, hF, hh, hu', ll⟩ (ea_cons (ev_var (up gg r0) rfl) (ea_cons (ev_var (W := W3) (d := dn hm) rfl rfl) (ea_cons (ev_var (W := W3) (d := dn u) rfl rfl) (ea_cons (ev_op (rv_ix (j := m + 1) (d := .l (later.map dn)) (by rw [List.getElem?_map, hl]; rfl)) (ev_var (up o4.gr r3) rfl) (ev_op rv_addN (ev_var (W := W3) (d := dn m) rfl rfl) (ev_nat (n := 1)))) ea_nil))))) g4.fh fun v8 W5 g5 r8 => ?_
    obtain ⟨j, j1, j2, j3, j4⟩ := first_least (show 0 < versionCount t by omega) (byFor t F hm u later)
    dsimp only
    refine s_set (d := dn j) (ev_indexN (ns := (List.range (versionCount t)).map (byFor t F hm u later)) (x := minimumOf ((List.range (versionCount t)).map (byFor t F hm u later))) (by rw [at_range j1, j2]) (fun i hi e => by rw [at_range (by omega)] at e; exact j3 i hi (Option.some.inj e)) (ev_var r8 rfl) (ev_minN (fun e => by have := congrArg List.length e; rw [List.length_map, List.length_range] at this; simp at this; omega) (ev_var r8 rfl))) g5.fh fun v5 W6 g6 r5 => ?_
    cases r5
    dsimp only
    have o6 := o4.more (g5.trans g6)
    refine s_appO o6 hp rfl (ev_var (W := W6) (d := dn j) rfl rfl) (by rw [List.length_map]; omega) fun W7 o7 x7 => ?_
    refine ⟨W7, rfl, j, fin ++ [j], _, _, _, rfl, xf.trans (g4.ff.trans ((g5.trans g6).ff.trans x7)), by rw [List.map_append]; exact o7, j1, by rw [List.length_append, fl]; rfl, ?_⟩
    rw [← hs, List.drop_eq_getElem_cons hml, (List.getElem?_eq_some_iff.mp hu).2, List.drop_eq_getElem_cons (i := m + 1) (l := costTable t F uses) (by omega), (List.getElem?_eq_some_iff.mp hl).2, List.append_assoc]
    refine congrArg (fin ++ ·) ?_
    show j :: _ = scheduleFrom t F hm (u :: uses.drop (m + 1)) (later :: (costTable t F uses).drop (m + 1 + 1))
    have e : scheduleFrom t F hm (u :: uses.drop (m + 1)) (later :: (costTable t F uses).drop (m + 1 + 1)) = (((List.range (versionCount t)).find? fun next => byFor t F hm u later next == minimumOf ((List.range (versionCount t)).map (byFor t F hm u later))).getD 0) :: scheduleFrom t F (((List.range (versionCount t)).find? fun next => byFor t F hm u later next == minimumOf ((List.range (versionCount t)).map (byFor t F hm u later))).getD 0) (uses.drop (m + 1)) ((costTable t F uses).drop (m + 1 + 1)) := rfl
    rw [e, j4]
    rfl
  · rintro σ' W' ⟨hm, fin, x, y, z, rfl, xf, o3, hh, fl, hs⟩
    rw [List.drop_eq_nil_of_le (as := uses) (Nat.le_refl _)] at hs
    have hs : fin = bestSchedule t F first uses := by
      rw [← hs]
      show fin = fin ++ []
      rw [List.append_nil]
    obtain ⟨W4, e4, g4, r4, _⟩ := o3.done hp
    rw [← e4]
    obtain ⟨row, rest, c1, c2, _⟩ := costTable_ex t F uses
    refine s_end (g1.trans g4) (EvD.is (ev_tup (ea_cons (ev_op (rv_ix (j := first) (ds := row.map dn) (at_nat (by omega))) (ev_op (rv_ix (j := 0) (d := .l (row.map dn)) (by rw [c1]; rfl)) (ev_var (up g4 r3) rfl) ev_int) (ev_var (W := W4) (d := dn first) rfl rfl)) (ea_cons (ev_var r4 rfl) ea_nil)) (by show 2 ≤ 10000000; decide)) ?_) k
    unfold bestCost
    rw [hs, c1]
    rfl
end
end Hm
end
section
set_option Elab.async false
set_option linter.all false
set_option maxRecDepth 100000
set_option maxHeartbeats 4000000
namespace Hm
open PySem PySem.Spec PyProof.Rows L2
open C8 (Cal Met Mak pe_c pe_mt pe_mt0 pe_mk pe_gc)
open Vbjtah (versionCount edgesOf isBelow distance)
/-! ### bounds, medians -/
open Vbjtah (minimumOf edgeCosts firstCosts boundValues valueFields lengthOf fixedCost medianOf)
theorem at_int {l : List Int} {j : Nat} (h : j < l.length) : (l.map D.i)[j]? = some (.i (l.getD j 0)) := by
  rw [List.getElem?_map, List.getD_eq_getElem?_getD, List.getElem?_eq_getElem h]
  rfl
theorem rv_subN {W : Wd} {a b : Nat} (h : b ≤ a) : RvD (rI0 fun i j => .int (i - j)) W (dn a) (dn b) (dn (a - b)) := by
  have := @rv_sub W a b
  rw [show ((a : Int) - (b : Int)) = ((a - b : Nat) : Int) by omega] at this
  exact this
theorem fs_hit {α β : Type} {l : List α} {f : α → Option β} {m : Nat} {x : α} {r : β} (h : (l.take m).findSome? f = none) (hx : l[m]? = some x) (hf : f x = some r) : l.findSome? f = some r := by
  have e : l = l.take m ++ x :: l.drop (m + 1) := by
    obtain ⟨h1, h2⟩ := List.getElem?_eq_some_iff.mp hx
    rw [← h2, ← List.drop_eq_getElem_cons h1, List.take_append_drop]
  rw [e, List.findSome?_append, h, Option.none_or, List.findSome?_cons, hf]
theorem fs_miss {α β : Type} {l : List α} {f : α → Option β} {m : Nat} {x : α} (h : (l.take m).findSome? f = none) (hx : l[m]? = some x) (hf : f x = none) : (l.take (m + 1)).findSome? f = none := by
  rw [List.take_add_one, hx, List.findSome?_append, h]
  show List.findSome? f [x] = none
  rw [List.findSome?_cons, hf]
  rfl
def faultHere (t : Tr) (F first : Nat) (uses : List Nat) (values : List Int) (e i : Nat) : Option (Nat × Nat × Nat) := if 0 < faultCode t F first uses values e i then some (e, i, faultCode t F first uses values e i) else none
def faultEdge (t : Tr) (F first : Nat) (uses : List Nat) (values : List Int) (e : Nat) : Option (Nat × Nat × Nat) := (List.range (uses.length + 1)).findSome? (faultHere t F first uses values e)
def faultFind (t : Tr) (F first : Nat) (uses : List Nat) (values : List Int) : Option (Nat × Nat × Nat) := (edgesOf t).findSome? (faultEdge t F first uses values)
def dFault : Option (Nat × Nat × Nat) → D
  | none => .l []
  | some x => .l [dn x.1, dn x.2.1, dn x.2.2]
def boundSum (t : Tr) (q : Nat) (values : List Int) : Int := ((edgesOf t).map fun e => min (pairAt values q e q).1 (pairAt values q e q).2).sum
theorem place_lt {t : Tr} {q e i : Nat} {values : List Int} (hv : values.length = 2 * (edgesOf t).length * (q + 1)) (he : e ∈ edgesOf t) (hi : i ≤ q) : placeOf q e i + 1 < values.length := by
  obtain ⟨h1, h2⟩ := mem_edges.mp he
  have hl : (edgesOf t).length + 1 = versionCount t := by
    unfold edgesOf versionCount
    rw [List.length_map, List.length_range]
  rw [hv]
  unfold placeOf
  have h3 : e - 1 + 1 ≤ (edgesOf t).length := by omega
  have h4 : (e - 1 + 1) * (q + 1) ≤ (edgesOf t).length * (q + 1) := Nat.mul_le_mul_right _ h3
  rw [Nat.add_mul, Nat.one_mul] at h4
  have h5 : 2 * (edgesOf t).length * (q + 1) = 2 * ((edgesOf t).length * (q + 1)) := Nat.mul_assoc _ _ _
  omega
def wbProg (t : Tr) (weights : List Nat) (v u : Nat) : Nat := (((List.range (versionCount t)).filter fun x => isBelow t (max v u) x == isBelow t (max v u) u).map fun x => weights.getD x 0).sum
def heavySide (t : Tr) (weights : List Nat) (v : Nat) : Option (Nat × Nat) := ((List.range (versionCount t)).filter (isJoined t v)).findSome? fun u => if weights.sum < 2 * wbProg t weights v u then some (u, wbProg t weights v u) else none
def dHeavy : Option (Nat × Nat) → D
  | none => .l []
  | some x => .l [dn x.1, dn x.2]
theorem weigh_eq {t : Tr} {weights : List Nat} {v : Nat} (h : weights.length = versionCount t) : (weights.zipIdx.map fun x => x.1 * distance t v x.2).sum = fixedCost t weights v := by
  unfold fixedCost
  rw [sumOf_eq]
  refine congrArg List.sum (List.ext_getElem (by rw [List.length_map, List.length_zipIdx, List.length_map, List.length_range, h]) fun i h1 h2 => ?_)
  rw [List.length_map, List.length_zipIdx] at h1
  rw [List.getElem_map, List.getElem_zipIdx, List.getElem_map, List.getElem_range, Nat.zero_add, List.getD_eq_getElem?_getD, List.getElem?_eq_getElem h1]
  rfl
section
variable {P : Program} {w : World} {K : PySem.W.Frag} {mg : Str → Option Value} {base : Heap}
abbrev sp_first_pair (K : PySem.W.Frag) : Sp := PuSp (ι := Tr × Nat × Nat × Nat) (fun (t, F, e, first) => [dTree K t F true, dn e, dn first]) (fun (t, F, e, first) => Wf t ∧ F ≤ 20 ∧ e ∈ edgesOf t ∧ first < versionCount t) (fun (t, F, e, first) => dP (firstCosts t F first e))
theorem cal_first_pair (T : Top K mg) : Cal P w K mg base 2 "first_pair" (sp_first_pair K) [] :=
  calOf (F_first_pair T) (gf_first_pair T) sc_first_pair (fun _ _ _ _ _ _ us hl => match us, hl with | [_, _, _], _ => rfl) (fun _ _ _ _ h => h.len fun _ => rfl) fun cdv A outer s H vs Q E hr h => by
  obtain ⟨⟨t, F, e, first⟩, Hf, ok, ⟨v0, _, rfl, r0, v1, _, rfl, r1, v2, _, rfl, r2, rfl⟩, hp, k⟩ := h
  try dsimp only at hp k
  refine ⟨_, (pss_cons (ps_set (i := 3) sc_first_pair.nd rfl (Or.inl rfl) (pe_op op_mul (pe_fldK K rfl (pv 0) rfl) (pe_ix (ixL K rfl) (pe_fldK K rfl (pv 0) rfl) (pv 1) (fun _ _ => rfl))))
      (pss_one (ps_ret (pe_ifExp (pt_val (pe_mt (met_Tree_is_lower T) hr (by decide) (pv 0) (pa_cons (pv 1) (pa_cons (pv 2) pa_nil)))) (pe_tup (pa_cons pe_int (pa_cons (pv 3) pa_nil))) (pe_tup (pa_cons (pv 3) (pa_cons pe_int pa_nil))))))), ?_⟩
  obtain ⟨hw, hF, he, h1⟩ := hp
  refine s_set (W := ⟨Hf, H⟩) (d := dn (F * lengthOf t e)) (ev_op (rv_mulN (by omega)) (fld_factor T (ev_var r0 rfl)) (ev_op (rv_ix (len_at hw he)) (fld_lengths T (ev_var r0 rfl)) (ev_var r1 rfl))) ok fun v3 W1 g r3 => ?_
  dsimp only
  refine s_end g (ev_if (et_B (ev_meth (x := (t, F, true, e, first)) rfl ⟨hw, h1⟩ (by decide +kernel) (ev_var (up g r0) rfl) (ea_cons (ev_var (up g r1) rfl) (ea_cons (ev_var (up g r2) rfl) ea_nil)))) (fun q => EvD.is (ev_tup (ea_cons ev_int (ea_cons (ev_var r3 rfl) ea_nil)) (by show 2 ≤ 10000000; decide)) ?_) (fun q => EvD.is (ev_tup (ea_cons (ev_var r3 rfl) (ea_cons ev_int ea_nil)) (by show 2 ≤ 10000000; decide)) ?_)) k
  · unfold firstCosts
    rw [if_pos q]
  · unfold firstCosts
    rw [if_neg (by rw [q]; decide)]
abbrev sp_next_pair (K : PySem.W.Frag) : Sp := PuSp (ι := Tr × Nat × Nat × Nat × (Int × Int)) (fun (t, F, e, u, c) => [dTree K t F true, dn e, dn u, dP c]) (fun (t, F, e, u, c) => Wf t ∧ F ≤ 20 ∧ e ∈ edgesOf t ∧ u < versionCount t) (fun (t, F, e, u, c) => dP (nextPair F (lengthOf t e) (isBelow t e u) c))
theorem cal_next_pair (T : Top K mg) : Cal P w K mg base 2 "next_pair" (sp_next_pair K) [] :=
  calOf (F_next_pair T) (gf_next_pair T) sc_next_pair (fun _ _ _ _ _ _ us hl => match us, hl with | [_, _, _, _], _ => rfl) (fun _ _ _ _ h => h.len fun _ => rfl) fun cdv A outer s H vs Q E hr h => by
  obtain ⟨⟨t, F, e, u, c⟩, Hf, ok, ⟨v0, _, rfl, r0, v1, _, rfl, r1, v2, _, rfl, r2, v3, _, rfl, r3, rfl⟩, hp, k⟩ := h
  try dsimp only at hp k
  refine ⟨_, (pss_cons (ps_set (i := 4) sc_next_pair.nd rfl (Or.inl rfl) (pe_ix (ixL K rfl) (pe_fldK K rfl (pv 0) rfl) (pv 1) (fun _ _ => rfl)))
      (pss_cons (ps_set (i := 5) sc_next_pair.nd rfl (Or.inl rfl) (pe_op op_mul (pe_fldK K rfl (pv 0) rfl) (pv 4)))
      (pss_cons (ps_set (i := 6) sc_next_pair.nd rfl (Or.inl rfl) (pe_mt (met_Tree_is_lower T) hr (by decide) (pv 0) (pa_cons (pv 1) (pa_cons (pv 2) pa_nil))))
      (pss_cons (ps_set (i := 7) sc_next_pair.nd rfl (Or.inl rfl) (pe_ifExp (pt_val (pv 6)) (pe_ix (ixT K rfl) (pv 3) pe_int (fun _ _ => rfl)) (pe_op op_add (pe_ix (ixT K rfl) (pv 3) pe_int (fun _ _ => rfl)) (pv 4))))
      (pss_cons (ps_set (i := 8) sc_next_pair.nd rfl (Or.inl rfl) (pe_ifExp (pt_val (pv 6)) (pe_op op_add (pe_ix (ixT K rfl) (pv 3) pe_int (fun _ _ => rfl)) (pv 4)) (pe_ix (ixT K rfl) (pv 3) pe_int (fun _ _ => rfl))))
      (pss_one (ps_ret (pe_tup (pa_cons (pe_callB (call_min2 rfl) rfl (T_min T) b_min (pa_cons (pv 7) (pa_cons (pe_op op_add (pv 8) (pv 5)) pa_nil))) (pa_cons (pe_callB (call_min2 rfl) rfl (T_min T) b_min (pa_cons (pv 8) (pa_cons (pe_op op_add (pv 7) (pv 5)) pa_nil))) pa_nil)))))))))), ?_⟩
  obtain ⟨hw, hF, he, h1⟩ := hp
  refine s_set (W := ⟨Hf, H⟩) (d := dn (lengthOf t e)) (ev_op (rv_ix (len_at hw he)) (fld_lengths T (ev_var r0 rfl)) (ev_var r1 rfl)) ok fun v4 W1 g1 r4 => ?_
  dsimp only
  refine s_set (d := dn (F * lengthOf t e)) (ev_op (rv_mulN (by omega)) (fld_factor T (ev_var (up g1 r0) rfl)) (ev_var r4 rfl)) g1.fh fun v5 W2 g2 r5 => ?_
  dsimp only
  refine s_set (ev_meth (x := (t, F, true, e, u)) rfl ⟨hw, h1⟩ (by decide +kernel) (ev_var (up (g1.trans g2) r0) rfl) (ea_cons (ev_var (up (g1.trans g2) r1) rfl) (ea_cons (ev_var (up (g1.trans g2) r2) rfl) ea_nil))) g2.fh fun v6 W3 g3 r6 => ?_
  dsimp only
  have a3 := (g1.trans g2).trans g3
  refine s_set (d := .i (c.1 + if isBelow t e u = true then 0 else (lengthOf t e : Int))) (ev_if (et_B (ev_var r6 rfl)) (fun q => EvD.is (ev_op (rv_ixT (j := 0) (d := .i c.1) rfl) (ev_var (up a3 r3) rfl) ev_int) (by rw [if_pos q, Int.add_zero])) (fun q => EvD.is (ev_op rv_add (ev_op (rv_ixT (j := 0) (d := .i c.1) rfl) (ev_var (up a3 r3) rfl) ev_int) (ev_var (up (g2.trans g3) r4) rfl)) (by rw [if_neg (by rw [q]; decide)]))) g3.fh fun v7 W4 g4 r7 => ?_
  dsimp only
  have a4 := a3.trans g4
  refine s_set (d := .i (c.2 + if isBelow t e u = true then (lengthOf t e : Int) else 0)) (ev_if (et_B (ev_var (up g4 r6) rfl)) (fun q => EvD.is (ev_op rv_add (ev_op (rv_ixT (j := 1) (d := .i c.2) rfl) (ev_var (up a4 r3) rfl) ev_int) (ev_var (up ((g2.trans g3).trans g4) r4) rfl)) (by rw [if_pos q])) (fun q => EvD.is (ev_op (rv_ixT (j := 1) (d := .i c.2) rfl) (ev_var (up a4 r3) rfl) ev_int) (by rw [if_neg (by rw [q]; decide), Int.add_zero]))) g4.fh fun v8 W5 g5 r8 => ?_
  dsimp only
  refine s_end (a4.trans g5) (ev_tup (ea_cons (ev_min2 (ev_var (up g5 r7) rfl) (ev_op rv_add (ev_var r8 rfl) (ev_var (up ((g3.trans g4).trans g5) r5) rfl))) (ea_cons (ev_min2 (ev_var r8 rfl) (ev_op rv_add (ev_var (up g5 r7) rfl) (ev_var (up ((g3.trans g4).trans g5) r5) rfl))) ea_nil)) (by show 2 ≤ 10000000; decide)) k
abbrev sp_edge_pairs (K : PySem.W.Frag) : Sp := PuSp (ι := Tr × Nat × Nat × Nat × List Nat) (fun (t, F, e, first, uses) => [dTree K t F true, dn e, dn first, .l (uses.map dn)]) (fun (t, F, e, first, uses) => Wf t ∧ F ≤ 20 ∧ e ∈ edgesOf t ∧ first < versionCount t ∧ (∀ u ∈ uses, u < versionCount t) ∧ uses.length ≤ 1000) (fun (t, F, e, first, uses) => .l ((pairsOf t F first uses e).map dP))
theorem cal_edge_pairs (T : Top K mg) : Cal P w K mg base 3 "edge_pairs" (sp_edge_pairs K) [] :=
  calOf (F_edge_pairs T) (gf_edge_pairs T) sc_edge_pairs (fun _ _ _ _ _ _ us hl => match us, hl with | [_, _, _, _], _ => rfl) (fun _ _ _ _ h => h.len fun _ => rfl) fun cdv A outer s H vs Q E hr h => by
  obtain ⟨⟨t, F, e, first, uses⟩, Hf, ok, ⟨v0, _, rfl, r0, v1, _, rfl, r1, v2, _, rfl, r2, v3, _, rfl, r3, rfl⟩, hp, k⟩ := h
  try dsimp only at hp k
  refine ⟨_, (pss_cons (ps_set (i := 4) sc_edge_pairs.nd rfl (Or.inl rfl) (pe_lst (pa_cons (pe_c (cal_first_pair T) hr (by decide) rfl (pa_cons (pv 0) (pa_cons (pv 1) (pa_cons (pv 2) pa_nil)))) pa_nil)))
      (pss_cons (ps_for PassesOwn.never rfl (pi_listK K rfl (pv 3)) (pg_name (i := 5) sc_edge_pairs.nd rfl (Or.inl rfl))
      (pss_one (ps_expr (pe_bm PySem.F.plainAttrs_list PySem.F.slot_list_append PySem.F.type_list_append mt_append (pv 4) (pa_cons (pe_c (cal_next_pair T) hr (by decide) rfl (pa_cons (pv 0) (pa_cons (pv 1) (pa_cons (pv 5) (pa_cons (pe_ix (ixL K rfl) (pv 4) (pe_un un_neg pe_int) (fun _ _ => rfl)) pa_nil))))) pa_nil)))))
      (pss_one (ps_ret (pv 4))))), ?_⟩
  obtain ⟨hw, hF, he, h1, h2, h3⟩ := hp
  refine s_lst (W := ⟨Hf, H⟩) (ds := [dP (firstCosts t F first e)]) (ea_cons (ev_call (x := (t, F, e, first)) ⟨hw, hF, he, h1⟩ (ea_cons (ev_var r0 rfl) (ea_cons (ev_var r1 rfl) (ea_cons (ev_var r2 rfl) ea_nil)))) ea_nil) ok (by show 1 ≤ 10000000; decide) fun p W1 o1 hn => ?_
  dsimp only
  refine s_forL uses dn (ev_var (up o1.gr r3) rfl) o1.gr.fh fun W2 g2 => ⟨fun m σ' W' => ∃ x fin c, σ' = [some v0, some v1, some v2, some v3, some (.ref p), x] ∧ Ex W2.f W'.f ∧ Own ⟨Hf, H⟩ p (List.map dP (fin ++ [c])) W' ∧ fin.length = m ∧ fin ++ edgeCosts F (lengthOf t e) c ((uses.drop m).map (isBelow t e)) = pairsOf t F first uses e, ⟨none, [], firstCosts t F first e, rfl, .refl _, o1.more g2, rfl, rfl⟩, fun m σ' W' ⟨_, _, _, _, q, o, _⟩ => ⟨q, o.gr.fh⟩, ?_, ?_⟩
  · rintro m u xv σ' W' hu ⟨x, fin, c, rfl, xf, o3, fl, hs⟩ rx
    have hm := (List.getElem?_eq_some_iff.mp hu).1
    have o3' := o3
    rw [List.map_append] at o3'
    refine s_appO o3 hn rfl (ev_call (x := (t, F, e, u, c)) ⟨hw, hF, he, h2 u (List.mem_of_getElem? hu)⟩ (ea_cons (ev_var (up o3.gr r0) rfl) (ea_cons (ev_var (up o3.gr r1) rfl) (ea_cons (ev_var rx rfl) (ea_cons (o3'.last rfl (ev_neg ev_int)) ea_nil))))) (by simp only [List.length_map, List.length_append, List.length_cons, List.length_nil]; omega) fun W4 o4 x4 => ?_
    refine ⟨W4, rfl, _, fin ++ [c], _, rfl, xf.trans x4, by rw [List.map_append]; exact o4, by rw [List.length_append, fl]; rfl, ?_⟩
    rw [← hs, List.append_assoc, List.drop_eq_getElem_cons hm, (List.getElem?_eq_some_iff.mp hu).2, List.map_cons, edgeCosts_cons]
    rfl
  · rintro σ' W' ⟨x, fin, c, rfl, xf, o3, fl, hs⟩
    rw [List.drop_eq_nil_of_le (Nat.le_refl _)] at hs
    have hs : fin ++ [c] = pairsOf t F first uses e := hs
    refine s_retO o3 hn rfl fun v W9 g9 r9 => k v W9 g9 (by rw [← hs]; exact r9)
abbrev sp_reported (K : PySem.W.Frag) : Sp := PuSp (ι := Tr × Nat × Nat × List Nat) (fun (t, F, first, uses) => [dTree K t F true, dn first, .l (uses.map dn)]) (fun (t, F, first, uses) => Wf t ∧ F ≤ 20 ∧ first < versionCount t ∧ (∀ u ∈ uses, u < versionCount t) ∧ uses.length ≤ 1000) (fun (t, F, first, uses) => .l ((valueFields (boundValues t F first uses)).map D.i))
theorem cal_reported (T : Top K mg) : Cal P w K mg base 4 "reported" (sp_reported K) [] :=
  calOf (F_reported T) (gf_reported T) sc_reported (fun _ _ _ _ _ _ us hl => match us, hl with | [_, _, _], _ => rfl) (fun _ _ _ _ h => h.len fun _ => rfl) fun cdv A outer s H vs Q E hr h => by
  obtain ⟨⟨t, F, first, uses⟩, Hf, ok, ⟨v0, _, rfl, r0, v1, _, rfl, r1, v2, _, rfl, r2, rfl⟩, hp, k⟩ := h
  try dsimp only at hp k
  refine ⟨_, (pss_cons (ps_set (i := 3) sc_reported.nd rfl (Or.inl rfl) (pe_lst pa_nil))
      (pss_cons (ps_for PassesOwn.never rfl (pi_listK K rfl (pe_mt0 (met_Tree_edges T) hr (by decide) (pv 0))) (pg_name (i := 4) sc_reported.nd rfl (Or.inl rfl))
      (pss_one (ps_for PassesOwn.never rfl (pi_listK K rfl (pe_c (cal_edge_pairs T) hr (by decide) rfl (pa_cons (pv 0) (pa_cons (pv 4) (pa_cons (pv 1) (pa_cons (pv 2) pa_nil)))))) (pg_name (i := 5) sc_reported.nd rfl (Or.inl rfl))
      (pss_one (ps_expr (pe_bm PySem.F.plainAttrs_list PySem.F.slot_list_extend PySem.F.type_list_extend (mt_extendT K rfl) (pv 3) (pa_cons (pv 5) pa_nil)))))))
      (pss_one (ps_ret (pv 3))))), ?_⟩
  obtain ⟨hw, hF, h1, h2, h3⟩ := hp
  have hsz := hw.pn
  have hel : (edgesOf t).length ≤ 9 := by unfold edgesOf; rw [List.length_map, List.length_range]; exact hsz
  refine s_nil (W := ⟨Hf, H⟩) ok fun p hp => ?_
  dsimp only
  have o1 := Own.start (.refl ok) hp
  have fl : ∀ l : List Nat, (l.flatMap fun e => fieldsOf (pairsOf t F first uses e)).length = l.length * (2 * (uses.length + 1)) := by
    intro l
    induction l with
    | nil => simp
    | cons a l ih =>
      have h : (fieldsOf (pairsOf t F first uses a)).length = 2 * (uses.length + 1) := by rw [fieldsOf_len]; unfold pairsOf; rw [edgeCosts_len, List.length_map]
      rw [List.flatMap_cons, List.length_append, ih, h, List.length_cons, Nat.add_mul, Nat.one_mul, Nat.add_comm]
  refine s_forL (W := ⟨Hf, upd H p (.lst [])⟩) (edgesOf t) dn (ev_meth (x := (t, F, true)) rfl hw (by decide +kernel) (ev_var (up o1.gr r0) rfl) ea_nil) o1.gr.fh fun W2 g2 => ⟨fun m σ' W' => ∃ x y, σ' = [some v0, some v1, some v2, some (.ref p), x, y] ∧ Ex W2.f W'.f ∧ Own ⟨Hf, H⟩ p ((((edgesOf t).take m).flatMap fun e => fieldsOf (pairsOf t F first uses e)).map D.i) W', ⟨none, none, rfl, .refl _, by rw [List.take_zero]; exact o1.more g2⟩, fun m σ' W' ⟨_, _, _, q, o⟩ => ⟨q, o.gr.fh⟩, ?_, ?_⟩
  · rintro m e xv σ' W' he ⟨x, y, rfl, xf, o3⟩ rx
    have hel' : ((edgesOf t).take m).length ≤ 9 := by rw [List.length_take]; omega
    have hl := fl ((edgesOf t).take m)
    have hmul := Nat.mul_le_mul_right (2 * (uses.length + 1)) hel'
    refine s_forL (W := W') (pairsOf t F first uses e) dP (ev_call (x := (t, F, e, first, uses)) ⟨hw, hF, List.mem_of_getElem? he, h1, h2, h3⟩ (ea_cons (ev_var (up o3.gr r0) rfl) (ea_cons (ev_var rx rfl) (ea_cons (ev_var (up o3.gr r1) rfl) (ea_cons (ev_var (up o3.gr r2) rfl) ea_nil))))) o3.gr.fh fun W3 g3 => ⟨fun j σ2 W'' => ∃ y, σ2 = [some v0, some v1, some v2, some (.ref p), some xv, y] ∧ Ex W3.f W''.f ∧ Own ⟨Hf, H⟩ p (((((edgesOf t).take m).flatMap fun e => fieldsOf (pairsOf t F first uses e)) ++ fieldsOf ((pairsOf t F first uses e).take j)).map D.i) W'', ⟨y, rfl, .refl _, by rw [List.take_zero, show fieldsOf [] = [] from rfl, List.append_nil]; exact o3.more g3⟩, fun m σ' W' ⟨_, _, q, o⟩ => ⟨q, o.gr.fh⟩, ?_, ?_⟩
    · rintro j c xc σ2 W4 hc ⟨y, rfl, xf4, o4⟩ rc
      refine s_extTO o4 hp rfl (ev_var rc rfl) (by
        have q1 : (fieldsOf ((pairsOf t F first uses e).take j)).length ≤ 2 * (uses.length + 1) := by
          have : (pairsOf t F first uses e).length = uses.length + 1 := by unfold pairsOf; rw [edgeCosts_len, List.length_map]
          rw [fieldsOf_len, List.length_take]
          omega
        rw [List.length_map, List.length_append, hl]
        simp only [List.length_cons, List.length_nil]
        omega) fun W5 o5 x5 => ?_
      refine ⟨W5, rfl, _, rfl, xf4.trans x5, ?_⟩
      rw [List.take_add_one, hc, show fieldsOf (List.take j (pairsOf t F first uses e) ++ (some c).toList) = fieldsOf (List.take j (pairsOf t F first uses e)) ++ [c.1, c.2] by unfold fieldsOf; rw [List.flatMap_append]; rfl, ← List.append_assoc, List.map_append]
      exact o5
    · rintro σ2 W4 ⟨y, rfl, xf4, o4⟩
      refine ⟨W4, rfl, _, _, rfl, xf.trans (g3.ff.trans xf4), ?_⟩
      rw [List.take_length] at o4
      rw [List.take_add_one, he, List.flatMap_append]
      have e1 : List.flatMap (fun e => fieldsOf (pairsOf t F first uses e)) (some e).toList = fieldsOf (pairsOf t F first uses e) := by
        show fieldsOf (pairsOf t F first uses e) ++ [] = _
        rw [List.append_nil]
      rw [e1]
      exact o4
  · rintro σ' W' ⟨x, y, rfl, xf, o3⟩
    rw [List.take_length] at o3
    have e : (edgesOf t).flatMap (fun e => fieldsOf (pairsOf t F first uses e)) = valueFields (boundValues t F first uses) := by
      unfold valueFields boundValues
      rw [List.flatMap_map]
      rfl
    rw [e] at o3
    exact s_retO o3 hp rfl k
abbrev sp_pair_at (K : PySem.W.Frag) : Sp := PuSp (ι := List Int × Nat × Nat × List Nat) (fun (values, e, i, uses) => [.l (values.map D.i), dn e, dn i, .l (uses.map dn)]) (fun (values, e, i, uses) => 1 ≤ e ∧ e ≤ 100 ∧ placeOf uses.length e i + 1 < values.length) (fun (values, e, i, uses) => dP (pairAt values uses.length e i))
theorem cal_pair_at (T : Top K mg) : Cal P w K mg base 1 "pair_at" (sp_pair_at K) [] :=
  calOf (F_pair_at T) (gf_pair_at T) sc_pair_at (fun _ _ _ _ _ _ us hl => match us, hl with | [_, _, _, _], _ => rfl) (fun _ _ _ _ h => h.len fun _ => rfl) fun cdv A outer s H vs Q E hr h => by
  obtain ⟨⟨values, e, i, uses⟩, Hf, ok, ⟨v0, _, rfl, r0, v1, _, rfl, r1, v2, _, rfl, r2, v3, _, rfl, r3, rfl⟩, hp, k⟩ := h
  try dsimp only at hp k
  refine ⟨_, (pss_cons (ps_set (i := 4) sc_pair_at.nd rfl (Or.inl rfl) (pe_op op_mul pe_int (pe_op op_add (pe_op op_mul (pe_op op_sub (pv 1) pe_int) (pe_op op_add (pe_callB (lenK K rfl) rfl (T_len T) b_len (pa_cons (pv 3) pa_nil)) pe_int)) (pv 2))))
      (pss_one (ps_ret (pe_tup (pa_cons (pe_ix (ixL K rfl) (pv 0) (pv 4) (fun _ _ => rfl)) (pa_cons (pe_ix (ixL K rfl) (pv 0) (pe_op op_add (pv 4) pe_int) (fun _ _ => rfl)) pa_nil)))))), ?_⟩
  obtain ⟨h1, h2, h3⟩ := hp
  refine s_set (W := ⟨Hf, H⟩) (d := dn (placeOf uses.length e i)) (ev_op (rv_mulN (a := 2) (by omega)) ev_int (ev_op rv_addN (ev_op (rv_mulN (by omega)) (ev_op (rv_subN h1) (ev_var r1 rfl) (ev_nat (n := 1))) (ev_op rv_addN ((ev_lenK (ev_var r3 rfl)).is (by rw [List.length_map])) (ev_nat (n := 1)))) (ev_var r2 rfl))) ok fun v4 W1 g r4 => ?_
  dsimp only
  refine s_end g (ev_tup (ea_cons (ev_op (rv_ix (at_int (by omega))) (ev_var (up g r0) rfl) (ev_var r4 rfl)) (ea_cons (ev_op (rv_ix (at_int (j := placeOf uses.length e i + 1) (by omega))) (ev_var (up g r0) rfl) (ev_op rv_addN (ev_var r4 rfl) (ev_nat (n := 1)))) ea_nil)) (by show 2 ≤ 10000000; decide)) k
abbrev sp_bound_of (K : PySem.W.Frag) : Sp := PuSp (ι := Tr × Nat × List Nat × List Int) (fun (t, F, uses, values) => [dTree K t F true, .l (uses.map dn), .l (values.map D.i)]) (fun (t, F, uses, values) => Wf t ∧ values.length = 2 * (edgesOf t).length * (uses.length + 1)) (fun (t, F, uses, values) => .i (boundSum t uses.length values))
theorem cal_bound_of (T : Top K mg) : Cal P w K mg base 2 "bound_of" (sp_bound_of K) [] :=
  calOf (F_bound_of T) (gf_bound_of T) sc_bound_of (fun _ _ _ _ _ _ us hl => match us, hl with | [_, _, _], _ => rfl) (fun _ _ _ _ h => h.len fun _ => rfl) fun cdv A outer s H vs Q E hr h => by
  obtain ⟨⟨t, F, uses, values⟩, Hf, ok, ⟨v0, _, rfl, r0, v1, _, rfl, r1, v2, _, rfl, r2, rfl⟩, hp, k⟩ := h
  try dsimp only at hp k
  refine ⟨_, (pss_one (ps_ret (pe_callB (sumK K rfl rfl) rfl (T_sum T) b_sum (pa_cons (pe_lc (own := [("edge", 3)]) (g := gName 3) (tt := tYes) rfl sc_bound_of.nd (pi_listK K rfl (pe_mt0 (met_Tree_edges T) hr (by decide) (pv 0))) (blkOk_by (own := [("edge", 3)]) (N := N_bound_of) (sc := defScope s_bound_of) (by decide +kernel)) (fun _ _ _ _ _ => (pg_name (i := 3) sc_bound_of.nd rfl (Or.inl rfl) (hf := Or.inr rfl))) (fun _ _ _ _ _ => pts_nil) (fun _ _ _ _ _ => (pe_callB (minTK K rfl rfl hr.units) rfl (T_min T) b_min (pa_cons (pe_c (cal_pair_at T) hr (by decide) rfl (pa_cons (pv 2) (pa_cons (pv 3) (pa_cons (pe_callB (lenK K rfl) rfl (T_len T) b_len (pa_cons (pv 1) pa_nil)) (pa_cons (pv 1) pa_nil))))) pa_nil)))) pa_nil)))), ?_⟩
  obtain ⟨hw, h1⟩ := hp
  exact s_ret (W := ⟨Hf, H⟩) (ev_sum (ns := (edgesOf t).map fun e => min (pairAt values uses.length e uses.length).1 (pairAt values uses.length e uses.length).2) (EvD.is (ev_mapL (edgesOf t) dn (fun e => .i (min (pairAt values uses.length e uses.length).1 (pairAt values uses.length e uses.length).2)) (ev_meth (x := (t, F, true)) rfl hw (by decide +kernel) (ev_var r0 rfl) ea_nil) (edges_sz hw) fun i e x W1 g hx rx => ev_minT (ev_call (x := (values, e, uses.length, uses)) ⟨(mem_edges.mp (List.mem_of_getElem? hx)).1, by have := (mem_edges.mp (List.mem_of_getElem? hx)).2; have := vc_le hw; omega, place_lt h1 (List.mem_of_getElem? hx) (Nat.le_refl _)⟩ (ea_cons (ev_var (up g r2) rfl) (ea_cons (ev_var rx rfl) (ea_cons ((ev_lenK (ev_var (up g r1) rfl)).is (by rw [List.length_map])) (ea_cons (ev_var (up g r1) rfl) ea_nil)))))) (by rw [List.map_map]; rfl))) ok k
abbrev sp_fault_at_first (K : PySem.W.Frag) : Sp := PuSp (ι := Tr × Nat × Nat × Nat × (Int × Int)) (fun (t, F, e, first, c) => [dTree K t F true, dn e, dn first, dP c]) (fun (t, F, e, first, c) => Wf t ∧ F ≤ 20 ∧ e ∈ edgesOf t ∧ first < versionCount t) (fun (t, F, e, first, c) => .b (firstBad t F first e c))
theorem cal_fault_at_first (T : Top K mg) : Cal P w K mg base 3 "fault_at_first" (sp_fault_at_first K) [] :=
  calOf (F_fault_at_first T) (gf_fault_at_first T) sc_fault_at_first (fun _ _ _ _ _ _ us hl => match us, hl with | [_, _, _, _], _ => rfl) (fun _ _ _ _ h => h.len fun _ => rfl) fun cdv A outer s H vs Q E hr h => by
  obtain ⟨⟨t, F, e, first, c⟩, Hf, ok, ⟨v0, _, rfl, r0, v1, _, rfl, r1, v2, _, rfl, r2, v3, _, rfl, r3, rfl⟩, hp, k⟩ := h
  try dsimp only at hp k
  refine ⟨_, (pss_cons (ps_set (i := 4) sc_fault_at_first.nd rfl (Or.inl rfl) (pe_c (cal_first_pair T) hr (by decide) rfl (pa_cons (pv 0) (pa_cons (pv 1) (pa_cons (pv 2) pa_nil)))))
      (pss_one (ps_ret (pe_or (pe_cmpR op_gt (pe_ix (ixT K rfl) (pv 3) pe_int (fun _ _ => rfl)) (pe_ix (ixT K rfl) (pv 4) pe_int (fun _ _ => rfl)) (nomark _)) (pe_one (pe_cmpR op_gt (pe_ix (ixT K rfl) (pv 3) pe_int (fun _ _ => rfl)) (pe_ix (ixT K rfl) (pv 4) pe_int (fun _ _ => rfl)) (nomark _))))))), ?_⟩
  refine s_set (W := ⟨Hf, H⟩) (ev_call (x := (t, F, e, first)) hp (ea_cons (ev_var r0 rfl) (ea_cons (ev_var r1 rfl) (ea_cons (ev_var r2 rfl) ea_nil)))) ok fun v4 W1 g r4 => ?_
  dsimp only
  refine s_end g (ev_orV (ev_op rv_gt (ev_op (rv_ixT (j := 0) (d := .i c.1) rfl) (ev_var (up g r3) rfl) ev_int) (ev_op (rv_ixT (j := 0) (d := .i (firstCosts t F first e).1) rfl) (ev_var r4 rfl) ev_int)) fun _ => ev_op rv_gt (ev_op (rv_ixT (j := 1) (d := .i c.2) rfl) (ev_var (up g r3) rfl) ev_int) (ev_op (rv_ixT (j := 1) (d := .i (firstCosts t F first e).2) rfl) (ev_var r4 rfl) ev_int)) k
abbrev sp_fault_at (K : PySem.W.Frag) : Sp := PuSp (ι := Tr × Nat × Nat × Nat × List Nat × List Int × Nat) (fun (t, F, e, first, uses, values, i) => [dTree K t F true, dn e, dn first, .l (uses.map dn), .l (values.map D.i), dn i]) (fun (t, F, e, first, uses, values, i) => Wf t ∧ F ≤ 20 ∧ e ∈ edgesOf t ∧ first < versionCount t ∧ (∀ u ∈ uses, u < versionCount t) ∧ i ≤ uses.length ∧ values.length = 2 * (edgesOf t).length * (uses.length + 1)) (fun (t, F, e, first, uses, values, i) => dn (faultCode t F first uses values e i))
theorem cal_fault_at (T : Top K mg) : Cal P w K mg base 4 "fault_at" (sp_fault_at K) [] :=
  calOf (F_fault_at T) (gf_fault_at T) sc_fault_at (fun _ _ _ _ _ _ us hl => match us, hl with | [_, _, _, _, _, _], _ => rfl) (fun _ _ _ _ h => h.len fun _ => rfl) fun cdv A outer s H vs Q E hr h => by
  obtain ⟨⟨t, F, e, first, uses, values, i⟩, Hf, ok, ⟨v0, _, rfl, r0, v1, _, rfl, r1, v2, _, rfl, r2, v3, _, rfl, r3, v4, _, rfl, r4, v5, _, rfl, r5, rfl⟩, hp, k⟩ := h
  try dsimp only at hp k
  refine ⟨_, (pss_cons (ps_set (i := 6) sc_fault_at.nd rfl (Or.inl rfl) (pe_c (cal_pair_at T) hr (by decide) rfl (pa_cons (pv 4) (pa_cons (pv 1) (pa_cons (pv 5) (pa_cons (pv 3) pa_nil))))))
      (pss_cons (ps_set (i := 7) sc_fault_at.nd rfl (Or.inl rfl) (pe_ix (ixL K rfl) (pe_fldK K rfl (pv 0) rfl) (pv 1) (fun _ _ => rfl)))
      (pss_cons (ps_if (pt_cmpR op_eq (pv 5) pe_int (nomark _))
      (pss_one (ps_if (pt_val (pe_c (cal_fault_at_first T) hr (by decide) rfl (pa_cons (pv 0) (pa_cons (pv 1) (pa_cons (pv 2) (pa_cons (pv 6) pa_nil))))))
      (pss_one (ps_ret pe_int))
      pss_nil))
      (pss_cons (ps_set (i := 8) sc_fault_at.nd rfl (Or.inl rfl) (pe_c (cal_pair_at T) hr (by decide) rfl (pa_cons (pv 4) (pa_cons (pv 1) (pa_cons (pe_op op_sub (pv 5) pe_int) (pa_cons (pv 3) pa_nil))))))
      (pss_cons (ps_set (i := 9) sc_fault_at.nd rfl (Or.inl rfl) (pe_mt (met_Tree_is_lower T) hr (by decide) (pv 0) (pa_cons (pv 1) (pa_cons (pe_ix (ixL K rfl) (pv 3) (pe_op op_sub (pv 5) pe_int) (fun _ _ => rfl)) pa_nil))))
      (pss_cons (ps_if (pt_cmpR op_gt (pe_ix (ixT K rfl) (pv 6) pe_int (fun _ _ => rfl)) (pe_op op_add (pe_ix (ixT K rfl) (pv 8) pe_int (fun _ _ => rfl)) (pe_ifExp (pt_val (pv 9)) pe_int (pv 7))) (nomark _))
      (pss_one (ps_ret pe_int))
      pss_nil)
      (pss_one (ps_if (pt_cmpR op_gt (pe_ix (ixT K rfl) (pv 6) pe_int (fun _ _ => rfl)) (pe_op op_add (pe_ix (ixT K rfl) (pv 8) pe_int (fun _ _ => rfl)) (pe_ifExp (pt_val (pv 9)) (pv 7) pe_int)) (nomark _))
      (pss_one (ps_ret pe_int))
      pss_nil))))))
      (pss_one (ps_ret (pe_ifExp (pt_cmpR op_gt (pe_callB call_abs rfl (T_abs T) b_abs (pa_cons (pe_op op_sub (pe_ix (ixT K rfl) (pv 6) pe_int (fun _ _ => rfl)) (pe_ix (ixT K rfl) (pv 6) pe_int (fun _ _ => rfl))) pa_nil)) (pe_op op_mul (pe_fldK K rfl (pv 0) rfl) (pv 7)) (nomark _)) pe_int pe_int)))))), ?_⟩
  obtain ⟨hw, hF, he, h1, h2, h3, h4⟩ := hp
  have he1 := (mem_edges.mp he).1
  have he2 : e ≤ 100 := by have := (mem_edges.mp he).2; have := vc_le hw; omega
  obtain ⟨x6, e6⟩ : ∃ x, pairAt values uses.length e i = x := ⟨_, rfl⟩
  refine s_set (W := ⟨Hf, H⟩) (ev_call (x := (values, e, i, uses)) ⟨he1, he2, place_lt h4 he h3⟩ (ea_cons (ev_var r4 rfl) (ea_cons (ev_var r1 rfl) (ea_cons (ev_var r5 rfl) (ea_cons (ev_var r3 rfl) ea_nil))))) ok fun v6 W1 g1 r6 => ?_
  dsimp only at r6
  rw [e6] at r6
  dsimp only
  refine s_set (d := dn (lengthOf t e)) (ev_op (rv_ix (len_at hw he)) (fld_lengths T (ev_var (up g1 r0) rfl)) (ev_var (up g1 r1) rfl)) g1.fh fun v7 W2 g2 r7 => ?_
  dsimp only
  have a2 := g1.trans g2
  refine s_if (et_test (ev_op (rv_eqN (b := 0)) (ev_var (up a2 r5) rfl) ev_int)) g2.fh (fun q0 W3 g3 => ?_) (fun q0 W3 g3 => ?_)
  · have q0 := of_decide_eq_true q0
    have a3 := a2.trans g3
    refine s_ifs (et_B (ev_call (x := (t, F, e, first, x6)) ⟨hw, hF, he, h1⟩ (ea_cons (ev_var (up a3 r0) rfl) (ea_cons (ev_var (up a3 r1) rfl) (ea_cons (ev_var (up a3 r2) rfl) (ea_cons (ev_var (up (g2.trans g3) r6) rfl) ea_nil)))))) g3.fh (fun q W4 g4 => ?_) (fun q W4 g4 => ?_)
    · refine s_end (a3.trans g4) (EvD.is (ev_nat (n := 1)) ?_) k
      refine congrArg dn ?_
      unfold faultCode
      rw [e6, if_pos ⟨q0, q⟩]
    · have a4 := a3.trans g4
      dsimp only
      refine s_end a4 (ev_if (et_test (ev_op rv_gt (ev_abs (ev_op rv_sub (ev_op (rv_ixT (j := 0) (d := .i x6.1) rfl) (ev_var (up ((g2.trans g3).trans g4) r6) rfl) ev_int) (ev_op (rv_ixT (j := 1) (d := .i x6.2) rfl) (ev_var (up ((g2.trans g3).trans g4) r6) rfl) ev_int))) (ev_op (rv_mulN (by omega)) (fld_factor T (ev_var (up a4 r0) rfl)) (ev_var (up (g3.trans g4) r7) rfl)))) (fun q9 => EvD.is (ev_nat (n := 4)) ?_) (fun q9 => EvD.is (ev_nat (n := 0)) ?_)) k
      · refine congrArg dn ?_
        have q9 := of_decide_eq_true q9
        unfold faultCode
        rw [e6, if_neg (fun h => by rw [q] at h; exact absurd h.2 (by decide)), if_neg (by omega), if_neg (by omega), if_pos (by rw [← Int.natCast_mul]; exact q9)]
      · refine congrArg dn ?_
        have q9 := of_decide_eq_false q9
        unfold faultCode
        rw [e6, if_neg (fun h => by rw [q] at h; exact absurd h.2 (by decide)), if_neg (by omega), if_neg (by omega), if_neg (by rw [← Int.natCast_mul]; exact q9)]
  have q0 : 0 < i := by have := of_decide_eq_false q0; omega
  have a3 := a2.trans g3
  obtain ⟨x8, e8⟩ : ∃ x, pairAt values uses.length e (i - 1) = x := ⟨_, rfl⟩
  refine s_set (ev_call (x := (values, e, i - 1, uses)) ⟨he1, he2, place_lt h4 he (by omega)⟩ (ea_cons (ev_var (up a3 r4) rfl) (ea_cons (ev_var (up a3 r1) rfl) (ea_cons (ev_op (rv_subN (by omega)) (ev_var (up a3 r5) rfl) (ev_nat (n := 1))) (ea_cons (ev_var (up a3 r3) rfl) ea_nil))))) g3.fh fun v8 W4 g4 r8 => ?_
  dsimp only at r8
  rw [e8] at r8
  dsimp only
  have a4 := a3.trans g4
  have hi1 : i - 1 < uses.length := by omega
  obtain ⟨b, eb⟩ : ∃ b, isBelow t e (uses.getD (i - 1) 0) = b := ⟨_, rfl⟩
  refine s_set (EvD.is (ev_meth (x := (t, F, true, e, uses.getD (i - 1) 0)) rfl ⟨hw, h2 _ (by rw [List.getD_eq_getElem?_getD, List.getElem?_eq_getElem hi1]; exact List.getElem_mem hi1)⟩ (by decide +kernel) (ev_var (up a4 r0) rfl) (ea_cons (ev_var (up a4 r1) rfl) (ea_cons (ev_op (rv_ix (at_nat hi1)) (ev_var (up a4 r3) rfl) (ev_op (rv_subN (by omega)) (ev_var (up a4 r5) rfl) (ev_nat (n := 1)))) ea_nil))) (d' := .b b) (congrArg D.b eb)) g4.fh fun v9 W5 g5 r9 => ?_
  dsimp only
  have a5 := a4.trans g5
  refine s_ifs (et_test (ev_op rv_gt (ev_op (rv_ixT (j := 0) (d := .i x6.1) rfl) (ev_var (up (((g2.trans g3).trans g4).trans g5) r6) rfl) ev_int) (ev_op rv_add (ev_op (rv_ixT (j := 0) (d := .i x8.1) rfl) (ev_var (up g5 r8) rfl) ev_int) (ev_if (d := .i (if b = true then 0 else (lengthOf t e : Int))) (et_B (ev_var r9 rfl)) (fun q => EvD.is ev_int (by rw [if_pos q])) (fun q => EvD.is (ev_var (up ((g3.trans g4).trans g5) r7) rfl) (by rw [if_neg (by rw [q]; decide)])))))) g5.fh (fun q W6 g6 => ?_) (fun q W6 g6 => ?_)
  · refine s_end (a5.trans g6) (EvD.is (ev_nat (n := 2)) ?_) k
    refine congrArg dn ?_
    unfold faultCode
    rw [e6, e8, eb, if_neg (by omega), if_pos ⟨q0, of_decide_eq_true q⟩]
  have q2 := of_decide_eq_false q
  dsimp only
  refine s_ifs (et_test (ev_op rv_gt (ev_op (rv_ixT (j := 1) (d := .i x6.2) rfl) (ev_var (up ((((g2.trans g3).trans g4).trans g5).trans g6) r6) rfl) ev_int) (ev_op rv_add (ev_op (rv_ixT (j := 1) (d := .i x8.2) rfl) (ev_var (up (g5.trans g6) r8) rfl) ev_int) (ev_if (d := .i (if b = true then (lengthOf t e : Int) else 0)) (et_B (ev_var (up g6 r9) rfl)) (fun q => EvD.is (ev_var (up (((g3.trans g4).trans g5).trans g6) r7) rfl) (by rw [if_pos q])) (fun q => EvD.is ev_int (by rw [if_neg (by rw [q]; decide)])))))) g6.fh (fun q W7 g7 => ?_) (fun q W7 g7 => ?_)
  · refine s_end ((a5.trans g6).trans g7) (EvD.is (ev_nat (n := 3)) ?_) k
    refine congrArg dn ?_
    unfold faultCode
    rw [e6, e8, eb, if_neg (by omega), if_neg (fun h => q2 h.2), if_pos ⟨q0, of_decide_eq_true q⟩]
  have q3 := of_decide_eq_false q
  dsimp only
  have a7 := (a5.trans g6).trans g7
  refine s_end a7 (ev_if (et_test (ev_op rv_gt (ev_abs (ev_op rv_sub (ev_op (rv_ixT (j := 0) (d := .i x6.1) rfl) (ev_var (up (((((g2.trans g3).trans g4).trans g5).trans g6).trans g7) r6) rfl) ev_int) (ev_op (rv_ixT (j := 1) (d := .i x6.2) rfl) (ev_var (up (((((g2.trans g3).trans g4).trans g5).trans g6).trans g7) r6) rfl) ev_int))) (ev_op (rv_mulN (by omega)) (fld_factor T (ev_var (up a7 r0) rfl)) (ev_var (up ((((g3.trans g4).trans g5).trans g6).trans g7) r7) rfl)))) (fun q9 => EvD.is (ev_nat (n := 4)) ?_) (fun q9 => EvD.is (ev_nat (n := 0)) ?_)) k
  · refine congrArg dn ?_
    have q9 := of_decide_eq_true q9
    unfold faultCode
    rw [e6, e8, eb, if_neg (by omega), if_neg (fun h => q2 h.2), if_neg (fun h => q3 h.2), if_pos (by rw [← Int.natCast_mul]; exact q9)]
  · refine congrArg dn ?_
    have q9 := of_decide_eq_false q9
    unfold faultCode
    rw [e6, e8, eb, if_neg (by omega), if_neg (fun h => q2 h.2), if_neg (fun h => q3 h.2), if_neg (by rw [← Int.natCast_mul]; exact q9)]
abbrev sp_first_fault (K : PySem.W.Frag) : Sp := PuSp (ι := Tr × Nat × Nat × List Nat × List Int) (fun (t, F, first, uses, values) => [dTree K t F true, dn first, .l (uses.map dn), .l (values.map D.i)]) (fun (t, F, first, uses, values) => Wf t ∧ F ≤ 20 ∧ first < versionCount t ∧ (∀ u ∈ uses, u < versionCount t) ∧ uses.length ≤ 1000 ∧ values.length = 2 * (edgesOf t).length * (uses.length + 1)) (fun (t, F, first, uses, values) => dFault (faultFind t F first uses values))
theorem cal_first_fault (T : Top K mg) : Cal P w K mg base 5 "first_fault" (sp_first_fault K) [] :=
  calOf (F_first_fault T) (gf_first_fault T) sc_first_fault (fun _ _ _ _ _ _ us hl => match us, hl with | [_, _, _, _], _ => rfl) (fun _ _ _ _ h => h.len fun _ => rfl) fun cdv A outer s H vs Q E hr h => by
  obtain ⟨⟨t, F, first, uses, values⟩, Hf, ok, ⟨v0, _, rfl, r0, v1, _, rfl, r1, v2, _, rfl, r2, v3, _, rfl, r3, rfl⟩, hp, k⟩ := h
  try dsimp only at hp k
  refine ⟨_, (pss_cons (ps_for PassesOwn.never rfl (pi_listK K rfl (pe_mt0 (met_Tree_edges T) hr (by decide) (pv 0))) (pg_name (i := 4) sc_first_fault.nd rfl (Or.inl rfl))
      (pss_one (ps_for PassesOwn.never rfl (pi_range1 rfl (T_range T) (pa_cons (pe_op op_add (pe_callB (lenK K rfl) rfl (T_len T) b_len (pa_cons (pv 2) pa_nil)) pe_int) pa_nil)) (pg_name (i := 5) sc_first_fault.nd rfl (Or.inl rfl))
      (pss_cons (ps_set (i := 6) sc_first_fault.nd rfl (Or.inl rfl) (pe_c (cal_fault_at T) hr (by decide) rfl (pa_cons (pv 0) (pa_cons (pv 4) (pa_cons (pv 1) (pa_cons (pv 2) (pa_cons (pv 3) (pa_cons (pv 5) pa_nil))))))))
      (pss_one (ps_if (pt_cmpR op_gt (pv 6) pe_int (nomark _))
      (pss_one (ps_ret (pe_lst (pa_cons (pv 4) (pa_cons (pv 5) (pa_cons (pv 6) pa_nil))))))
      pss_nil))))))
      (pss_one (ps_ret (pe_lst pa_nil)))), ?_⟩
  obtain ⟨hw, hF, h1, h2, h3, h4⟩ := hp
  refine s_forL (W := ⟨Hf, H⟩) (edgesOf t) dn (ev_meth (x := (t, F, true)) rfl hw (by decide +kernel) (ev_var r0 rfl) ea_nil) ok fun W2 g2 => ⟨fun m σ' W' => ∃ x y z, σ' = [some v0, some v1, some v2, some v3, x, y, z] ∧ Grow W2 W' ∧ ((edgesOf t).take m).findSome? (faultEdge t F first uses values) = none, ⟨none, none, none, rfl, g2.rf, by rw [List.take_zero]; rfl⟩, fun m σ' W' ⟨_, _, _, _, q, _⟩ => ⟨q.ff, q.fh⟩, ?_, ?_⟩
  · rintro m e xv σ' W' he ⟨x, y, z, rfl, g3, hm⟩ rx
    have he' := List.mem_of_getElem? he
    have a3 := g2.trans g3
    refine s_forR (W := W') (uses.length + 1) (ea_cons (ev_op rv_addN ((ev_lenK (ev_var (up a3 r2) rfl)).is (by rw [List.length_map])) (ev_nat (n := 1))) ea_nil) (by omega) g3.fh fun W4 g4 => ⟨fun i σ2 W5 => ∃ y z, σ2 = [some v0, some v1, some v2, some v3, some xv, y, z] ∧ Grow W4 W5 ∧ ((List.range (uses.length + 1)).take i).findSome? (faultHere t F first uses values e) = none, ⟨y, z, rfl, g4.rf, by rw [List.take_zero]; rfl⟩, ?_, ?_⟩
    · rintro i σ2 W5 hi ⟨y, z, rfl, g5, hr⟩
      have a5 := a3.trans (g4.trans g5)
      have hri : (List.range (uses.length + 1))[i]? = some i := List.getElem?_range hi
      refine s_set (W := W5) (ev_call (x := (t, F, e, first, uses, values, i)) ⟨hw, hF, he', h1, h2, by omega, h4⟩ (ea_cons (ev_var (up a5 r0) rfl) (ea_cons (ev_var (up (g4.trans g5) rx) rfl) (ea_cons (ev_var (up a5 r1) rfl) (ea_cons (ev_var (up a5 r2) rfl) (ea_cons (ev_var (up a5 r3) rfl) (ea_cons (ev_var (W := W5) (d := dn i) rfl rfl) ea_nil))))))) g5.fh fun v6 W6 g6 r6 => ?_
      dsimp only
      refine s_ifs (et_test (ev_op (rv_gtN (b := 0)) (ev_var r6 rfl) ev_int)) g6.fh (fun q W7 g7 => ?_) (fun q W7 g7 => ?_)
      · have q := of_decide_eq_true q
        refine s_end ((a5.trans g6).trans g7) (EvD.is (ev_lst (ea_cons (ev_var (up (((g4.trans g5).trans g6).trans g7) rx) rfl) (ea_cons (ev_var (d := dn i) rfl rfl) (ea_cons (ev_var (up g7 r6) rfl) ea_nil))) (by show 3 ≤ 10000000; decide)) ?_) k
        have e1 : faultHere t F first uses values e i = some (e, i, faultCode t F first uses values e i) := if_pos q
        have e2 : faultEdge t F first uses values e = some (e, i, faultCode t F first uses values e i) := fs_hit hr hri e1
        have e3 : faultFind t F first uses values = some (e, i, faultCode t F first uses values e i) := fs_hit hm he e2
        rw [e3]
        rfl
      · have q := of_decide_eq_false q
        exact ⟨W7, rfl, _, _, rfl, g5.trans (g6.trans g7), fs_miss hr hri (if_neg q)⟩
    · rintro σ2 W5 ⟨y, z, rfl, g5, hr⟩
      refine ⟨W5, rfl, _, _, _, rfl, g3.trans (g4.trans g5), fs_miss hm he ?_⟩
      rw [List.take_of_length_le (by rw [List.length_range]; exact Nat.le_refl _)] at hr
      exact hr
  · rintro σ' W' ⟨x, y, z, rfl, g3, hm⟩
    rw [List.take_length] at hm
    dsimp only
    refine s_end (g2.trans g3) (EvD.is (ev_lst ea_nil (by show 0 ≤ 10000000; decide)) ?_) k
    have e3 : faultFind t F first uses values = none := hm
    rw [e3]
    rfl
abbrev sp_weighed_cost (K : PySem.W.Frag) : Sp := PuSp (ι := Tr × Nat × Nat × List Nat) (fun (t, F, v, weights) => [dTree K t F true, dn v, .l (weights.map dn)]) (fun (t, F, v, weights) => v < versionCount t ∧ weights.length = versionCount t ∧ (∀ x ∈ weights, x ≤ 1000) ∧ Wf t) (fun (t, F, v, weights) => dn (fixedCost t weights v))
theorem cal_weighed_cost (T : Top K mg) : Cal P w K mg base 2 "weighed_cost" (sp_weighed_cost K) [] :=
  calOf (F_weighed_cost T) (gf_weighed_cost T) sc_weighed_cost (fun _ _ _ _ _ _ us hl => match us, hl with | [_, _, _], _ => rfl) (fun _ _ _ _ h => h.len fun _ => rfl) fun cdv A outer s H vs Q E hr h => by
  obtain ⟨⟨t, F, v, weights⟩, Hf, ok, ⟨v0, _, rfl, r0, v1, _, rfl, r1, v2, _, rfl, r2, rfl⟩, hp, k⟩ := h
  try dsimp only at hp k
  refine ⟨_, (pss_one (ps_ret (pe_callB (sumK K rfl rfl) rfl (T_sum T) b_sum (pa_cons (pe_lc (own := [("own", 3), ("weight", 4)]) (g := (gTup K 2 (gCons (gName 3) (gCons (gName 4) gNil)))) (tt := tYes) rfl sc_weighed_cost.nd (pi_enumK K rfl rfl (T_enumerate T) (pa_cons (pv 2) pa_nil)) (blkOk_by (own := [("own", 3), ("weight", 4)]) (N := N_weighed_cost) (sc := defScope s_weighed_cost) (by decide +kernel)) (fun _ _ _ _ _ => (pg_tupK K rfl rfl (pgs_cons (pg_name (i := 3) sc_weighed_cost.nd rfl (Or.inl rfl) (hf := Or.inr rfl)) (pgs_cons (pg_name (i := 4) sc_weighed_cost.nd rfl (Or.inl rfl) (hf := Or.inr rfl)) pgs_nil)))) (fun _ _ _ _ _ => pts_nil) (fun _ _ _ _ _ => (pe_op op_mul (pv 4) (pe_mt (met_Tree_distance T) hr (by decide) (pv 0) (pa_cons (pv 1) (pa_cons (pv 3) pa_nil)))))) pa_nil)))), ?_⟩
  obtain ⟨h1, h2, h3, hw⟩ := hp
  have hc := vc_le hw
  exact s_ret (W := ⟨Hf, H⟩) (EvD.is (ev_sumN (ns := weights.zipIdx.map fun x => x.1 * distance t v x.2) (EvD.is (ev_mapE weights dn (fun x => dn (x.1 * distance t v x.2)) (ev_var r2 rfl) (by omega) fun i x y W1 g hx rx => ev_op (rv_mulN (by have := h3 x (List.mem_of_getElem? hx); omega)) (ev_var rx rfl) (ev_meth (x := (t, F, v, i)) rfl ⟨h1, by have := (List.getElem?_eq_some_iff.mp hx).1; omega⟩ (by decide +kernel) (ev_var (up g r0) rfl) (ea_cons (ev_var (up g r1) rfl) (ea_cons (ev_var (W := W1) (d := dn i) rfl rfl) ea_nil)))) (mapD _ _ _))) (by rw [weigh_eq h2])) ok k
abbrev sp_median (K : PySem.W.Frag) : Sp := PuSp (ι := Tr × Nat × List Nat) (fun (t, F, weights) => [dTree K t F true, .l (weights.map dn)]) (fun (t, F, weights) => weights.length = versionCount t ∧ (∀ x ∈ weights, x ≤ 1000) ∧ Wf t) (fun (t, F, weights) => .t [dn (medianOf t weights), dn (fixedCost t weights (medianOf t weights))])
theorem cal_median (T : Top K mg) : Cal P w K mg base 3 "median" (sp_median K) [] :=
  calOf (F_median T) (gf_median T) sc_median (fun _ _ _ _ _ _ us hl => match us, hl with | [_, _], _ => rfl) (fun _ _ _ _ h => h.len fun _ => rfl) fun cdv A outer s H vs Q E hr h => by
  obtain ⟨⟨t, F, weights⟩, Hf, ok, ⟨v0, _, rfl, r0, v1, _, rfl, r1, rfl⟩, hp, k⟩ := h
  try dsimp only at hp k
  refine ⟨_, (pss_cons (ps_setLc (i := 2) (own := [("version", 4)]) (g := gName 4) (tt := tYes) rfl sc_median.nd rfl rfl (sw_true rfl rfl rfl (by decide +kernel)) (pi_range1 rfl (T_range T) (pa_cons (pe_fldK K rfl (pv 0) rfl) pa_nil)) (blkOk_by (own := [("version", 4)]) (N := N_median) (sc := defScope s_median) (by decide +kernel)) (fun _ _ _ _ _ => (pg_name (i := 4) sc_median.nd rfl (Or.inl rfl) (hf := Or.inr rfl))) (fun _ _ _ _ _ => pts_nil) (fun _ _ _ _ _ => (pe_c (cal_weighed_cost T) hr (by decide) rfl (pa_cons (pv 0) (pa_cons (pv 4) (pa_cons (pv 1) pa_nil))))))
      (pss_cons (ps_set (i := 3) sc_median.nd rfl (Or.inl rfl) (pe_callB (minK K rfl rfl) rfl (T_min T) b_min (pa_cons (pv 2) pa_nil)))
      (pss_one (ps_ret (pe_tup (pa_cons (pe_bm PySem.F.plainAttrs_list PySem.F.slot_list_index PySem.F.type_list_index (indexK K rfl) (pv 2) (pa_cons (pv 3) pa_nil)) (pa_cons (pv 3) pa_nil))))))), ?_⟩
  obtain ⟨h2, h3, hw⟩ := hp
  have hc := vc_le hw
  have hc0 : 0 < versionCount t := by unfold versionCount; omega
  obtain ⟨j, j1, j2, j3, j4⟩ := first_least hc0 (fixedCost t weights)
  refine s_set (W := ⟨Hf, H⟩) (EvD.is (ev_mapR (versionCount t) (fun v => dn (fixedCost t weights v)) (ea_cons (fld_count T (ev_var r0 rfl)) ea_nil) (by omega) fun v W1 g hv => ev_call (x := (t, F, v, weights)) ⟨hv, h2, h3, hw⟩ (ea_cons (ev_var (up g r0) rfl) (ea_cons (ev_var (W := W1) (d := dn v) rfl rfl) (ea_cons (ev_var (up g r1) rfl) ea_nil)))) (mapD _ _ _)) ok fun vc W1 g1 rc => ?_
  dsimp only
  refine s_set (ev_minN (fun e => by have := congrArg List.length e; rw [List.length_map, List.length_range] at this; simp at this; omega) (ev_var rc rfl)) g1.fh fun vm W2 g2 rm => ?_
  dsimp only
  refine s_end (g1.trans g2) (EvD.is (ev_tup (ea_cons (ev_indexN (j := j) (x := minimumOf ((List.range (versionCount t)).map (fixedCost t weights))) (by rw [at_range j1, j2]) (fun i hi e => by rw [at_range (by omega)] at e; exact j3 i hi (Option.some.inj e)) (ev_var (up g2 rc) rfl) (ev_var rm rfl)) (ea_cons (ev_var rm rfl) ea_nil)) (by show 2 ≤ 10000000; decide)) ?_) k
  have e : medianOf t weights = j := by
    unfold medianOf
    have e1 : ((List.range (versionCount t)).find? fun v => ((List.range (versionCount t)).map (fixedCost t weights)).getD v 0 == minimumOf ((List.range (versionCount t)).map (fixedCost t weights))) = some j := by
      refine find_range j1 ?_ fun m hm => ?_
      · rw [List.getD_eq_getElem?_getD, at_range j1, Option.getD_some, j2]
        exact beq_self_eq_true _
      · rw [List.getD_eq_getElem?_getD, at_range (by omega), Option.getD_some]
        exact beq_eq_false_iff_ne.mpr (j3 m hm)
    show (((List.range (versionCount t)).find? fun v => ((List.range (versionCount t)).map (fixedCost t weights)).getD v 0 == minimumOf ((List.range (versionCount t)).map (fixedCost t weights))).getD 0) = j
    rw [e1]
    rfl
  rw [e, j2]
abbrev sp_weight_beyond (K : PySem.W.Frag) : Sp := PuSp (ι := Tr × Nat × Nat × Nat × List Nat) (fun (t, F, v, u, weights) => [dTree K t F true, dn v, dn u, .l (weights.map dn)]) (fun (t, F, v, u, weights) => Wf t ∧ v < versionCount t ∧ u < versionCount t ∧ weights.length = versionCount t) (fun (t, F, v, u, weights) => dn (wbProg t weights v u))
theorem cal_weight_beyond (T : Top K mg) : Cal P w K mg base 3 "weight_beyond" (sp_weight_beyond K) [] :=
  calOf (F_weight_beyond T) (gf_weight_beyond T) sc_weight_beyond (fun _ _ _ _ _ _ us hl => match us, hl with | [_, _, _, _], _ => rfl) (fun _ _ _ _ h => h.len fun _ => rfl) fun cdv A outer s H vs Q E hr h => by
  obtain ⟨⟨t, F, v, u, weights⟩, Hf, ok, ⟨v0, _, rfl, r0, v1, _, rfl, r1, v2, _, rfl, r2, v3, _, rfl, r3, rfl⟩, hp, k⟩ := h
  try dsimp only at hp k
  refine ⟨_, (pss_one (ps_ret (pe_callB (sumK K rfl rfl) rfl (T_sum T) b_sum (pa_cons (pe_lc (own := [("own", 4)]) (g := gName 4) (tt := tYes) rfl sc_weight_beyond.nd (pi_listK K rfl (pe_mt (met_Tree_beyond T) hr (by decide) (pv 0) (pa_cons (pv 1) (pa_cons (pv 2) pa_nil)))) (blkOk_by (own := [("own", 4)]) (N := N_weight_beyond) (sc := defScope s_weight_beyond) (by decide +kernel)) (fun _ _ _ _ _ => (pg_name (i := 4) sc_weight_beyond.nd rfl (Or.inl rfl) (hf := Or.inr rfl))) (fun _ _ _ _ _ => pts_nil) (fun _ _ _ _ _ => (pe_ix (ixL K rfl) (pv 3) (pv 4) (fun _ _ => rfl)))) pa_nil)))), ?_⟩
  obtain ⟨hw, h1, h2, h3⟩ := hp
  have hc := vc_le hw
  exact s_ret (W := ⟨Hf, H⟩) (ev_sumN (ns := ((List.range (versionCount t)).filter fun x => isBelow t (max v u) x == isBelow t (max v u) u).map fun x => weights.getD x 0) (EvD.is (ev_mapL ((List.range (versionCount t)).filter fun x => isBelow t (max v u) x == isBelow t (max v u) u) dn (fun x => dn (weights.getD x 0)) (ev_meth (x := (t, F, v, u)) rfl ⟨hw, h1, h2⟩ (by decide +kernel) (ev_var r0 rfl) (ea_cons (ev_var r1 rfl) (ea_cons (ev_var r2 rfl) ea_nil))) (by have := List.length_filter_le (fun x => isBelow t (max v u) x == isBelow t (max v u) u) (List.range (versionCount t)); rw [List.length_range] at this; omega) fun i x y W1 g hx rx => ev_op (rv_ix (at_nat (by have := List.mem_range.mp (List.mem_filter.mp (List.mem_of_getElem? hx)).1; omega))) (ev_var (up g r3) rfl) (ev_var rx rfl)) (mapD _ _ _))) ok k
abbrev sp_heavier_side (K : PySem.W.Frag) : Sp := PuSp (ι := Tr × Nat × Nat × List Nat) (fun (t, F, v, weights) => [dTree K t F true, dn v, .l (weights.map dn)]) (fun (t, F, v, weights) => Wf t ∧ v < versionCount t ∧ weights.length = versionCount t) (fun (t, F, v, weights) => dHeavy (heavySide t weights v))
theorem cal_heavier_side (T : Top K mg) : Cal P w K mg base 4 "heavier_side" (sp_heavier_side K) [] :=
  calOf (F_heavier_side T) (gf_heavier_side T) sc_heavier_side (fun _ _ _ _ _ _ us hl => match us, hl with | [_, _, _], _ => rfl) (fun _ _ _ _ h => h.len fun _ => rfl) fun cdv A outer s H vs Q E hr h => by
  obtain ⟨⟨t, F, v, weights⟩, Hf, ok, ⟨v0, _, rfl, r0, v1, _, rfl, r1, v2, _, rfl, r2, rfl⟩, hp, k⟩ := h
  try dsimp only at hp k
  refine ⟨_, (pss_cons (ps_for PassesOwn.never rfl (pi_listK K rfl (pe_mt (met_Tree_neighbours T) hr (by decide) (pv 0) (pa_cons (pv 1) pa_nil))) (pg_name (i := 3) sc_heavier_side.nd rfl (Or.inl rfl))
      (pss_cons (ps_set (i := 4) sc_heavier_side.nd rfl (Or.inl rfl) (pe_c (cal_weight_beyond T) hr (by decide) rfl (pa_cons (pv 0) (pa_cons (pv 1) (pa_cons (pv 3) (pa_cons (pv 2) pa_nil))))))
      (pss_one (ps_if (pt_cmpR op_gt (pe_op op_mul pe_int (pv 4)) (pe_callB (sumK K rfl rfl) rfl (T_sum T) b_sum (pa_cons (pv 2) pa_nil)) (nomark _))
      (pss_one (ps_ret (pe_lst (pa_cons (pv 3) (pa_cons (pv 4) pa_nil)))))
      pss_nil))))
      (pss_one (ps_ret (pe_lst pa_nil)))), ?_⟩
  obtain ⟨hw, h1, h2⟩ := hp
  refine s_forL (W := ⟨Hf, H⟩) ((List.range (versionCount t)).filter (isJoined t v)) dn (ev_meth (x := (t, F, v)) rfl ⟨hw, h1⟩ (by decide +kernel) (ev_var r0 rfl) (ea_cons (ev_var r1 rfl) ea_nil)) ok fun W2 g2 => ⟨fun m σ' W' => ∃ x y, σ' = [some v0, some v1, some v2, x, y] ∧ Grow W2 W' ∧ (((List.range (versionCount t)).filter (isJoined t v)).take m).findSome? (fun u => if weights.sum < 2 * wbProg t weights v u then some (u, wbProg t weights v u) else none) = none, ⟨none, none, rfl, g2.rf, by rw [List.take_zero]; rfl⟩, fun m σ' W' ⟨_, _, _, q, _⟩ => ⟨q.ff, q.fh⟩, ?_, ?_⟩
  · rintro m u xv σ' W' hu ⟨x, y, rfl, g3, hm⟩ rx
    have hu' := List.mem_range.mp (List.mem_filter.mp (List.mem_of_getElem? hu)).1
    have a3 := g2.trans g3
    refine s_set (W := W') (ev_call (x := (t, F, v, u, weights)) ⟨hw, h1, hu', h2⟩ (ea_cons (ev_var (up a3 r0) rfl) (ea_cons (ev_var (up a3 r1) rfl) (ea_cons (ev_var rx rfl) (ea_cons (ev_var (up a3 r2) rfl) ea_nil))))) g3.fh fun v4 W4 g4 r4 => ?_
    dsimp only
    have a4 := a3.trans g4
    refine s_ifs (et_test (ev_op rv_gtN (ev_op (rv_mulN (a := 2) (by omega)) ev_int (ev_var r4 rfl)) (ev_sumN (ev_var (up a4 r2) rfl)))) g4.fh (fun q W5 g5 => ?_) (fun q W5 g5 => ?_)
    · have q := of_decide_eq_true q
      refine s_end (a4.trans g5) (EvD.is (ev_lst (ea_cons (ev_var (up (g4.trans g5) rx) rfl) (ea_cons (ev_var (up g5 r4) rfl) ea_nil)) (by show 2 ≤ 10000000; decide)) ?_) k
      have e : heavySide t weights v = some (u, wbProg t weights v u) := fs_hit hm hu (if_pos q)
      rw [e]
      rfl
    · exact ⟨W5, rfl, _, _, rfl, g3.trans (g4.trans g5), fs_miss hm hu (if_neg (of_decide_eq_false q))⟩
  · rintro σ' W' ⟨x, y, rfl, g3, hm⟩
    rw [List.take_length] at hm
    dsimp only
    refine s_end (g2.trans g3) (EvD.is (ev_lst ea_nil (by show 0 ≤ 10000000; decide)) ?_) k
    have e3 : heavySide t weights v = none := hm
    rw [e3]
    rfl
end
end Hm
end
section
set_option Elab.async false
set_option linter.all false
set_option maxRecDepth 100000
set_option maxHeartbeats 4000000
namespace Hm
open PySem PySem.Spec PyProof.Rows L2
open C8 (Cal Met Mak pe_c pe_mt pe_mt0 pe_mk pe_gc)
open Vbjtah (versionCount edgesOf isBelow distance)
/-! ### assigning -/
open Vbjtah (costIn assignmentCost sumInts)
abbrev dCosts (c : List (List Nat)) : D := .l (c.map fun l => .l (l.map dn))
def Sq (c : List (List Nat)) (n : Nat) : Prop := ∀ l ∈ c, l.length = n
theorem row_at {c : List (List Nat)} {p : Nat} (h : p < c.length) : (c.map fun l => D.l (l.map dn))[p]? = some (.l ((c.getD p []).map dn)) := by
  rw [List.getElem?_map, List.getD_eq_getElem?_getD, List.getElem?_eq_getElem h]
  rfl
theorem Sq.at {c : List (List Nat)} {n p : Nat} (h : Sq c n) (hp : p < c.length) : (c.getD p []).length = n := by
  rw [List.getD_eq_getElem?_getD, List.getElem?_eq_getElem hp]
  exact h _ (List.getElem_mem hp)
def rowsAt (h : List Nat) (v : Nat) : List Nat := (h.zipIdx.filter fun x => decide (x.1 = v)).map (·.2)
theorem rowsAt_lt {h : List Nat} {v p : Nat} (hp : p ∈ rowsAt h v) : p < h.length ∧ h.getD p 0 = v := by
  obtain ⟨⟨x, i⟩, h1, rfl⟩ := List.mem_map.mp hp
  obtain ⟨h2, h3⟩ := List.mem_filter.mp h1
  have h4 := List.mem_zipIdx h2
  simp only [Nat.zero_add, Nat.sub_zero] at h4
  refine ⟨h4.2.1, ?_⟩
  rw [List.getD_eq_getElem?_getD, List.getElem?_eq_getElem h4.2.1]
  have h5 : x = v := of_decide_eq_true h3
  have h6 : x = h[i] := h4.2.2
  show h[i] = v
  rw [← h6, h5]
theorem rowsAt_len (h : List Nat) (v : Nat) : (rowsAt h v).length ≤ h.length := by
  unfold rowsAt
  have := List.length_filter_le (fun x => decide (x.1 = v)) h.zipIdx
  rw [List.length_zipIdx] at this
  rw [List.length_map]
  exact this
def cands (c : List (List Nat)) (h : List Nat) (v o : Nat) : List (Int × Int) := (rowsAt h v).map fun p => (costIn c p o - costIn c p v, (p : Int))
def chg (c : List (List Nat)) (h : List Nat) (v o : Nat) : Option (Int × Int) := match cands c h v o with
  | [] => none
  | x :: xs => some (pmin x xs)
def dChg : Option (Int × Int) → D
  | none => .t []
  | some p => dP p
theorem pairs_lay (l : List (Int × Int)) : PyData.canLayAll0 (toPys (l.map dP)) = true ∧ PyData.depthAll (toPys (l.map dP)) ≤ 2 := by
  induction l with
  | nil => exact ⟨rfl, by decide⟩
  | cons p l ih =>
    obtain ⟨h1, h2⟩ := ih
    have e : toPys ((p :: l).map dP) = PyData.tuple [.int p.1, .int p.2] :: toPys (l.map dP) := rfl
    rw [e]
    refine ⟨?_, ?_⟩
    · simp only [PyData.canLayAll0, PyData.canLay0, h1, Bool.and_self]
    · simp only [PyData.depthAll, PyData.depth]
      omega
theorem pairs_shaped (l : List (Int × Int)) : SeqAt.shaped (toPy (.l (l.map dP))) = true := by
  obtain ⟨h1, h2⟩ := pairs_lay l
  have e : toPy (.l (l.map dP)) = PyData.list (toPys (l.map dP)) := rfl
  rw [e]
  unfold SeqAt.shaped
  rw [Bool.and_eq_true]
  refine ⟨?_, decide_eq_true ?_⟩
  · simp only [PyData.canLay0]
    exact h1
  · simp only [PyData.depth]
    omega
theorem noObj_pairs (l : List (Int × Int)) : noObj (.l (l.map dP)) = true := noObjs_all fun d hd => by
  obtain ⟨p, _, rfl⟩ := List.mem_map.mp hd
  rfl
def firstIx (p : Nat → Bool) (n : Nat) : Int := match (List.range n).find? p with
  | some v => (v : Int)
  | none => -1
theorem firstIx_hit {p : Nat → Bool} {n m : Nat} (hm : m < n) (hp : p m = true) (hf : ∀ i, i < m → p i = false) : firstIx p n = (m : Int) := by
  unfold firstIx
  rw [find_range hm hp hf]
theorem firstIx_none {p : Nat → Bool} {n : Nat} (hf : ∀ i, i < n → p i = false) : firstIx p n = -1 := by
  unfold firstIx
  rw [List.find?_eq_none.mpr fun x hx => by rw [hf x (List.mem_range.mp hx)]; decide]
theorem all_next {p : Nat → Bool} {m : Nat} (h : ∀ i, i < m → p i = false) (hm : p m = false) : ∀ i, i < m + 1 → p i = false := fun i hi => by
  by_cases q : i = m
  · subst q; exact hm
  · exact h i (by omega)
def crowdedAt (L h : List Nat) : Int := firstIx (fun v => decide (L.getD v 0 < (rowsAt h v).length)) L.length
def pricedAt (L h : List Nat) (pr : List Int) : Int := firstIx (fun v => decide (0 < pr.getD v 0) && decide ((rowsAt h v).length < L.getD v 0)) L.length
def cheaperAt (own : List Nat) (home : Nat) (pr : List Int) : Bool := (List.range own.length).any fun v => decide (((own.getD v 0 : Nat) : Int) + pr.getD v 0 < ((own.getD home 0 : Nat) : Int) + pr.getD home 0)
def unhappyAt (c : List (List Nat)) (h : List Nat) (pr : List Int) : Int := firstIx (fun r => cheaperAt (c.getD r []) (h.getD r 0) pr) h.length
def dAF (a b c : Int) : D := if a = -1 then (if b = -1 then (if c = -1 then .l [] else .l [.i 3, .i c]) else .l [.i 2, .i b]) else .l [.i 1, .i a]
theorem sumInts_eq (l : List Int) : sumInts l = l.sum := by
  unfold sumInts
  have : ∀ (l : List Int) (a : Int), l.foldl (fun a b => a + b) a = a + l.sum := by
    intro l
    induction l with
    | nil => intro a; simp
    | cons x l ih => intro a; rw [List.foldl_cons, ih, List.sum_cons]; omega
  rw [this, Int.zero_add]
theorem int_min {l : List Int} (h : l ≠ []) : ∃ x ∈ l, ∀ y ∈ l, x ≤ y := by
  induction l with
  | nil => exact absurd rfl h
  | cons a l ih =>
    by_cases q : l = []
    · subst q
      exact ⟨a, List.mem_cons_self, fun y hy => by rw [List.mem_singleton.mp hy]; exact Int.le_refl _⟩
    · obtain ⟨x, h1, h2⟩ := ih q
      by_cases r : a ≤ x
      · refine ⟨a, List.mem_cons_self, fun y hy => ?_⟩
        rcases List.mem_cons.mp hy with e | e
        · omega
        · have := h2 y e; omega
      · refine ⟨x, List.mem_cons_of_mem _ h1, fun y hy => ?_⟩
        rcases List.mem_cons.mp hy with e | e
        · omega
        · exact h2 y e
def setBy (L : List Nat) (v : Nat) (m : Int) : List Nat := L.set v (((L.getD v 0 : Nat) : Int) + m).toNat
theorem setBy_eq (L : List Nat) (v : Nat) (m : Int) : L.zipIdx.map (fun x => if x.2 = v then ((x.1 : Int) + m).toNat else x.1) = setBy L v m := by
  unfold setBy
  refine List.ext_getElem (by rw [List.length_map, List.length_zipIdx, List.length_set]) fun i h1 h2 => ?_
  rw [List.getElem_map, List.getElem_zipIdx, List.getElem_set, Nat.zero_add]
  have h3 : i < L.length := by rw [List.length_set] at h2; exact h2
  by_cases q : i = v
  · subst q
    have e : L.getD i 0 = L[i] := by rw [List.getD_eq_getElem?_getD, List.getElem?_eq_getElem h3]; rfl
    rw [if_pos rfl, if_pos rfl, e]
  · show (if i = v then _ else _) = _
    rw [if_neg q, if_neg (Ne.symm q)]
def fixedRow (t : Tr) (us : List Nat) : List Nat := (List.range (versionCount t)).map fun v => (us.map (distance t v)).sum
section
variable {P : Program} {w : World} {K : PySem.W.Frag} {mg : Str → Option Value} {base : Heap}
abbrev sp_costs_of (K : PySem.W.Frag) : Sp := PuSp (ι := Tr × Nat × List (List Nat)) (fun (t, F, rows) => [dTree K t F true, .l (rows.map fun l => .l (l.map dn))]) (fun (t, F, rows) => Wf t ∧ rows.length ≤ 1000 ∧ ∀ us ∈ rows, (∀ u ∈ us, u < versionCount t) ∧ us.length ≤ 1000) (fun (t, F, rows) => dCosts (rows.map (fixedRow t)))
theorem cal_costs_of (T : Top K mg) : Cal P w K mg base 3 "costs_of" (sp_costs_of K) [] :=
  calOf (F_costs_of T) (gf_costs_of T) sc_costs_of (fun _ _ _ _ _ _ us hl => match us, hl with | [_, _], _ => rfl) (fun _ _ _ _ h => h.len fun _ => rfl) fun cdv A outer s H vs Q E hr h => by
  obtain ⟨⟨t, F, rows⟩, Hf, ok, ⟨v0, _, rfl, r0, v1, _, rfl, r1, rfl⟩, hp, k⟩ := h
  try dsimp only at hp k
  refine ⟨_, (pss_cons (ps_set (i := 2) sc_costs_of.nd rfl (Or.inl rfl) (pe_lst pa_nil))
      (pss_cons (ps_for PassesOwn.never rfl (pi_listK K rfl (pv 1)) (pg_name (i := 3) sc_costs_of.nd rfl (Or.inr rfl))
      (pss_one (ps_expr (pe_bm PySem.F.plainAttrs_list PySem.F.slot_list_append PySem.F.type_list_append mt_append (pv 2) (pa_cons (pe_lc (own := [("version", 4)]) (g := gName 4) (tt := tYes) rfl sc_costs_of.nd (pi_range1 rfl (T_range T) (pa_cons (pe_fldK K rfl (pv 0) rfl) pa_nil)) (blkOk_by (own := [("version", 4)]) (N := N_costs_of) (sc := defScope s_costs_of) (by decide +kernel)) (fun _ _ _ _ _ => (pg_name (i := 4) sc_costs_of.nd rfl (Or.inl rfl) (hf := Or.inr rfl))) (fun _ _ _ _ _ => pts_nil) (fun _ _ _ _ _ => (pe_mt (met_Tree_fixed_cost T) hr (by decide) (pv 0) (pa_cons (pv 4) (pa_cons (pv 3) pa_nil))))) pa_nil)))))
      (pss_one (ps_ret (pv 2))))), ?_⟩
  obtain ⟨hw, h1, h2⟩ := hp
  have hc := vc_le hw
  refine s_buildL (W := ⟨Hf, H⟩) rows (fun l => .l (l.map dn)) (fun us => .l ((fixedRow t us).map dn)) (by show 2 < 5; decide) (by decide) ok (by omega) (fun p => (ev_var r1 rfl)) (fun p m us v W1 g hx rx => EvD.is (ev_mapR (versionCount t) (fun v => dn ((us.map (distance t v)).sum)) (ea_cons (fld_count T (ev_var (up g r0) rfl)) ea_nil) (by omega) fun v W2 g2 hv => ev_meth (x := (t, F, v, us)) rfl ⟨hv, (h2 us (List.mem_of_getElem? hx)).1, (h2 us (List.mem_of_getElem? hx)).2⟩ (by decide +kernel) (ev_var (up (g.trans g2) r0) rfl) (ea_cons (ev_var (W := W2) (d := dn v) rfl rfl) (ea_cons (ev_var (up g2 rx) rfl) ea_nil))) (by unfold fixedRow; rw [List.map_map]; rfl)) fun v W1 g r => k v W1 g (by unfold dCosts; rw [List.map_map]; exact r)
abbrev sp_rows_at (K : PySem.W.Frag) : Sp := PuSp (ι := List Nat × Nat) (fun (h, v) => [.l (h.map dn), dn v]) (fun (h, v) => h.length ≤ 1000) (fun (h, v) => .l ((rowsAt h v).map dn))
theorem cal_rows_at (T : Top K mg) : Cal P w K mg base 1 "rows_at" (sp_rows_at K) [] :=
  calOf (F_rows_at T) (gf_rows_at T) sc_rows_at (fun _ _ _ _ _ _ us hl => match us, hl with | [_, _], _ => rfl) (fun _ _ _ _ h => h.len fun _ => rfl) fun cdv A outer s H vs Q E hr h => by
  obtain ⟨⟨h, v⟩, Hf, ok, ⟨v0, _, rfl, r0, v1, _, rfl, r1, rfl⟩, hp, k⟩ := h
  try dsimp only at hp k
  refine ⟨_, (pss_one (ps_ret (pe_lc (own := [("place", 2), ("home", 3)]) (g := (gTup K 2 (gCons (gName 2) (gCons (gName 3) gNil)))) rfl sc_rows_at.nd (pi_enumK K rfl rfl (T_enumerate T) (pa_cons (pv 0) pa_nil)) (blkOk_by (own := [("place", 2), ("home", 3)]) (N := N_rows_at) (sc := defScope s_rows_at) (by decide +kernel)) (fun _ _ _ _ _ => (pg_tupK K rfl rfl (pgs_cons (pg_name (i := 2) sc_rows_at.nd rfl (Or.inl rfl) (hf := Or.inr rfl)) (pgs_cons (pg_name (i := 3) sc_rows_at.nd rfl (Or.inl rfl) (hf := Or.inr rfl)) pgs_nil)))) (fun _ _ _ _ _ => (pts_one (pt_cmpR op_eq (pv 3) (pv 1) (nomark _)))) (fun _ _ _ _ _ => (pv 2))))), ?_⟩
  exact s_ret (W := ⟨Hf, H⟩) (EvD.is (ev_lcE h dn (fun x => decide (x.1 = v)) (fun x => dn x.2) (ev_var r0 rfl) (by omega) fun i x y W1 g hx rx => ⟨et_test (ev_op rv_eqN (ev_var rx rfl) (ev_var (up g r1) rfl)), fun _ => (ev_var (W := W1) (d := dn i) rfl rfl)⟩) (by unfold rowsAt; rw [List.map_map]; rfl)) ok k
abbrev sp_cheapest_change (K : PySem.W.Frag) : Sp := PuSp (ι := List (List Nat) × Nat × List Nat × Nat × Nat) (fun (c, n, h, v, o) => [dCosts c, .l (h.map dn), dn v, dn o]) (fun (c, n, h, v, o) => Sq c n ∧ h.length ≤ c.length ∧ h.length ≤ 1000 ∧ v < n ∧ o < n) (fun (c, n, h, v, o) => dChg (chg c h v o))
theorem cal_cheapest_change (T : Top K mg) : Cal P w K mg base 2 "cheapest_change" (sp_cheapest_change K) [] :=
  calOf (F_cheapest_change T) (gf_cheapest_change T) sc_cheapest_change (fun _ _ _ _ _ _ us hl => match us, hl with | [_, _, _, _], _ => rfl) (fun _ _ _ _ h => h.len fun _ => rfl) fun cdv A outer s H vs Q E hr h => by
  obtain ⟨⟨c, n, h, v, o⟩, Hf, ok, ⟨v0, _, rfl, r0, v1, _, rfl, r1, v2, _, rfl, r2, v3, _, rfl, r3, rfl⟩, hp, k⟩ := h
  try dsimp only at hp k
  refine ⟨_, (pss_cons (ps_setLc (i := 4) (own := [("place", 5)]) (g := gName 5) (tt := tYes) rfl sc_cheapest_change.nd rfl rfl (sw_true rfl rfl rfl (by decide +kernel)) (pi_listK K rfl (pe_c (cal_rows_at T) hr (by decide) rfl (pa_cons (pv 1) (pa_cons (pv 2) pa_nil)))) (blkOk_by (own := [("place", 5)]) (N := N_cheapest_change) (sc := defScope s_cheapest_change) (by decide +kernel)) (fun _ _ _ _ _ => (pg_name (i := 5) sc_cheapest_change.nd rfl (Or.inl rfl) (hf := Or.inr rfl))) (fun _ _ _ _ _ => pts_nil) (fun _ _ _ _ _ => (pe_tup (pa_cons (pe_op op_sub (pe_ix (ixL K rfl) (pe_ix (ixL K rfl) (pv 0) (pv 5) (fun _ _ => rfl)) (pv 3) (fun _ _ => rfl)) (pe_ix (ixL K rfl) (pe_ix (ixL K rfl) (pv 0) (pv 5) (fun _ _ => rfl)) (pv 2) (fun _ _ => rfl))) (pa_cons (pv 5) pa_nil)))))
      (pss_one (ps_ret (pe_ifExp (pt_cmpR (op_neD hr.units) (pv 4) (pe_lst pa_nil) (nomark _)) (pe_callB (minPK K rfl rfl hr.units) rfl (T_min T) b_min (pa_cons (pv 4) pa_nil)) (pe_tup pa_nil))))), ?_⟩
  obtain ⟨hs, h1, h2, h3, h4⟩ := hp
  refine s_set (W := ⟨Hf, H⟩) (EvD.is (ev_mapL (rowsAt h v) dn (fun p => dP (costIn c p o - costIn c p v, (p : Int))) (ev_call (x := (h, v)) h2 (ea_cons (ev_var r1 rfl) (ea_cons (ev_var r2 rfl) ea_nil))) (by have := rowsAt_len h v; omega) fun i p x W1 g hx rx => ev_tup (ea_cons (ev_op rv_sub (ev_op (rv_ix (at_nat (by rw [hs.at (by have := rowsAt_lt (List.mem_of_getElem? hx); omega)]; exact h4))) (ev_op (rv_ix (row_at (by have := rowsAt_lt (List.mem_of_getElem? hx); omega))) (ev_var (up g r0) rfl) (ev_var rx rfl)) (ev_var (up g r3) rfl)) (ev_op (rv_ix (at_nat (by rw [hs.at (by have := rowsAt_lt (List.mem_of_getElem? hx); omega)]; exact h3))) (ev_op (rv_ix (row_at (by have := rowsAt_lt (List.mem_of_getElem? hx); omega))) (ev_var (up g r0) rfl) (ev_var rx rfl)) (ev_var (up g r2) rfl))) (ea_cons (ev_var rx rfl) ea_nil)) (by show 2 ≤ 10000000; decide)) (d' := .l ((cands c h v o).map dP)) (by unfold cands; rw [List.map_map]; rfl)) ok fun v4 W1 g r4 => ?_
  dsimp only
  unfold chg at k
  cases hc : cands c h v o with
  | nil =>
    rw [hc] at k r4
    exact s_end g (EvD.is (ev_if (a := false) (et_test (ev_op (rv_neD (noObj_pairs []) rfl (pairs_shaped []) (pairs_shaped [])) (ev_var r4 rfl) (ev_lst ea_nil (by show 0 ≤ 10000000; decide)))) (fun q => by cases q) (fun _ => ev_tup ea_nil (by show 0 ≤ 10000000; decide))) rfl) k
  | cons x xs =>
    rw [hc] at k r4
    exact s_end g (EvD.is (ev_if (a := true) (et_test (ev_op (rv_neD (noObj_pairs (x :: xs)) rfl (pairs_shaped (x :: xs)) (pairs_shaped [])) (ev_var r4 rfl) (ev_lst ea_nil (by show 0 ≤ 10000000; decide)))) (fun _ => ev_minP (ev_var r4 rfl)) (fun q => by cases q)) rfl) k
abbrev sp_changes_of (K : PySem.W.Frag) : Sp := PuSp (ι := List (List Nat) × List Nat × Nat) (fun (c, h, n) => [dCosts c, .l (h.map dn), dn n]) (fun (c, h, n) => Sq c n ∧ h.length ≤ c.length ∧ h.length ≤ 1000 ∧ n ≤ 1000) (fun (c, h, n) => .l ((List.range n).map fun v => .l ((List.range n).map fun o => dChg (chg c h v o))))
theorem cal_changes_of (T : Top K mg) : Cal P w K mg base 3 "changes_of" (sp_changes_of K) [] :=
  calOf (F_changes_of T) (gf_changes_of T) sc_changes_of (fun _ _ _ _ _ _ us hl => match us, hl with | [_, _, _], _ => rfl) (fun _ _ _ _ h => h.len fun _ => rfl) fun cdv A outer s H vs Q E hr h => by
  obtain ⟨⟨c, h, n⟩, Hf, ok, ⟨v0, _, rfl, r0, v1, _, rfl, r1, v2, _, rfl, r2, rfl⟩, hp, k⟩ := h
  try dsimp only at hp k
  refine ⟨_, (pss_cons (ps_set (i := 3) sc_changes_of.nd rfl (Or.inl rfl) (pe_lst pa_nil))
      (pss_cons (ps_for PassesOwn.never rfl (pi_range1 rfl (T_range T) (pa_cons (pv 2) pa_nil)) (pg_name (i := 4) sc_changes_of.nd rfl (Or.inr rfl))
      (pss_one (ps_expr (pe_bm PySem.F.plainAttrs_list PySem.F.slot_list_append PySem.F.type_list_append mt_append (pv 3) (pa_cons (pe_lc (own := [("other", 5)]) (g := gName 5) (tt := tYes) rfl sc_changes_of.nd (pi_range1 rfl (T_range T) (pa_cons (pv 2) pa_nil)) (blkOk_by (own := [("other", 5)]) (N := N_changes_of) (sc := defScope s_changes_of) (by decide +kernel)) (fun _ _ _ _ _ => (pg_name (i := 5) sc_changes_of.nd rfl (Or.inl rfl) (hf := Or.inr rfl))) (fun _ _ _ _ _ => pts_nil) (fun _ _ _ _ _ => (pe_c (cal_cheapest_change T) hr (by decide) rfl (pa_cons (pv 0) (pa_cons (pv 1) (pa_cons (pv 4) (pa_cons (pv 5) pa_nil))))))) pa_nil)))))
      (pss_one (ps_ret (pv 3))))), ?_⟩
  obtain ⟨hs, h1, h2, h3⟩ := hp
  exact s_buildR (W := ⟨Hf, H⟩) n (fun v => .l ((List.range n).map fun o => dChg (chg c h v o))) (by show 3 < 6; decide) (by decide) ok (by omega) (fun p => ea_cons (ev_var r2 rfl) ea_nil) (fun p v W1 g hv => ev_mapR n (fun o => dChg (chg c h v o)) (ea_cons (ev_var (up g r2) rfl) ea_nil) (by omega) fun o W2 g2 ho => ev_call (x := (c, n, h, v, o)) ⟨hs, h1, h2, hv, ho⟩ (ea_cons (ev_var (up (g.trans g2) r0) rfl) (ea_cons (ev_var (up (g.trans g2) r1) rfl) (ea_cons (ev_var (W := W2) (d := dn v) rfl rfl) (ea_cons (ev_var (W := W2) (d := dn o) rfl rfl) ea_nil))))) k
abbrev sp_homes_cost (K : PySem.W.Frag) : Sp := PuSp (ι := List (List Nat) × Nat × List Nat) (fun (c, n, h) => [dCosts c, .l (h.map dn)]) (fun (c, n, h) => Sq c n ∧ h.length ≤ c.length ∧ h.length ≤ 1000 ∧ ∀ v ∈ h, v < n) (fun (c, n, h) => .i (assignmentCost c h))
theorem cal_homes_cost (T : Top K mg) : Cal P w K mg base 1 "homes_cost" (sp_homes_cost K) [] :=
  calOf (F_homes_cost T) (gf_homes_cost T) sc_homes_cost (fun _ _ _ _ _ _ us hl => match us, hl with | [_, _], _ => rfl) (fun _ _ _ _ h => h.len fun _ => rfl) fun cdv A outer s H vs Q E hr h => by
  obtain ⟨⟨c, n, h⟩, Hf, ok, ⟨v0, _, rfl, r0, v1, _, rfl, r1, rfl⟩, hp, k⟩ := h
  try dsimp only at hp k
  refine ⟨_, (pss_one (ps_ret (pe_callB (sumK K rfl rfl) rfl (T_sum T) b_sum (pa_cons (pe_lc (own := [("place", 2), ("home", 3)]) (g := (gTup K 2 (gCons (gName 2) (gCons (gName 3) gNil)))) (tt := tYes) rfl sc_homes_cost.nd (pi_enumK K rfl rfl (T_enumerate T) (pa_cons (pv 1) pa_nil)) (blkOk_by (own := [("place", 2), ("home", 3)]) (N := N_homes_cost) (sc := defScope s_homes_cost) (by decide +kernel)) (fun _ _ _ _ _ => (pg_tupK K rfl rfl (pgs_cons (pg_name (i := 2) sc_homes_cost.nd rfl (Or.inl rfl) (hf := Or.inr rfl)) (pgs_cons (pg_name (i := 3) sc_homes_cost.nd rfl (Or.inl rfl) (hf := Or.inr rfl)) pgs_nil)))) (fun _ _ _ _ _ => pts_nil) (fun _ _ _ _ _ => (pe_ix (ixL K rfl) (pe_ix (ixL K rfl) (pv 0) (pv 2) (fun _ _ => rfl)) (pv 3) (fun _ _ => rfl)))) pa_nil)))), ?_⟩
  obtain ⟨hs, h1, h2, h3⟩ := hp
  exact s_ret (W := ⟨Hf, H⟩) (EvD.is (ev_sum (ns := h.zipIdx.map fun x => costIn c x.2 x.1) (EvD.is (ev_mapE h dn (fun x => .i (costIn c x.2 x.1)) (ev_var r1 rfl) (by omega) fun i x y W1 g hx rx => (ev_op (rv_ix (at_nat (by rw [hs.at (by have := (List.getElem?_eq_some_iff.mp hx).1; omega)]; exact h3 x (List.mem_of_getElem? hx)))) (ev_op (rv_ix (row_at (by have := (List.getElem?_eq_some_iff.mp hx).1; omega))) (ev_var (up g r0) rfl) (ev_var (W := W1) (d := dn i) rfl rfl)) (ev_var rx rfl))) (by rw [List.map_map]; rfl))) (by unfold assignmentCost; rw [sumInts_eq])) ok k
abbrev sp_changed (K : PySem.W.Frag) : Sp := PuSp (ι := List Nat × Nat × Int) (fun (L, v, m) => [.l (L.map dn), dn v, .i m]) (fun (L, v, m) => L.length ≤ 1000 ∧ 0 ≤ ((L.getD v 0 : Nat) : Int) + m) (fun (L, v, m) => .l ((setBy L v m).map dn))
theorem cal_changed (T : Top K mg) : Cal P w K mg base 1 "changed" (sp_changed K) [] :=
  calOf (F_changed T) (gf_changed T) sc_changed (fun _ _ _ _ _ _ us hl => match us, hl with | [_, _, _], _ => rfl) (fun _ _ _ _ h => h.len fun _ => rfl) fun cdv A outer s H vs Q E hr h => by
  obtain ⟨⟨L, v, m⟩, Hf, ok, ⟨v0, _, rfl, r0, v1, _, rfl, r1, v2, _, rfl, r2, rfl⟩, hp, k⟩ := h
  try dsimp only at hp k
  refine ⟨_, (pss_one (ps_ret (pe_lc (own := [("own", 3), ("limit", 4)]) (g := (gTup K 2 (gCons (gName 3) (gCons (gName 4) gNil)))) (tt := tYes) rfl sc_changed.nd (pi_enumK K rfl rfl (T_enumerate T) (pa_cons (pv 0) pa_nil)) (blkOk_by (own := [("own", 3), ("limit", 4)]) (N := N_changed) (sc := defScope s_changed) (by decide +kernel)) (fun _ _ _ _ _ => (pg_tupK K rfl rfl (pgs_cons (pg_name (i := 3) sc_changed.nd rfl (Or.inl rfl) (hf := Or.inr rfl)) (pgs_cons (pg_name (i := 4) sc_changed.nd rfl (Or.inl rfl) (hf := Or.inr rfl)) pgs_nil)))) (fun _ _ _ _ _ => pts_nil) (fun _ _ _ _ _ => (pe_ifExp (pt_cmpR op_eq (pv 3) (pv 1) (nomark _)) (pe_op op_add (pv 4) (pv 2)) (pv 4)))))), ?_⟩
  obtain ⟨h1, h2⟩ := hp
  exact s_ret (W := ⟨Hf, H⟩) (EvD.is (ev_mapE L dn (fun x => dn (if x.2 = v then ((x.1 : Int) + m).toNat else x.1)) (ev_var r0 rfl) (by omega) fun i x y W1 g hx rx => ev_if (et_test (ev_op rv_eqN (ev_var (W := W1) (d := dn i) rfl rfl) (ev_var (up g r1) rfl))) (fun q => EvD.is (ev_op rv_add (ev_var rx rfl) (ev_var (up g r2) rfl)) (by
      have q := of_decide_eq_true q
      subst q
      rw [List.getD_eq_getElem?_getD, hx] at h2
      have h2 : 0 ≤ (x : Int) + m := h2
      show _ = dn (if i = i then ((x : Int) + m).toNat else x)
      rw [if_pos rfl]
      exact congrArg D.i (by omega))) (fun q => EvD.is (ev_var rx rfl) (by
      have q := of_decide_eq_false q
      show _ = dn (if i = v then ((x : Int) + m).toNat else x)
      rw [if_neg q]))) (by rw [← setBy_eq, List.map_map]; rfl)) ok k
abbrev sp_crowded (K : PySem.W.Frag) : Sp := PuSp (ι := List Nat × List Nat) (fun (L, h) => [.l (L.map dn), .l (h.map dn)]) (fun (L, h) => L.length ≤ 1000 ∧ h.length ≤ 1000) (fun (L, h) => .i (crowdedAt L h))
theorem cal_crowded (T : Top K mg) : Cal P w K mg base 2 "crowded" (sp_crowded K) [] :=
  calOf (F_crowded T) (gf_crowded T) sc_crowded (fun _ _ _ _ _ _ us hl => match us, hl with | [_, _], _ => rfl) (fun _ _ _ _ h => h.len fun _ => rfl) fun cdv A outer s H vs Q E hr h => by
  obtain ⟨⟨L, h⟩, Hf, ok, ⟨v0, _, rfl, r0, v1, _, rfl, r1, rfl⟩, hp, k⟩ := h
  try dsimp only at hp k
  refine ⟨_, (pss_cons (ps_for PassesOwn.never rfl (pi_enumK K rfl rfl (T_enumerate T) (pa_cons (pv 0) pa_nil)) (pg_tupK K rfl rfl (pgs_cons (pg_name (i := 2) sc_crowded.nd rfl (Or.inl rfl)) (pgs_cons (pg_name (i := 3) sc_crowded.nd rfl (Or.inl rfl)) pgs_nil)))
      (pss_one (ps_if (pt_cmpR op_gt (pe_callB (lenK K rfl) rfl (T_len T) b_len (pa_cons (pe_c (cal_rows_at T) hr (by decide) rfl (pa_cons (pv 1) (pa_cons (pv 2) pa_nil))) pa_nil)) (pv 3) (nomark _))
      (pss_one (ps_ret (pv 2)))
      pss_nil)))
      (pss_one (ps_ret (pe_gc rfl (g_NONE T))))), ?_⟩
  obtain ⟨h1, h2⟩ := hp
  refine s_forE (W := ⟨Hf, H⟩) L dn (ev_var r0 rfl) ok fun W2 g2 => ⟨fun m σ' W' => ∃ x y, σ' = [some v0, some v1, x, y] ∧ Grow W2 W' ∧ ∀ i, i < m → decide (L.getD i 0 < (rowsAt h i).length) = false, ⟨none, none, rfl, g2.rf, fun i hi => by omega⟩, fun m σ' W' ⟨_, _, _, q, _⟩ => ⟨q.ff, q.fh⟩, ?_, ?_⟩
  · rintro m l xv σ' W' W3 hl ⟨x, y, rfl, g3, hm⟩ g4 rx
    have a3 := g2.trans (g3.trans g4)
    have el : L.getD m 0 = l := by rw [List.getD_eq_getElem?_getD, hl]; rfl
    refine s_ifs (W := W3) (et_test (ev_op rv_gtN ((ev_lenK (ev_call (x := (h, m)) h2 (ea_cons (ev_var (up a3 r1) rfl) (ea_cons (ev_var (W := W3) (d := dn m) rfl rfl) ea_nil)))).is (by rw [List.length_map])) (ev_var rx rfl))) g4.fh (fun q W5 g5 => ?_) (fun q W5 g5 => ?_)
    · exact s_end (a3.trans g5) (EvD.is (ev_var (W := W5) (d := dn m) rfl rfl) (by unfold crowdedAt; rw [firstIx_hit (List.getElem?_eq_some_iff.mp hl).1 (by rw [el]; exact q) hm])) k
    · exact ⟨W5, rfl, _, _, rfl, (g3.trans g4).trans g5, all_next (p := fun i => decide (L.getD i 0 < (rowsAt h i).length)) hm (by show decide (L.getD m 0 < (rowsAt h m).length) = false; rw [el]; exact q)⟩
  · rintro σ' W' ⟨x, y, rfl, g3, hm⟩
    dsimp only
    exact s_end (g2.trans g3) (EvD.is ev_int (by unfold crowdedAt; rw [firstIx_none hm])) k
abbrev sp_priced_with_room (K : PySem.W.Frag) : Sp := PuSp (ι := List Nat × List Nat × List Int) (fun (L, h, pr) => [.l (L.map dn), .l (h.map dn), .l (pr.map D.i)]) (fun (L, h, pr) => L.length ≤ 1000 ∧ h.length ≤ 1000 ∧ pr.length = L.length) (fun (L, h, pr) => .i (pricedAt L h pr))
theorem cal_priced_with_room (T : Top K mg) : Cal P w K mg base 2 "priced_with_room" (sp_priced_with_room K) [] :=
  calOf (F_priced_with_room T) (gf_priced_with_room T) sc_priced_with_room (fun _ _ _ _ _ _ us hl => match us, hl with | [_, _, _], _ => rfl) (fun _ _ _ _ h => h.len fun _ => rfl) fun cdv A outer s H vs Q E hr h => by
  obtain ⟨⟨L, h, pr⟩, Hf, ok, ⟨v0, _, rfl, r0, v1, _, rfl, r1, v2, _, rfl, r2, rfl⟩, hp, k⟩ := h
  try dsimp only at hp k
  refine ⟨_, (pss_cons (ps_for PassesOwn.never rfl (pi_enumK K rfl rfl (T_enumerate T) (pa_cons (pv 0) pa_nil)) (pg_tupK K rfl rfl (pgs_cons (pg_name (i := 3) sc_priced_with_room.nd rfl (Or.inl rfl)) (pgs_cons (pg_name (i := 4) sc_priced_with_room.nd rfl (Or.inl rfl)) pgs_nil)))
      (pss_one (ps_if (PW.pt (pw_and (pt_cmpR op_gt (pe_ix (ixL K rfl) (pv 2) (pv 3) (fun _ _ => rfl)) pe_int (nomark _)) (pw_and1 (pt_cmpR op_lt (pe_callB (lenK K rfl) rfl (T_len T) b_len (pa_cons (pe_c (cal_rows_at T) hr (by decide) rfl (pa_cons (pv 1) (pa_cons (pv 3) pa_nil))) pa_nil)) (pv 4) (nomark _)))))
      (pss_one (ps_ret (pv 3)))
      pss_nil)))
      (pss_one (ps_ret (pe_gc rfl (g_NONE T))))), ?_⟩
  obtain ⟨h1, h2, h3⟩ := hp
  refine s_forE (W := ⟨Hf, H⟩) L dn (ev_var r0 rfl) ok fun W2 g2 => ⟨fun m σ' W' => ∃ x y, σ' = [some v0, some v1, some v2, x, y] ∧ Grow W2 W' ∧ ∀ i, i < m → (decide (0 < pr.getD i 0) && decide ((rowsAt h i).length < L.getD i 0)) = false, ⟨none, none, rfl, g2.rf, fun i hi => by omega⟩, fun m σ' W' ⟨_, _, _, q, _⟩ => ⟨q.ff, q.fh⟩, ?_, ?_⟩
  · rintro m l xv σ' W' W3 hl ⟨x, y, rfl, g3, hm⟩ g4 rx
    have a3 := g2.trans (g3.trans g4)
    have el : L.getD m 0 = l := by rw [List.getD_eq_getElem?_getD, hl]; rfl
    have hml := (List.getElem?_eq_some_iff.mp hl).1
    refine s_ifs (W := W3) (et_and (et_test (ev_op rv_gt (ev_op (rv_ix (at_int (by omega))) (ev_var (up a3 r2) rfl) (ev_var (W := W3) (d := dn m) rfl rfl)) ev_int)) fun _ => et_test (ev_op rv_ltN ((ev_lenK (ev_call (x := (h, m)) h2 (ea_cons (ev_var (up a3 r1) rfl) (ea_cons (ev_var (W := W3) (d := dn m) rfl rfl) ea_nil)))).is (by rw [List.length_map])) (ev_var rx rfl))) g4.fh (fun q W5 g5 => ?_) (fun q W5 g5 => ?_)
    · exact s_end (a3.trans g5) (EvD.is (ev_var (W := W5) (d := dn m) rfl rfl) (by unfold pricedAt; rw [firstIx_hit hml (by rw [el]; exact q) hm])) k
    · exact ⟨W5, rfl, _, _, rfl, (g3.trans g4).trans g5, all_next (p := fun i => decide (0 < pr.getD i 0) && decide ((rowsAt h i).length < L.getD i 0)) hm (by show (decide (0 < pr.getD m 0) && decide ((rowsAt h m).length < L.getD m 0)) = false; rw [el]; exact q)⟩
  · rintro σ' W' ⟨x, y, rfl, g3, hm⟩
    dsimp only
    exact s_end (g2.trans g3) (EvD.is ev_int (by unfold pricedAt; rw [firstIx_none hm])) k
abbrev sp_is_cheaper_elsewhere (K : PySem.W.Frag) : Sp := PuSp (ι := List Nat × Nat × List Int) (fun (own, home, pr) => [.l (own.map dn), dn home, .l (pr.map D.i)]) (fun (own, home, pr) => own.length ≤ 1000 ∧ own.length = pr.length ∧ home < own.length) (fun (own, home, pr) => .b (cheaperAt own home pr))
theorem cal_is_cheaper_elsewhere (T : Top K mg) : Cal P w K mg base 1 "is_cheaper_elsewhere" (sp_is_cheaper_elsewhere K) [] :=
  calOf (F_is_cheaper_elsewhere T) (gf_is_cheaper_elsewhere T) sc_is_cheaper_elsewhere (fun _ _ _ _ _ _ us hl => match us, hl with | [_, _, _], _ => rfl) (fun _ _ _ _ h => h.len fun _ => rfl) fun cdv A outer s H vs Q E hr h => by
  obtain ⟨⟨own, home, pr⟩, Hf, ok, ⟨v0, _, rfl, r0, v1, _, rfl, r1, v2, _, rfl, r2, rfl⟩, hp, k⟩ := h
  try dsimp only at hp k
  refine ⟨_, (pss_one (ps_ret (pe_cmpR op_lt (pe_callB (minK K rfl rfl) rfl (T_min T) b_min (pa_cons (pe_lc (own := [("cost", 3), ("price", 4)]) (g := (gTup K 2 (gCons (gName 3) (gCons (gName 4) gNil)))) (tt := tYes) rfl sc_is_cheaper_elsewhere.nd (pi_zipK K rfl rfl (T_zip T) (pa_cons (pv 0) (pa_cons (pv 2) pa_nil))) (blkOk_by (own := [("cost", 3), ("price", 4)]) (N := N_is_cheaper_elsewhere) (sc := defScope s_is_cheaper_elsewhere) (by decide +kernel)) (fun _ _ _ _ _ => (pg_tupK K rfl rfl (pgs_cons (pg_name (i := 3) sc_is_cheaper_elsewhere.nd rfl (Or.inl rfl) (hf := Or.inr rfl)) (pgs_cons (pg_name (i := 4) sc_is_cheaper_elsewhere.nd rfl (Or.inl rfl) (hf := Or.inr rfl)) pgs_nil)))) (fun _ _ _ _ _ => pts_nil) (fun _ _ _ _ _ => (pe_op op_add (pv 3) (pv 4)))) pa_nil)) (pe_op op_add (pe_ix (ixL K rfl) (pv 0) (pv 1) (fun _ _ => rfl)) (pe_ix (ixL K rfl) (pv 2) (pv 1) (fun _ _ => rfl))) (nomark _)))), ?_⟩
  obtain ⟨h1, h2, h3⟩ := hp
  obtain ⟨x, hx1, hx2⟩ := int_min (l := (own.zip pr).map fun x => (x.1 : Int) + x.2) (by intro e; have := congrArg List.length e; rw [List.length_map, List.length_zip] at this; simp only [List.length_nil] at this; omega)
  refine s_ret (W := ⟨Hf, H⟩) (EvD.is (ev_op rv_lt (ev_min hx1 hx2 (EvD.is (ev_lcZ own dn pr D.i (fun x => .i ((x.1 : Int) + x.2)) h2 (ev_var r0 rfl) (ev_var r2 rfl) (by omega) fun i a b va vb W1 g ha hb ra rb => ⟨et_yes, ev_op rv_add (ev_var ra rfl) (ev_var rb rfl)⟩) (by rw [List.map_map]; rfl))) (ev_op rv_add (ev_op (rv_ix (at_nat h3)) (ev_var r0 rfl) (ev_var r1 rfl)) (ev_op (rv_ix (at_int (by omega))) (ev_var r2 rfl) (ev_var r1 rfl)))) ?_) ok k
  refine congrArg D.b ?_
  unfold cheaperAt
  rw [Bool.eq_iff_iff, decide_eq_true_iff, List.any_eq_true]
  obtain ⟨⟨a, b⟩, hz, hab⟩ := List.mem_map.mp hx1
  constructor
  · intro hlt
    obtain ⟨i, hi, e⟩ := List.mem_iff_getElem.mp hz
    rw [List.length_zip] at hi
    rw [List.getElem_zip] at e
    refine ⟨i, List.mem_range.mpr (by omega), decide_eq_true ?_⟩
    rw [List.getD_eq_getElem?_getD, List.getElem?_eq_getElem (by omega), List.getD_eq_getElem?_getD (l := pr), List.getElem?_eq_getElem (by omega)]
    injection e with e1 e2
    show ((own[i] : Nat) : Int) + pr[i] < _
    rw [e1, e2]
    have hab : (a : Int) + b = x := hab
    rw [hab]
    exact hlt
  · rintro ⟨i, hi, hlt⟩
    have hlt := of_decide_eq_true hlt
    have hi := List.mem_range.mp hi
    have := hx2 (((own.getD i 0 : Nat) : Int) + pr.getD i 0) (by
      refine List.mem_map.mpr ⟨(own.getD i 0, pr.getD i 0), List.mem_iff_getElem.mpr ⟨i, by rw [List.length_zip]; omega, ?_⟩, rfl⟩
      rw [List.getElem_zip, List.getD_eq_getElem?_getD, List.getElem?_eq_getElem (by omega), List.getD_eq_getElem?_getD (l := pr), List.getElem?_eq_getElem (by omega)]
      rfl)
    omega
abbrev sp_first_unhappy (K : PySem.W.Frag) : Sp := PuSp (ι := List (List Nat) × Nat × List Nat × List Int) (fun (c, n, h, pr) => [dCosts c, .l (h.map dn), .l (pr.map D.i)]) (fun (c, n, h, pr) => Sq c n ∧ n ≤ 1000 ∧ h.length ≤ c.length ∧ h.length ≤ 1000 ∧ pr.length = n ∧ ∀ v ∈ h, v < n) (fun (c, n, h, pr) => .i (unhappyAt c h pr))
theorem cal_first_unhappy (T : Top K mg) : Cal P w K mg base 2 "first_unhappy" (sp_first_unhappy K) [] :=
  calOf (F_first_unhappy T) (gf_first_unhappy T) sc_first_unhappy (fun _ _ _ _ _ _ us hl => match us, hl with | [_, _, _], _ => rfl) (fun _ _ _ _ h => h.len fun _ => rfl) fun cdv A outer s H vs Q E hr h => by
  obtain ⟨⟨c, n, h, pr⟩, Hf, ok, ⟨v0, _, rfl, r0, v1, _, rfl, r1, v2, _, rfl, r2, rfl⟩, hp, k⟩ := h
  try dsimp only at hp k
  refine ⟨_, (pss_cons (ps_for PassesOwn.never rfl (pi_enumK K rfl rfl (T_enumerate T) (pa_cons (pv 1) pa_nil)) (pg_tupK K rfl rfl (pgs_cons (pg_name (i := 3) sc_first_unhappy.nd rfl (Or.inl rfl)) (pgs_cons (pg_name (i := 4) sc_first_unhappy.nd rfl (Or.inl rfl)) pgs_nil)))
      (pss_one (ps_if (pt_val (pe_c (cal_is_cheaper_elsewhere T) hr (by decide) rfl (pa_cons (pe_ix (ixL K rfl) (pv 0) (pv 3) (fun _ _ => rfl)) (pa_cons (pv 4) (pa_cons (pv 2) pa_nil)))))
      (pss_one (ps_ret (pv 3)))
      pss_nil)))
      (pss_one (ps_ret (pe_gc rfl (g_NONE T))))), ?_⟩
  obtain ⟨hs, h0, h1, h2, h3, h4⟩ := hp
  refine s_forE (W := ⟨Hf, H⟩) h dn (ev_var r1 rfl) ok fun W2 g2 => ⟨fun m σ' W' => ∃ x y, σ' = [some v0, some v1, some v2, x, y] ∧ Grow W2 W' ∧ ∀ i, i < m → cheaperAt (c.getD i []) (h.getD i 0) pr = false, ⟨none, none, rfl, g2.rf, fun i hi => by omega⟩, fun m σ' W' ⟨_, _, _, q, _⟩ => ⟨q.ff, q.fh⟩, ?_, ?_⟩
  · rintro m l xv σ' W' W3 hl ⟨x, y, rfl, g3, hm⟩ g4 rx
    have a3 := g2.trans (g3.trans g4)
    have el : h.getD m 0 = l := by rw [List.getD_eq_getElem?_getD, hl]; rfl
    have hml := (List.getElem?_eq_some_iff.mp hl).1
    have hlen := hs.at (p := m) (by omega)
    refine s_ifs (W := W3) (et_B (ev_call (x := (c.getD m [], l, pr)) ⟨by omega, by omega, by rw [hlen]; exact h4 l (List.mem_of_getElem? hl)⟩ (ea_cons (ev_op (rv_ix (row_at (by omega))) (ev_var (up a3 r0) rfl) (ev_var (W := W3) (d := dn m) rfl rfl)) (ea_cons (ev_var rx rfl) (ea_cons (ev_var (up a3 r2) rfl) ea_nil))))) g4.fh (fun q W5 g5 => ?_) (fun q W5 g5 => ?_)
    · exact s_end (a3.trans g5) (EvD.is (ev_var (W := W5) (d := dn m) rfl rfl) (by unfold unhappyAt; rw [firstIx_hit hml (by rw [el]; exact q) hm])) k
    · exact ⟨W5, rfl, _, _, rfl, (g3.trans g4).trans g5, all_next (p := fun i => cheaperAt (c.getD i []) (h.getD i 0) pr) hm (by show cheaperAt (c.getD m []) (h.getD m 0) pr = false; rw [el]; exact q)⟩
  · rintro σ' W' ⟨x, y, rfl, g3, hm⟩
    dsimp only
    exact s_end (g2.trans g3) (EvD.is ev_int (by unfold unhappyAt; rw [firstIx_none hm])) k
abbrev sp_assignment_fault (K : PySem.W.Frag) : Sp := PuSp (ι := List (List Nat) × Nat × List Nat × List Nat × List Int) (fun (c, n, L, h, pr) => [dCosts c, .l (L.map dn), .l (h.map dn), .l (pr.map D.i)]) (fun (c, n, L, h, pr) => Sq c n ∧ n ≤ 1000 ∧ h.length ≤ c.length ∧ h.length ≤ 1000 ∧ pr.length = n ∧ L.length = n ∧ ∀ v ∈ h, v < n) (fun (c, n, L, h, pr) => dAF (crowdedAt L h) (pricedAt L h pr) (unhappyAt c h pr))
theorem cal_assignment_fault (T : Top K mg) : Cal P w K mg base 3 "assignment_fault" (sp_assignment_fault K) [] :=
  calOf (F_assignment_fault T) (gf_assignment_fault T) sc_assignment_fault (fun _ _ _ _ _ _ us hl => match us, hl with | [_, _, _, _], _ => rfl) (fun _ _ _ _ h => h.len fun _ => rfl) fun cdv A outer s H vs Q E hr h => by
  obtain ⟨⟨c, n, L, h, pr⟩, Hf, ok, ⟨v0, _, rfl, r0, v1, _, rfl, r1, v2, _, rfl, r2, v3, _, rfl, r3, rfl⟩, hp, k⟩ := h
  try dsimp only at hp k
  refine ⟨_, (pss_cons (ps_set (i := 4) sc_assignment_fault.nd rfl (Or.inl rfl) (pe_lst (pa_cons (pe_c (cal_crowded T) hr (by decide) rfl (pa_cons (pv 1) (pa_cons (pv 2) pa_nil))) (pa_cons (pe_c (cal_priced_with_room T) hr (by decide) rfl (pa_cons (pv 1) (pa_cons (pv 2) (pa_cons (pv 3) pa_nil)))) (pa_cons (pe_c (cal_first_unhappy T) hr (by decide) rfl (pa_cons (pv 0) (pa_cons (pv 2) (pa_cons (pv 3) pa_nil)))) pa_nil)))))
      (pss_cons (ps_for PassesOwn.never rfl (pi_enumK K rfl rfl (T_enumerate T) (pa_cons (pv 4) pa_nil)) (pg_tupK K rfl rfl (pgs_cons (pg_name (i := 5) sc_assignment_fault.nd rfl (Or.inl rfl)) (pgs_cons (pg_name (i := 6) sc_assignment_fault.nd rfl (Or.inl rfl)) pgs_nil)))
      (pss_one (ps_if (pt_cmpR op_ne (pv 6) (pe_gc rfl (g_NONE T)) (nomark _))
      (pss_one (ps_ret (pe_lst (pa_cons (pe_op op_add (pv 5) pe_int) (pa_cons (pv 6) pa_nil)))))
      pss_nil)))
      (pss_one (ps_ret (pe_lst pa_nil))))), ?_⟩
  obtain ⟨hs, h0, h1, h2, h3, h4, h5⟩ := hp
  refine s_set (W := ⟨Hf, H⟩) (d := .l ([crowdedAt L h, pricedAt L h pr, unhappyAt c h pr].map D.i)) (ev_lst (ea_cons (ev_call (x := (L, h)) ⟨by omega, h2⟩ (ea_cons (ev_var r1 rfl) (ea_cons (ev_var r2 rfl) ea_nil))) (ea_cons (ev_call (x := (L, h, pr)) ⟨by omega, h2, by omega⟩ (ea_cons (ev_var r1 rfl) (ea_cons (ev_var r2 rfl) (ea_cons (ev_var r3 rfl) ea_nil)))) (ea_cons (ev_call (x := (c, n, h, pr)) ⟨hs, h0, h1, h2, h3, h5⟩ (ea_cons (ev_var r0 rfl) (ea_cons (ev_var r2 rfl) (ea_cons (ev_var r3 rfl) ea_nil)))) ea_nil))) (by show 3 ≤ 10000000; decide)) ok fun v4 W1 g1 r4 => ?_
  dsimp only
  obtain ⟨x1, e1⟩ : ∃ x, crowdedAt L h = x := ⟨_, rfl⟩
  obtain ⟨x2, e2⟩ : ∃ x, pricedAt L h pr = x := ⟨_, rfl⟩
  obtain ⟨x3, e3⟩ : ∃ x, unhappyAt c h pr = x := ⟨_, rfl⟩
  rw [e1, e2, e3] at r4 k
  refine s_forE [x1, x2, x3] D.i (ev_var r4 rfl) g1.fh fun W2 g2 => ⟨fun m σ' W' => ∃ x y, σ' = [some v0, some v1, some v2, some v3, some v4, x, y] ∧ Grow W2 W' ∧ ∀ i y, i < m → [x1, x2, x3][i]? = some y → y = -1, ⟨none, none, rfl, g2.rf, fun i y hi => by omega⟩, fun m σ' W' ⟨_, _, _, q, _⟩ => ⟨q.ff, q.fh⟩, ?_, ?_⟩
  · rintro m l xv σ' W' W3 hl ⟨x, y, rfl, g3, hm⟩ g4 rx
    have a3 := (g1.trans g2).trans (g3.trans g4)
    refine s_ifs (W := W3) (et_test (ev_op rv_ne (ev_var rx rfl) ev_int)) g4.fh (fun q W5 g5 => ?_) (fun q W5 g5 => ?_)
    · have q : l ≠ -1 := by simpa using q
      refine s_end (a3.trans g5) (EvD.is (ev_lst (ea_cons (ev_op rv_addN (ev_var (W := W5) (d := dn m) rfl rfl) (ev_nat (n := 1))) (ea_cons (ev_var (up g5 rx) rfl) ea_nil)) (by show 2 ≤ 10000000; decide)) ?_) k
      unfold dAF
      match m, hl with
      | 0, hl =>
        have : x1 = l := by simpa using hl
        subst this
        rw [if_neg q]
        rfl
      | 1, hl =>
        have : x2 = l := by simpa using hl
        subst this
        rw [if_pos (hm 0 x1 (by decide) rfl), if_neg q]
        rfl
      | 2, hl =>
        have : x3 = l := by simpa using hl
        subst this
        rw [if_pos (hm 0 x1 (by decide) rfl), if_pos (hm 1 x2 (by decide) rfl), if_neg q]
        rfl
      | m + 3, hl => simp at hl
    · have q : l = -1 := by simpa using q
      refine ⟨W5, rfl, _, _, rfl, (g3.trans g4).trans g5, fun i y hi hy => ?_⟩
      by_cases e : i = m
      · subst e
        rw [hl] at hy
        cases hy
        exact q
      · exact hm i y (by omega) hy
  · rintro σ' W' ⟨x, y, rfl, g3, hm⟩
    dsimp only
    refine s_end ((g1.trans g2).trans g3) (EvD.is (ev_lst ea_nil (by show 0 ≤ 10000000; decide)) ?_) k
    unfold dAF
    rw [if_pos (hm 0 x1 (by show 0 < 3; decide) rfl), if_pos (hm 1 x2 (by show 1 < 3; decide) rfl), if_pos (hm 2 x3 (by show 2 < 3; decide) rfl)]
end
end Hm
end
section
set_option Elab.async false
set_option linter.all false
set_option maxRecDepth 100000
set_option maxHeartbeats 4000000
namespace Hm
open PySem PySem.Spec PyProof.Rows L2
/-! ### worlds in which some addresses change -/
structure GrowM (M : List Addr) (W W' : Wd) : Prop where
  ff : Ex W.f W'.f
  fh : Ex W'.f W'.h
  hm : ∀ x o, x ∉ M → W.h x = some o → W'.h x = some o
  fr : ∀ x, W.f x = none → W.h x ≠ none → W'.f x = none
  al : ∀ x, W.h x ≠ none → W'.h x ≠ none
theorem Grow.m {W W' : Wd} (M : List Addr) (g : Grow W W') : GrowM M W W' := ⟨g.ff, g.fh, fun x o _ h => g.hh x o h, g.fr, fun x h => by
  cases q : W.h x with
  | none => exact absurd q h
  | some o => rw [g.hh x o q]; exact fun e => nomatch e⟩
theorem GrowM.trans {M : List Addr} {W W1 W2 : Wd} (a : GrowM M W W1) (b : GrowM M W1 W2) : GrowM M W W2 :=
  ⟨a.ff.trans b.ff, b.fh, fun x o h1 h2 => b.hm x o h1 (a.hm x o h1 h2), fun x h1 h2 => b.fr x (a.fr x h1 h2) (a.al x h2), fun x h => b.al x (a.al x h)⟩
theorem GrowM.refl {M : List Addr} {W : Wd} (ok : Ex W.f W.h) : GrowM M W W := (Grow.refl ok).m M
theorem GrowM.set {M : List Addr} {E W : Wd} (g : GrowM M E W) {p : Addr} {o : HO} (h : p ∈ M) (hf : W.f p = none) : GrowM M E ⟨W.f, upd W.h p o⟩ :=
  ⟨g.ff, g.fh.mut hf, fun x u h1 h2 => by
    show L2.upd W.h p o x = some u
    rw [upd_ne (fun (q : x = p) => h1 (by rw [q]; exact h))]
    exact g.hm x u h1 h2, g.fr, fun x hx => by
    show L2.upd W.h p o x ≠ none
    by_cases q : x = p
    · subst q; rw [upd_same]; exact fun e => nomatch e
    · rw [upd_ne q]; exact g.al x hx⟩
/-- what changed is one's own: nothing changed -/
theorem GrowM.own {M : List Addr} {E W W' : Wd} (a : Grow E W) (b : GrowM M W W') (h : ∀ x ∈ M, E.h x = none) : Grow E W' :=
  ⟨a.ff.trans b.ff, b.fh, fun x o hx => b.hm x o (fun q => by rw [h x q] at hx; cases hx) (a.hh x o hx), fun x h1 h2 => b.fr x (a.fr x h1 h2) fun e => by
    cases q : E.h x with
    | none => exact h2 q
    | some o => rw [a.hh x o q] at e; cases e⟩
theorem GrowM.sub {M N : List Addr} {W W' : Wd} (a : GrowM M W W') (h : ∀ x ∈ M, x ∈ N) : GrowM N W W' := ⟨a.ff, a.fh, fun x o h1 h2 => a.hm x o (fun q => h1 (h x q)) h2, a.fr, a.al⟩
section
variable {K : PySem.W.Frag} {σ : L2.St} {W W' : Wd} {ta tb te tl ti : TE} {t u : TT} {tu : TS} {d : D} {v x : V} {D0 : Ends} {a : Bool}
theorem ev_fldZ {a C dx : Addr} {ns : List Str} {vs : List V} {f : Str} (j : Nat) (cl : Cls K C) (na : NoAttr K C f) (ha : EvD ta σ W (.v (.ref a))) (hp : W.h a = some (.ins C dx (ns.zip vs))) (hf : fldIx f ns j = true) (hv : vs[j]? = some v) : EvD (tFld K ta f) σ W (.v v) :=
  ev_ownFld cl na ha hp (zip_lookup (fldIx_ok hf).1 (fldIx_ok hf).2 hv)
theorem rv_isN : RvD (fun x y H Q => y = V.non ∧ Q (V.bl (decide (x = V.non))) H) W (.v x) .n (.b (decide (x = V.non))) := fun W1 y z g ry rz Q q => by
  cases ry
  cases rz
  exact ⟨rfl, q _ W1 g.rf rfl⟩
theorem rv_notN : RvD (fun x y H Q => y = V.non ∧ Q (V.bl (!decide (x = V.non))) H) W (.v x) .n (.b (!decide (x = V.non))) := fun W1 y z g ry rz Q q => by
  cases ry
  cases rz
  exact ⟨rfl, q _ W1 g.rf rfl⟩
theorem ixN_nat {n j : Nat} (h : j < n) : ixN n (j : Int) = some j := by
  unfold ixN
  rw [if_pos (by omega), if_pos (by omega)]
  simp
/-- xs[j] = e -/
theorem s_setIx {p : Addr} {vs : List V} {j : Nat} (h : EvD te σ W d) (hl : EvD tl σ W (.v (.ref p))) (hi : EvD ti σ W (dn j)) (hp : W.h p = some (.lst vs)) (hj : j < vs.length) (ok : Ex W.f W.h) (k : ∀ v W1, Grow W W1 → Rep W1.f d v → D0.nx σ (upd W1.h p (.lst (vs.set j v)))) : tAsg te (gSub tl ti rSetL) D0 σ W.h :=
  h W (.refl ok) _ fun v W1 g r => hl W1 g _ fun y W2 g2 ry => hi W2 (g.trans g2) _ fun z W3 g3 rz =>
    ⟨p, vs, (j : Int), j, ry, rz, ((g.trans g2).trans g3).hh p _ hp, ixN_nat hj, k v W3 ((g.trans g2).trans g3) (Rep.mono (g2.trans g3).ff d v r)⟩
/-- a method of an object that may change -/
theorem m_call {i : Nat} {a C dx : Addr} {fs : List (Str × V)} {m : Str} {sp : Sp} {E : XK} {tr : TA} {es : List D} {Q : VK} (hv : σ[i]? = some (some (.ref a))) (hp : W.h a = some (.ins C dx fs)) (hl : fs.lookup m = none) (ok : Ex W.f W.h) (ha : EvA tr σ W es) (k : ∀ us W1, Grow W W1 → Reps W1.f es us → sp (.ref a :: us) W1.h Q E) : tMeth C m sp [] E (tVar i) tr σ W.h Q :=
  ⟨.ref a, hv, a, dx, fs, rfl, hp, hl, ha W (.refl ok) _ fun us W1 g r => by rw [List.append_nil]; exact k us W1 g r⟩
theorem s_ifs_and {a : Bool} (h : EvT t σ W a) (ok : Ex W.f W.h) (h1 : a = false → ∀ W1, Grow W W1 → D0.nx σ W1.h) (h2 : a = true → ∀ W1, Grow W W1 → u σ W1.h fun b H => if b = true then tu D0 σ H else D0.nx σ H) : tIfS (tAnd t u) tu tNext D0 σ W.h := h W (.refl ok) _ fun W1 g => by
  cases a with
  | true => exact iteT (h2 rfl W1 g)
  | false => exact iteF (iteF (h1 rfl W1 g))
end
end Hm
end
section
set_option Elab.async false
set_option linter.all false
set_option maxRecDepth 100000
set_option maxHeartbeats 4000000
namespace Hm
open PySem PySem.Spec PyProof.Rows L2
open C8 (Cal Met Mak pe_c pe_mt pe_mt0 pe_mk pe_gc)
open Vbjtah (versionCount edgesOf isBelow distance)
/-! ### chains -/
open Vbjtah (costIn)
structure CS where
  s : List (Option Int)
  a : List Int
  r : List Nat
def better (g : Nat → Nat → Option (Int × Int)) (L : List Nat) (S : CS) (v o : Nat) : CS × Bool :=
  match S.s.getD v none with
  | none => (S, false)
  | some x => if L.getD o 0 = 0 then (S, false) else match g v o with
    | none => (S, false)
    | some p => if (match S.s.getD o none with
      | some y => decide (y ≤ x + p.1)
      | none => false) = true then (S, false) else (⟨S.s.set o (some (x + p.1)), S.a.set o (v : Int), S.r.set o p.2.toNat⟩, true)
def betterB (g : Nat → Nat → Option (Int × Int)) (L : List Nat) (v : Nat) (A : CS × Bool) (o : Nat) : CS × Bool := if v = o then A else ((better g L A.1 v o).1, A.2 || (better g L A.1 v o).2)
def goRow (g : Nat → Nat → Option (Int × Int)) (L : List Nat) (n : Nat) (A : CS × Bool) (v : Nat) : CS × Bool := (List.range n).foldl (betterB g L v) A
def goOn (g : Nat → Nat → Option (Int × Int)) (L : List Nat) (n : Nat) (S : CS) : CS × Bool := (List.range n).foldl (goRow g L n) (S, false)
def settle (g : Nat → Nat → Option (Int × Int)) (L : List Nat) (n : Nat) : Nat → CS → CS
  | 0, S => S
  | k + 1, S => if (goOn g L n S).2 = true then settle g L n k (goOn g L n S).1 else (goOn g L n S).1
def oV : Option Int → V
  | none => .non
  | some x => .int x
theorem oV_non (o : Option Int) : decide (oV o = V.non) = o.isNone := by
  cases o with
  | none => rfl
  | some x => exact decide_eq_false fun e => nomatch e
theorem chg_nat {c : List (List Nat)} {h : List Nat} {v o : Nat} {p : Int × Int} (e : chg c h v o = some p) : p ∈ cands c h v o := by
  unfold chg at e
  cases q : cands c h v o with
  | nil => rw [q] at e; cases e
  | cons x xs =>
    rw [q] at e
    have e : pmin x xs = p := Option.some.inj e
    rw [← e]
    have gen : ∀ (xs : List (Int × Int)) (x : Int × Int), pmin x xs ∈ x :: xs := by
      intro xs
      induction xs with
      | nil => intro x; exact List.mem_cons_self
      | cons y ys ih =>
        intro x
        show pmin (if plt y x = true then y else x) ys ∈ x :: y :: ys
        have := ih (if plt y x = true then y else x)
        rcases List.mem_cons.mp this with e | e
        · rw [e]
          by_cases q : plt y x = true
          · rw [if_pos q]; exact List.mem_cons_of_mem _ List.mem_cons_self
          · rw [if_neg q]; exact List.mem_cons_self
        · exact List.mem_cons_of_mem _ (List.mem_cons_of_mem _ e)
    exact gen xs x
theorem cands_nat {c : List (List Nat)} {h : List Nat} {v o : Nat} {p : Int × Int} (e : p ∈ cands c h v o) : ∃ i, i ∈ rowsAt h v ∧ p = (costIn c i o - costIn c i v, (i : Int)) := by
  obtain ⟨i, hi, e⟩ := List.mem_map.mp e
  exact ⟨i, hi, e.symm⟩
abbrev dChanges (c : List (List Nat)) (h : List Nat) (n : Nat) : D := .l ((List.range n).map fun v => .l ((List.range n).map fun o => dChg (chg c h v o)))
structure ChA where
  a : Addr
  dx : Addr
  ps : Addr
  pa : Addr
  pr : Addr
  vh : V
  vc : V
  vl : V
def ChA.M (q : ChA) : List Addr := [q.ps, q.pa, q.pr]
def chNames : List Str := ["homes", "changes", "sums", "ahead", "rows", "limits"]
structure ChO (K : PySem.W.Frag) (q : ChA) (c : List (List Nat)) (h L : List Nat) (n : Nat) (S : CS) (W : Wd) : Prop where
  ins : W.h q.a = some (.ins (C_Chains K) q.dx (chNames.zip [q.vh, q.vc, .ref q.ps, .ref q.pa, .ref q.pr, q.vl]))
  rh : Rep W.f (.l (h.map dn)) q.vh
  rc : Rep W.f (dChanges c h n) q.vc
  rl : Rep W.f (.l (L.map dn)) q.vl
  hs : W.h q.ps = some (.lst (S.s.map oV))
  ha : W.h q.pa = some (.lst (S.a.map V.int))
  hr : W.h q.pr = some (.lst (S.r.map vn))
  fs : W.f q.ps = none
  fa : W.f q.pa = none
  fr : W.f q.pr = none
  ne : q.ps ≠ q.pa ∧ q.ps ≠ q.pr ∧ q.pa ≠ q.pr ∧ q.a ≠ q.ps ∧ q.a ≠ q.pa ∧ q.a ≠ q.pr
  ok : Ex W.f W.h
  len : L.length = n ∧ S.s.length = n ∧ S.a.length = n ∧ S.r.length = n ∧ h.length ≤ 1000 ∧ n ≤ 1000
section
variable {K : PySem.W.Frag} {mg : Str → Option Value} {q : ChA} {c : List (List Nat)} {h L : List Nat} {n : Nat} {S : CS} {W W' : Wd} {σ : L2.St} {ti te tj : TE} {D0 : Ends}
theorem ChO.more (O : ChO K q c h L n S W) (g : Grow W W') : ChO K q c h L n S W' := by
  have nz : ∀ {p : Addr} {o : HO}, W.h p = some o → W.h p ≠ none := fun e => by rw [e]; exact fun e => nomatch e
  exact ⟨g.hh _ _ O.ins, up g O.rh, up g O.rc, up g O.rl, g.hh _ _ O.hs, g.hh _ _ O.ha, g.hh _ _ O.hr, g.fr _ O.fs (nz O.hs), g.fr _ O.fa (nz O.ha), g.fr _ O.fr (nz O.hr), O.ne, g.fh, O.len⟩
theorem ChO.fldS (O : ChO K q c h L n S W) (T : Top K mg) (h0 : σ[0]? = some (some (.ref q.a))) : EvD (tFld K (tVar 0) "sums") σ W (.v (.ref q.ps)) := ev_fldZ 2 (cl_Chains T) (na_Chains_sums T) (ev_own h0) O.ins (by decide +kernel) rfl
theorem ChO.fldA (O : ChO K q c h L n S W) (T : Top K mg) (h0 : σ[0]? = some (some (.ref q.a))) : EvD (tFld K (tVar 0) "ahead") σ W (.v (.ref q.pa)) := ev_fldZ 3 (cl_Chains T) (na_Chains_ahead T) (ev_own h0) O.ins (by decide +kernel) rfl
theorem ChO.fldR (O : ChO K q c h L n S W) (T : Top K mg) (h0 : σ[0]? = some (some (.ref q.a))) : EvD (tFld K (tVar 0) "rows") σ W (.v (.ref q.pr)) := ev_fldZ 4 (cl_Chains T) (na_Chains_rows T) (ev_own h0) O.ins (by decide +kernel) rfl
theorem ChO.fldH (O : ChO K q c h L n S W) (T : Top K mg) (h0 : σ[0]? = some (some (.ref q.a))) : EvD (tFld K (tVar 0) "homes") σ W (.l (h.map dn)) := (ev_fldZ 0 (cl_Chains T) (na_Chains_homes T) (ev_own h0) O.ins (by decide +kernel) rfl).raw O.rh
theorem ChO.fldC (O : ChO K q c h L n S W) (T : Top K mg) (h0 : σ[0]? = some (some (.ref q.a))) : EvD (tFld K (tVar 0) "changes") σ W (dChanges c h n) := (ev_fldZ 1 (cl_Chains T) (na_Chains_changes T) (ev_own h0) O.ins (by decide +kernel) rfl).raw O.rc
theorem ChO.fldL (O : ChO K q c h L n S W) (T : Top K mg) (h0 : σ[0]? = some (some (.ref q.a))) : EvD (tFld K (tVar 0) "limits") σ W (.l (L.map dn)) := (ev_fldZ 5 (cl_Chains T) (na_Chains_limits T) (ev_own h0) O.ins (by decide +kernel) rfl).raw O.rl
theorem ChO.sum (O : ChO K q c h L n S W) (T : Top K mg) (h0 : σ[0]? = some (some (.ref q.a))) {v : Nat} (hv : v < n) (hi : EvD ti σ W (dn v)) : EvD (tOp (rIxL K) (tFld K (tVar 0) "sums") ti) σ W (.v (oV (S.s.getD v none))) :=
  ev_ownIx (O.fldS T h0) O.hs (by rw [List.getElem?_map, List.getD_eq_getElem?_getD, List.getElem?_eq_getElem (by rw [O.len.2.1]; exact hv)]; rfl) hi
theorem ChO.sumI (O : ChO K q c h L n S W) (T : Top K mg) (h0 : σ[0]? = some (some (.ref q.a))) {v : Nat} {x : Int} (e : S.s.getD v none = some x) (hv : v < n) (hi : EvD ti σ W (dn v)) : EvD (tOp (rIxL K) (tFld K (tVar 0) "sums") ti) σ W (.i x) := by
  have := O.sum T h0 hv hi
  rw [e] at this
  exact this.raw rfl
theorem ChO.aheadI (O : ChO K q c h L n S W) (T : Top K mg) (h0 : σ[0]? = some (some (.ref q.a))) {v : Nat} (hv : v < n) (hi : EvD ti σ W (dn v)) : EvD (tOp (rIxL K) (tFld K (tVar 0) "ahead") ti) σ W (.i (S.a.getD v 0)) :=
  (ev_ownIx (v := .int (S.a.getD v 0)) (O.fldA T h0) O.ha (by rw [List.getElem?_map, List.getD_eq_getElem?_getD, List.getElem?_eq_getElem (by rw [O.len.2.2.1]; exact hv)]; rfl) hi).raw rfl
theorem ChO.rowN (O : ChO K q c h L n S W) (T : Top K mg) (h0 : σ[0]? = some (some (.ref q.a))) {v : Nat} (hv : v < n) (hi : EvD ti σ W (dn v)) : EvD (tOp (rIxL K) (tFld K (tVar 0) "rows") ti) σ W (dn (S.r.getD v 0)) :=
  (ev_ownIx (v := vn (S.r.getD v 0)) (O.fldR T h0) O.hr (by rw [List.getElem?_map, List.getD_eq_getElem?_getD, List.getElem?_eq_getElem (by rw [O.len.2.2.2.1]; exact hv)]; rfl) hi).raw rfl
theorem ChO.lim (O : ChO K q c h L n S W) (T : Top K mg) (h0 : σ[0]? = some (some (.ref q.a))) {v : Nat} (hv : v < n) (hi : EvD ti σ W (dn v)) : EvD (tOp (rIxL K) (tFld K (tVar 0) "limits") ti) σ W (dn (L.getD v 0)) :=
  ev_op (rv_ix (at_nat (by rw [O.len.1]; exact hv))) (O.fldL T h0) hi
theorem ChO.chg (O : ChO K q c h L n S W) (T : Top K mg) (h0 : σ[0]? = some (some (.ref q.a))) {v o : Nat} (hv : v < n) (ho : o < n) (hi : EvD ti σ W (dn v)) (hj : EvD tj σ W (dn o)) : EvD (tOp (rIxL K) (tOp (rIxL K) (tFld K (tVar 0) "changes") ti) tj) σ W (dChg (chg c h v o)) :=
  ev_op (rv_ix (at_range ho)) (ev_op (rv_ix (at_range hv)) (O.fldC T h0) hi) hj
theorem ChO.setS (O : ChO K q c h L n S W) (o : Nat) (x : Option Int) : ChO K q c h L n ⟨S.s.set o x, S.a, S.r⟩ ⟨W.f, upd W.h q.ps (.lst ((S.s.set o x).map oV))⟩ := by
  obtain ⟨n1, n2, n3, n4, n5, n6⟩ := O.ne
  refine ⟨?_, O.rh, O.rc, O.rl, upd_same, ?_, ?_, O.fs, O.fa, O.fr, O.ne, O.ok.mut O.fs, by simpa [List.length_set] using O.len⟩
  · show L2.upd W.h q.ps _ q.a = _; rw [upd_ne n4]; exact O.ins
  · show L2.upd W.h q.ps _ q.pa = _; rw [upd_ne (Ne.symm n1)]; exact O.ha
  · show L2.upd W.h q.ps _ q.pr = _; rw [upd_ne (Ne.symm n2)]; exact O.hr
theorem ChO.setA (O : ChO K q c h L n S W) (o : Nat) (x : Int) : ChO K q c h L n ⟨S.s, S.a.set o x, S.r⟩ ⟨W.f, upd W.h q.pa (.lst ((S.a.set o x).map V.int))⟩ := by
  obtain ⟨n1, n2, n3, n4, n5, n6⟩ := O.ne
  refine ⟨?_, O.rh, O.rc, O.rl, ?_, upd_same, ?_, O.fs, O.fa, O.fr, O.ne, O.ok.mut O.fa, by simpa [List.length_set] using O.len⟩
  · show L2.upd W.h q.pa _ q.a = _; rw [upd_ne n5]; exact O.ins
  · show L2.upd W.h q.pa _ q.ps = _; rw [upd_ne n1]; exact O.hs
  · show L2.upd W.h q.pa _ q.pr = _; rw [upd_ne (Ne.symm n3)]; exact O.hr
theorem ChO.setR (O : ChO K q c h L n S W) (o : Nat) (x : Nat) : ChO K q c h L n ⟨S.s, S.a, S.r.set o x⟩ ⟨W.f, upd W.h q.pr (.lst ((S.r.set o x).map vn))⟩ := by
  obtain ⟨n1, n2, n3, n4, n5, n6⟩ := O.ne
  refine ⟨?_, O.rh, O.rc, O.rl, ?_, ?_, upd_same, O.fs, O.fa, O.fr, O.ne, O.ok.mut O.fr, by simpa [List.length_set] using O.len⟩
  · show L2.upd W.h q.pr _ q.a = _; rw [upd_ne n6]; exact O.ins
  · show L2.upd W.h q.pr _ q.ps = _; rw [upd_ne n2]; exact O.hs
  · show L2.upd W.h q.pr _ q.pa = _; rw [upd_ne n3]; exact O.ha
end
theorem dChg_noObj (o : Option (Int × Int)) : noObj (dChg o) = true := by cases o <;> rfl
theorem dChg_shaped (o : Option (Int × Int)) : SeqAt.shaped (toPy (dChg o)) = true := by
  cases o with
  | none => decide
  | some p =>
    unfold SeqAt.shaped
    rw [Bool.and_eq_true]
    exact ⟨rfl, rfl⟩
theorem dChg_eq (o : Option (Int × Int)) : PyData.eqv (toPy (dChg o)) (toPy (.t [])) = o.isNone := by cases o <;> rfl
section
variable {P : Program} {w : World} {K : PySem.W.Frag} {mg : Str → Option Value} {base : Heap}
abbrev sp_Chains_better (K : PySem.W.Frag) : Sp := fun vs H Q _ => ∃ (q : ChA) (Hf : Hp) (c : List (List Nat)) (h L : List Nat) (n : Nat) (S : CS) (v o : Nat), vs = [.ref q.a, vn v, vn o] ∧ ChO K q c h L n S ⟨Hf, H⟩ ∧ v < n ∧ o < n ∧
  ∀ W', GrowM q.M ⟨Hf, H⟩ W' → ChO K q c h L n (better (chg c h) L S v o).1 W' → Q (.bl (better (chg c h) L S v o).2) W'.h
theorem met_Chains_better (T : Top K mg) : Met P w K mg base 1 (C_Chains K) "better" (sp_Chains_better K) [] :=
  metOf (cl_Chains T) (me_Chains_better T) (F_Chains_better T) sc_Chains_better (fun _ _ _ _ _ _ us hl => match us, hl with | [_, _, _], _ => rfl) (fun _ _ _ _ h => by obtain ⟨_, _, _, _, _, _, _, _, _, rfl, _⟩ := h; rfl) fun cdv A outer s H vs Q E hr h => by
  obtain ⟨q, Hf, c, h, L, n, S, v, o, rfl, O, hv, ho, k⟩ := h
  refine ⟨_, (pss_cons (ps_set (i := 3) sc_Chains_better.nd rfl (Or.inl rfl) (pe_ix (ixL K rfl) (pe_ix (ixL K rfl) (pe_fldK K rfl (pv 0) rfl) (pv 1) (fun _ _ => rfl)) (pv 2) (fun _ _ => rfl)))
        (pss_cons (ps_if (PW.pt (pw_or (pt_cmpR op_isN (pe_ix (ixL K rfl) (pe_fldK K rfl (pv 0) rfl) (pv 1) (fun _ _ => rfl)) pe_non (nomark _)) (pw_or (pt_cmpR op_eq (pe_ix (ixL K rfl) (pe_fldK K rfl (pv 0) rfl) (pv 2) (fun _ _ => rfl)) pe_int (nomark _)) (pw_or1 (pt_cmpR (op_eqD hr.units) (pv 3) (pe_tup pa_nil) (nomark _))))))
        (pss_one (ps_ret pe_bl))
        pss_nil)
        (pss_cons (ps_set (i := 4) sc_Chains_better.nd rfl (Or.inl rfl) (pe_op op_add (pe_ix (ixL K rfl) (pe_fldK K rfl (pv 0) rfl) (pv 1) (fun _ _ => rfl)) (pe_ix (ixT K rfl) (pv 3) pe_int (fun _ _ => rfl))))
        (pss_cons (ps_if (PW.pt (pw_and (pt_cmpR op_notN (pe_ix (ixL K rfl) (pe_fldK K rfl (pv 0) rfl) (pv 2) (fun _ _ => rfl)) pe_non (nomark _)) (pw_and1 (pt_cmpR op_le (pe_ix (ixL K rfl) (pe_fldK K rfl (pv 0) rfl) (pv 2) (fun _ _ => rfl)) (pv 4) (nomark _)))))
        (pss_one (ps_ret pe_bl))
        pss_nil)
        (pss_cons (ps_asg (pv 4) (pg_sub (pe_fldK K rfl (pv 0) rfl) (pv 2) set_list))
        (pss_cons (ps_asg (pv 1) (pg_sub (pe_fldK K rfl (pv 0) rfl) (pv 2) set_list))
        (pss_cons (ps_asg (pe_ix (ixT K rfl) (pv 3) pe_int (fun _ _ => rfl)) (pg_sub (pe_fldK K rfl (pv 0) rfl) (pv 2) set_list))
        (pss_one (ps_ret pe_bl))))))))), ?_⟩
  refine s_set (W := ⟨Hf, H⟩) (O.chg T rfl hv ho (ev_var (W := ⟨Hf, H⟩) (d := dn v) rfl rfl) (ev_var (W := ⟨Hf, H⟩) (d := dn o) rfl rfl)) O.ok fun v3 W1 g1 r3 => ?_
  dsimp only
  have O1 := O.more g1
  refine s_ifs (et_or (et_test (ev_op rv_isN (O1.sum T rfl hv (ev_var (W := W1) (d := dn v) rfl rfl)) ev_non)) fun _ => et_or (et_test (ev_op (rv_eqN (b := 0)) (O1.lim T rfl ho (ev_var (W := W1) (d := dn o) rfl rfl)) ev_int)) fun _ => et_test (ev_op (rv_eqD (dChg_noObj _) rfl (dChg_shaped _) (by decide)) (ev_var r3 rfl) (ev_tup ea_nil (by show 0 ≤ 10000000; decide)))) g1.fh (fun e W2 g2 => ?_) (fun e W2 g2 => ?_)
  · have O2 := O1.more g2
    rw [oV_non, dChg_eq] at e
    have e1 : better (chg c h) L S v o = (S, false) := by
      unfold better
      cases q1 : S.s.getD v none with
      | none => rfl
      | some x =>
        show (if L.getD o 0 = 0 then (S, false) else _) = _
        by_cases q2 : L.getD o 0 = 0
        · rw [if_pos q2]
        · rw [if_neg q2]
          cases q3 : chg c h v o with
          | none => rfl
          | some p =>
            rw [q1, q3, decide_eq_false q2] at e
            simp at e
    rw [e1] at k
    refine s_ret (W := W2) ev_bl g2.fh fun r W3 g3 r3 => ?_
    cases r3
    exact k W3 ((g1.trans (g2.trans g3)).m _) (O2.more g3)
  dsimp only
  have O2 := O1.more g2
  rw [oV_non, dChg_eq] at e
  obtain ⟨x, q1⟩ : ∃ x, S.s.getD v none = some x := by
    cases q1 : S.s.getD v none with
    | none => rw [q1] at e; simp at e
    | some x => exact ⟨x, rfl⟩
  have q2 : ¬ L.getD o 0 = 0 := by
    intro q2
    rw [q1, decide_eq_true q2] at e
    simp at e
  obtain ⟨p, q3⟩ : ∃ p, chg c h v o = some p := by
    cases q3 : chg c h v o with
    | none => rw [q1, q3] at e; simp at e
    | some p => exact ⟨p, rfl⟩
  have r3' : Rep W2.f (dP p) v3 := by
    have := up g2 r3
    rw [q3] at this
    exact this
  refine s_set (d := .i (x + p.1)) (ev_op rv_add (O2.sumI T rfl q1 hv (ev_var (W := W2) (d := dn v) rfl rfl)) (ev_op (rv_ixT (j := 0) (d := .i p.1) rfl) (ev_var r3' rfl) ev_int)) g2.fh fun v4 W3 g3 r4 => ?_
  cases r4
  dsimp only
  have O3 := O2.more g3
  obtain ⟨bb, eb⟩ : ∃ bb, (match S.s.getD o none with
        | some y => decide (y ≤ x + p.1)
        | none => false) = bb := ⟨_, rfl⟩
  have eq1 : better (chg c h) L S v o = if bb = true then (S, false) else (⟨S.s.set o (some (x + p.1)), S.a.set o (v : Int), S.r.set o p.2.toNat⟩, true) := by
    rw [← eb]
    unfold better
    rw [q1]
    show (if L.getD o 0 = 0 then (S, false) else _) = _
    rw [if_neg q2, q3]
  refine s_ifs (W := W3) (b := bb) (by
    rw [← eb]
    cases q4 : S.s.getD o none with
    | none => exact EvT.is (et_and (c := false) (et_test (ev_op rv_notN (O3.sum T rfl ho (ev_var (W := W3) (d := dn o) rfl rfl)) ev_non)) (fun q5 => by rw [q4] at q5; simp [oV] at q5)) (by rw [q4]; rfl)
    | some y => exact EvT.is (et_and (et_test (ev_op rv_notN (O3.sum T rfl ho (ev_var (W := W3) (d := dn o) rfl rfl)) ev_non)) fun _ => et_test (ev_op rv_le (O3.sumI T rfl q4 ho (ev_var (W := W3) (d := dn o) rfl rfl)) (ev_var (W := W3) (d := .i (x + p.1)) rfl rfl))) (by rw [q4]; rfl)) g3.fh (fun e5 W4 g4 => ?_) (fun e5 W4 g4 => ?_)
  · rw [eq1, if_pos e5] at k
    refine s_ret (W := W4) ev_bl g4.fh fun r W5 g5 r5 => ?_
    cases r5
    exact k W5 (((g1.trans g2).trans (g3.trans (g4.trans g5))).m _) (O3.more (g4.trans g5))
  dsimp only
  rw [eq1, if_neg (by rw [e5]; decide)] at k
  have O4 := O3.more g4
  have G4 := (((g1.trans g2).trans (g3.trans g4)).m q.M)
  have lens := O4.len
  refine s_setIx (W := W4) (d := .i (x + p.1)) (j := o) (ev_var (d := .i (x + p.1)) rfl rfl) (O4.fldS T rfl) (ev_var (d := dn o) rfl rfl) O4.hs (by rw [List.length_map]; omega) O4.ok fun v5 W5 g5 r5 => ?_
  cases r5
  dsimp only
  have O5 := (O4.more g5).setS o (some (x + p.1))
  have G5 := (G4.trans (g5.m _)).set (p := q.ps) (o := .lst ((S.s.set o (some (x + p.1))).map oV)) List.mem_cons_self (O4.more g5).fs
  rw [show ((S.s.map oV).set o (V.int (x + p.1))) = (S.s.set o (some (x + p.1))).map oV by rw [List.map_set]; rfl]
  obtain ⟨W6, e6⟩ : ∃ W : Wd, W = ⟨W5.f, upd W5.h q.ps (.lst ((S.s.set o (some (x + p.1))).map oV))⟩ := ⟨_, rfl⟩
  have e6h : upd W5.h q.ps (.lst ((S.s.set o (some (x + p.1))).map oV)) = W6.h := by rw [e6]
  rw [e6h]
  rw [← e6] at O5 G5
  refine s_setIx (W := W6) (d := dn v) (j := o) (ev_var (d := dn v) rfl rfl) (O5.fldA T rfl) (ev_var (d := dn o) rfl rfl) O5.ha (by rw [List.length_map]; show o < S.a.length; omega) O5.ok fun v7 W7 g7 r7 => ?_
  cases r7
  dsimp only
  have O7 := (O5.more g7).setA o (v : Int)
  have G7 := (G5.trans (g7.m _)).set (p := q.pa) (o := .lst ((S.a.set o (v : Int)).map V.int)) (List.mem_cons_of_mem _ List.mem_cons_self) (O5.more g7).fa
  rw [show ((S.a.map V.int).set o (V.int (v : Int))) = (S.a.set o (v : Int)).map V.int by rw [List.map_set]]
  obtain ⟨W8, e8⟩ : ∃ W : Wd, W = ⟨W7.f, upd W7.h q.pa (.lst ((S.a.set o (v : Int)).map V.int))⟩ := ⟨_, rfl⟩
  have e8h : upd W7.h q.pa (.lst ((S.a.set o (v : Int)).map V.int)) = W8.h := by rw [e8]
  rw [e8h]
  rw [← e8] at O7 G7
  obtain ⟨i, _, ep⟩ := cands_nat (chg_nat q3)
  have ep2 : p.2 = (i : Int) := by rw [ep]
  have r8 : Rep W8.f (dP p) v3 := Rep.mono (g3.ff.trans (g4.ff.trans (g5.ff.trans (by rw [show W5.f = W6.f by rw [e6]]; exact g7.ff.trans (by rw [e8]; exact .refl _))))) _ _ r3'
  refine s_setIx (W := W8) (d := dn i) (j := o) (EvD.is (ev_op (rv_ixT (j := 1) (d := .i p.2) rfl) (ev_var r8 rfl) ev_int) (by rw [ep2])) (O7.fldR T rfl) (ev_var (d := dn o) rfl rfl) O7.hr (by rw [List.length_map]; show o < S.r.length; omega) O7.ok fun v9 W9 g9 r9 => ?_
  cases r9
  dsimp only
  have O9 := (O7.more g9).setR o i
  have G9 := (G7.trans (g9.m _)).set (p := q.pr) (o := .lst ((S.r.set o i).map vn)) (List.mem_cons_of_mem _ (List.mem_cons_of_mem _ List.mem_cons_self)) (O7.more g9).fr
  rw [show ((S.r.map vn).set o (V.int (i : Int))) = (S.r.set o i).map vn by rw [List.map_set]]
  rw [show p.2.toNat = i by rw [ep2]; exact Int.toNat_natCast i] at k
  refine s_ret (W := ⟨W9.f, upd W9.h q.pr (.lst ((S.r.set o i).map vn))⟩) ev_bl O9.ok fun r W10 g10 r10 => ?_
  cases r10
  exact k W10 (G9.trans (g10.m _)) (O9.more g10)
end
end Hm
end
section
set_option Elab.async false
set_option linter.all false
set_option maxRecDepth 100000
set_option maxHeartbeats 4000000
namespace Hm
open PySem PySem.Spec PyProof.Rows L2
open C8 (Cal Met Mak pe_c pe_mt pe_mt0 pe_mk pe_gc)
open Vbjtah (versionCount edgesOf isBelow distance)
/-! ### chains: their rounds, their ends, the homes behind them -/
open Vbjtah (costIn)
section
variable {K : PySem.W.Frag} {σ : L2.St} {W W' E0 : Wd} {ta tb te tl ti tv : TE} {t u : TT} {tu : TS} {d : D} {ds : List D} {v x : V} {D0 : Ends} {a : Bool}
theorem s_ifs_raw {t : TT} (h : t σ W.h fun b H => if b = true then tu D0 σ H else D0.nx σ H) : tIfS t tu tNext D0 σ W.h := h
theorem b_call {i : Nat} {a C dx : Addr} {fs : List (Str × V)} {m : Str} {sp : Sp} {E : XK} {tr : TA} {es : List D} {Q : Bool → Hp → Prop} (hv : σ[i]? = some (some (.ref a))) (hp : W.h a = some (.ins C dx fs)) (hl : fs.lookup m = none) (ok : Ex W.f W.h) (ha : EvA tr σ W es) (k : ∀ us W1, Grow W W1 → Reps W1.f es us → sp (.ref a :: us) W1.h (fun x H => ∃ c, x = .bl c ∧ Q c H) E) : tB (tMeth C m sp [] E (tVar i) tr) σ W.h Q := m_call hv hp hl ok ha k
/-- x = xs + ys: a list of one's own -/
theorem s_catOwn {i : Nat} {xs ys : List D} (ha : EvD ta σ W (.l xs)) (hb : EvD tb σ W (.l ys)) (hz : xs.length + ys.length ≤ 10000000) (ok : Ex W.f W.h) (k : ∀ p W1, Own W p (xs ++ ys) W1 → W.h p = none → D0.nx (σ.set i (some (.ref p))) W1.h) : tAsg (tOp rCat ta tb) (gName i) D0 σ W.h :=
  ha W (.refl ok) _ fun x W1 g1 ⟨p1, vs1, e1, e2, e3⟩ => hb W1 g1 _ fun y W2 g2 ⟨p2, vs2, f1, f2, f3⟩ =>
    ⟨p1, p2, vs1, vs2, e1, f1, g2.fh _ _ (g2.ff _ _ e2), g2.fh _ _ f2, szLe (by rw [e3.len, f3.len]; exact hz), fun r hr =>
      k r ⟨W2.f, upd W2.h r (.lst (vs1 ++ vs2))⟩ ⟨(g1.trans g2).trans (.own g2.fh hr), none_of g2.fh hr, _, upd_same, (Reps.mono g2.ff _ _ e3).app f3⟩ (none_of (g1.trans g2).hh hr)⟩
theorem s_newV {a C dx : Addr} {ns : List Str} {f : Str} {i : Nat} (o : OwnO E0 a C dx ns ds W) (hn : E0.h a = none) (hi : σ[i]? = some (some (.ref a))) (cl : Cls K C) (na : NoAttr K C f) (hl : ns.length = ds.length) (hf : decide (f ∈ ns) = false) (hz : ns.length < 1000) (h : EvD tv σ W d)
    (k : ∀ v W1, OwnO E0 a C dx (ns ++ [f]) (ds ++ [.v v]) W1 → Rep W1.f d v → Ex W.f W1.f → Ex (less W.h a) W1.h → D0.nx σ W1.h) : sFld K (tVar i) tv f D0 σ W.h := by
  obtain ⟨g0, h0, vs, h1, h2⟩ := o
  refine h W g0.rf _ fun v W1 g r => ⟨_, hi, a, C, dx, _, rfl, g.hh a _ h1, cl, na, by rw [List.length_zip]; omega, ?_⟩
  have hlv := h2.len
  rw [putF_new (of_decide_eq_false hf) (by omega)]
  have f0 := g.fr a h0 (by rw [h1]; exact fun e => nomatch e)
  exact k v ⟨W1.f, upd W1.h a (.ins C dx ((ns ++ [f]).zip (vs ++ [v])))⟩ ⟨(g0.trans g).set hn f0, f0, _, upd_same, (Reps.mono g.ff _ _ h2).app (.one rfl)⟩ r g.ff (Ex.mut (fun y o hy => g.hh y o (by
    by_cases q : y = a
    · subst q; rw [less_same] at hy; cases hy
    · rw [less_ne q] at hy; exact hy)) less_same)
theorem s_newVF {a C dx : Addr} {ns : List Str} {f : Str} {i : Nat} (o : OwnO E0 a C dx ns ds W) (hn : E0.h a = none) (hi : σ[i]? = some (some (.ref a))) (cl : Cls K C) (na : NoAttr K C f) (hl : ns.length = ds.length) (hf : decide (f ∈ ns) = false) (hz : ns.length < 1000) (h : EvF tv σ W d)
    (k : ∀ p W1, OwnO E0 a C dx (ns ++ [f]) (ds ++ [.v (.ref p)]) W1 → Rep W1.f d (.ref p) → W.h p = none → Ex W.f W1.f → Ex (less W.h a) W1.h → D0.nx σ W1.h) : sFld K (tVar i) tv f D0 σ W.h := by
  obtain ⟨g0, h0, vs, h1, h2⟩ := o
  refine h W g0.rf _ fun p W1 g hp r => ⟨_, hi, a, C, dx, _, rfl, g.hh a _ h1, cl, na, by rw [List.length_zip]; omega, ?_⟩
  have hlv := h2.len
  rw [putF_new (of_decide_eq_false hf) (by omega)]
  have f0 := g.fr a h0 (by rw [h1]; exact fun e => nomatch e)
  exact k p ⟨W1.f, upd W1.h a (.ins C dx ((ns ++ [f]).zip (vs ++ [.ref p])))⟩ ⟨(g0.trans g).set hn f0, f0, _, upd_same, (Reps.mono g.ff _ _ h2).app (Reps.one (d := .v (.ref p)) (v := .ref p) rfl)⟩ r hp g.ff (Ex.mut (fun y o hy => g.hh y o (by
    by_cases q : y = a
    · subst q; rw [less_same] at hy; cases hy
    · rw [less_ne q] at hy; exact hy)) less_same)
end
theorem chNames_no {m : Str} (h : decide (m ∈ chNames) = false) (vs : List V) : (chNames.zip vs).lookup m = none := zip_none (of_decide_eq_false h)
def roomAt (S : CS) (L h : List Nat) (v : Nat) : Bool := (S.s.getD v none).isSome && decide ((rowsAt h v).length < L.getD v 0)
def endsOf (S : CS) (L h : List Nat) (n : Nat) : List (Int × Int) := ((List.range n).filter (roomAt S L h)).map fun v => ((S.s.getD v none).getD 0, (v : Int))
def endOf (S : CS) (L h : List Nat) (n : Nat) : Nat := match endsOf S L h n with
  | [] => 0
  | x :: xs => (pmin x xs).2.toNat
def Linked (S : CS) : List Nat → Prop
  | [] => False
  | [v] => S.a.getD v 0 = -1
  | v :: w :: r => S.a.getD v 0 = (w : Int) ∧ Linked S (w :: r)
def verOf : List Nat → Int
  | [] => -1
  | v :: _ => (v : Int)
theorem Linked.next {S : CS} {v : Nat} {r : List Nat} (h : Linked S (v :: r)) : S.a.getD v 0 = verOf r ∧ (r = [] ∨ Linked S r) := by
  cases r with
  | nil => exact ⟨h, .inl rfl⟩
  | cons w r => exact ⟨h.1, .inr h.2⟩
def walkSet (S : CS) (path : List Nat) (l : List Int) : List Int := path.foldl (fun l v => l.set (S.r.getD v 0) (v : Int)) l
def startCS (c : List (List Nat)) (L : List Nat) (n place : Nat) : CS := ⟨L.zipIdx.map fun x => if x.1 = 0 then none else some (costIn c place x.2), List.replicate n (-1), List.replicate n place⟩
def oD : Option Int → D
  | none => .n
  | some x => .i x
theorem oD_rep {H : Hp} (o : Option Int) (v : V) : Rep H (oD o) v ↔ v = oV o := by cases o <;> exact Iff.rfl
section
variable {P : Program} {w : World} {K : PySem.W.Frag} {mg : Str → Option Value} {base : Heap}
abbrev sp_Chains_go_on (K : PySem.W.Frag) : Sp := fun vs H Q _ => ∃ (q : ChA) (Hf : Hp) (c : List (List Nat)) (h L : List Nat) (n : Nat) (S : CS), vs = [.ref q.a] ∧ ChO K q c h L n S ⟨Hf, H⟩ ∧
  ∀ W', GrowM q.M ⟨Hf, H⟩ W' → ChO K q c h L n (goOn (chg c h) L n S).1 W' → Q (.bl (goOn (chg c h) L n S).2) W'.h
theorem met_Chains_go_on (T : Top K mg) : Met P w K mg base 2 (C_Chains K) "go_on" (sp_Chains_go_on K) [] :=
  metOf (cl_Chains T) (me_Chains_go_on T) (F_Chains_go_on T) sc_Chains_go_on (fun _ _ _ _ _ _ us hl => match us, hl with | [_], _ => rfl) (fun _ _ _ _ h => by obtain ⟨_, _, _, _, _, _, _, rfl, _⟩ := h; rfl) fun cdv A outer s H vs Q E hr h => by
  obtain ⟨q, Hf, c, h, L, n, S, rfl, O, k⟩ := h
  refine ⟨_, (pss_cons (ps_set (i := 1) sc_Chains_go_on.nd rfl (Or.inl rfl) pe_bl)
        (pss_cons (ps_for PassesOwn.never rfl (pi_range1 rfl (T_range T) (pa_cons (pe_callB (lenK K rfl) rfl (T_len T) b_len (pa_cons (pe_fldK K rfl (pv 0) rfl) pa_nil)) pa_nil)) (pg_name (i := 2) sc_Chains_go_on.nd rfl (Or.inl rfl))
        (pss_one (ps_for PassesOwn.never rfl (pi_range1 rfl (T_range T) (pa_cons (pe_callB (lenK K rfl) rfl (T_len T) b_len (pa_cons (pe_fldK K rfl (pv 0) rfl) pa_nil)) pa_nil)) (pg_name (i := 3) sc_Chains_go_on.nd rfl (Or.inl rfl))
        (pss_one (ps_if (PW.pt (pw_and (pt_cmpR op_ne (pv 2) (pv 3) (nomark _)) (pw_and1 (pt_val (pe_mt (met_Chains_better T) hr (by decide) (pv 0) (pa_cons (pv 2) (pa_cons (pv 3) pa_nil)))))))
        (pss_one (ps_set (i := 1) sc_Chains_go_on.nd rfl (Or.inl rfl) pe_bl))
        pss_nil)))))
        (pss_one (ps_ret (pv 1))))), ?_⟩
  have lens := O.len
  refine s_set (W := ⟨Hf, H⟩) (d := .b false) ev_bl O.ok fun v1 W1 g1 r1 => ?_
  cases r1
  dsimp only
  have O1 := O.more g1
  refine s_forR n (ea_cons ((ev_lenK (O1.fldL T rfl)).is (by rw [List.length_map, lens.1])) ea_nil) (by omega) O1.ok fun W2 g2 => ⟨fun m σ' W' => ∃ b x y S', σ' = [some (.ref q.a), some (.bl b), x, y] ∧ GrowM q.M W2 W' ∧ ChO K q c h L n S' W' ∧ (List.range m).foldl (goRow (chg c h) L n) (S, false) = (S', b), ⟨false, none, none, S, rfl, .refl g2.fh, O1.more g2, rfl⟩, ?_, ?_⟩
  · rintro v σ' W3 hv ⟨b, x, y, S', rfl, G3, O3, e3⟩
    refine s_forR (W := W3) n (ea_cons ((ev_lenK (O3.fldL T rfl)).is (by rw [List.length_map, lens.1])) ea_nil) (by omega) O3.ok fun W4 g4 => ⟨fun m σ' W' => ∃ b' y S'', σ' = [some (.ref q.a), some (.bl b'), some (vn v), y] ∧ GrowM q.M W4 W' ∧ ChO K q c h L n S'' W' ∧ (List.range m).foldl (betterB (chg c h) L v) (S', b) = (S'', b'), ⟨b, y, S', rfl, .refl g4.fh, O3.more g4, rfl⟩, ?_, ?_⟩
    · rintro o σ' W5 ho ⟨b', y, S'', rfl, G5, O5, e5⟩
      have nextE : (List.range (o + 1)).foldl (betterB (chg c h) L v) (S', b) = betterB (chg c h) L v (S'', b') o := by
        rw [List.range_succ, List.foldl_append, e5]
        rfl
      refine s_ifs_and (W := W5) (et_test (ev_op rv_neN (ev_var (W := W5) (d := dn v) rfl rfl) (ev_var (W := W5) (d := dn o) rfl rfl))) O5.ok (fun e W6 g6 => ?_) (fun e W6 g6 => ?_)
      · have e : v = o := by simpa using e
        refine ⟨W6, rfl, b', _, S'', rfl, G5.trans (g6.m _), O5.more g6, ?_⟩
        rw [nextE]
        exact if_pos e
      · have e : v ≠ o := by simpa using e
        have O6 := O5.more g6
        refine b_call (W := W6) rfl O6.ins (chNames_no (by decide +kernel) _) O6.ok (ea_cons (ev_var (W := W6) (d := dn v) rfl rfl) (ea_cons (ev_var (W := W6) (d := dn o) rfl rfl) ea_nil)) fun us W7 g7 ⟨u1, _, e1, e2, u2, _, e4, e6, e8⟩ => ?_
        have e8 : _ = [] := e8
        subst e8 e4 e1
        cases e2
        cases e6
        refine ⟨q, W7.f, c, h, L, n, S'', v, o, rfl, O6.more g7, hv, ho, fun W8 G8 O8 => ⟨_, rfl, ?_⟩⟩
        have GG := G5.trans ((g6.trans g7).m _ |>.trans G8)
        have ne2 : betterB (chg c h) L v (S'', b') o = ((better (chg c h) L S'' v o).1, b' || (better (chg c h) L S'' v o).2) := if_neg e
        cases hb : (better (chg c h) L S'' v o).2 with
        | true =>
          refine iteT ?_
          refine s_set (W := W8) (d := .b true) ev_bl O8.ok fun v9 W9 g9 r9 => ?_
          cases r9
          refine ⟨W9, rfl, true, _, _, rfl, GG.trans (g9.m _), O8.more g9, ?_⟩
          rw [nextE, ne2, hb, Bool.or_true]
        | false =>
          refine iteF ⟨W8, rfl, b', _, _, rfl, GG, O8, ?_⟩
          rw [nextE, ne2, hb, Bool.or_false]
    · rintro σ' W5 ⟨b', y, S'', rfl, G5, O5, e5⟩
      refine ⟨W5, rfl, b', _, _, S'', rfl, G3.trans ((g4.m _).trans G5), O5, ?_⟩
      rw [List.range_succ, List.foldl_append, e3]
      exact e5
  · rintro σ' W3 ⟨b, x, y, S', rfl, G3, O3, e3⟩
    dsimp only
    have e3 : goOn (chg c h) L n S = (S', b) := e3
    rw [e3] at k
    refine s_ret (W := W3) (d := .b b) (ev_var rfl rfl) O3.ok fun r W4 g4 r4 => ?_
    cases r4
    exact k W4 (((g1.trans g2).m _).trans (G3.trans (g4.m _))) (O3.more g4)
abbrev sp_Chains_settle (K : PySem.W.Frag) : Sp := fun vs H Q _ => ∃ (q : ChA) (Hf : Hp) (c : List (List Nat)) (h L : List Nat) (n : Nat) (S : CS), vs = [.ref q.a] ∧ ChO K q c h L n S ⟨Hf, H⟩ ∧
  ∀ W', GrowM q.M ⟨Hf, H⟩ W' → ChO K q c h L n (settle (chg c h) L n n S) W' → Q .non W'.h
theorem met_Chains_settle (T : Top K mg) : Met P w K mg base 3 (C_Chains K) "settle" (sp_Chains_settle K) [] :=
  metOf (cl_Chains T) (me_Chains_settle T) (F_Chains_settle T) sc_Chains_settle (fun _ _ _ _ _ _ us hl => match us, hl with | [_], _ => rfl) (fun _ _ _ _ h => by obtain ⟨_, _, _, _, _, _, _, rfl, _⟩ := h; rfl) fun cdv A outer s H vs Q E hr h => by
  obtain ⟨q, Hf, c, h, L, n, S, rfl, O, k⟩ := h
  refine ⟨_, (pss_one (ps_for PassesOwn.never rfl (pi_listK K rfl (pe_fldK K rfl (pv 0) rfl)) (pg_name (i := 1) sc_Chains_settle.nd rfl (Or.inl rfl))
        (pss_one (ps_if (pt_not (pt_val (pe_mt0 (met_Chains_go_on T) hr (by decide) (pv 0))))
        (pss_one ps_break)
        pss_nil)))), ?_⟩
  have lens := O.len
  refine s_forL (W := ⟨Hf, H⟩) L dn (O.fldL T rfl) O.ok fun W2 g2 => ⟨fun m σ' W' => ∃ x S', σ' = [some (.ref q.a), x] ∧ GrowM q.M W2 W' ∧ ChO K q c h L n S' W' ∧ settle (chg c h) L n (n - m) S' = settle (chg c h) L n n S, ⟨none, S, rfl, .refl g2.fh, O.more g2, rfl⟩, fun m σ' W' ⟨_, _, _, G, _⟩ => ⟨G.ff, G.fh⟩, ?_, ?_⟩
  · rintro m l xv σ' W3 hl ⟨x, S', rfl, G3, O3, e3⟩ rx
    have hm := (List.getElem?_eq_some_iff.mp hl).1
    rw [show n - m = (n - (m + 1)) + 1 by omega] at e3
    have e3 : (if (goOn (chg c h) L n S').2 = true then settle (chg c h) L n (n - (m + 1)) (goOn (chg c h) L n S').1 else (goOn (chg c h) L n S').1) = settle (chg c h) L n n S := e3
    refine s_ifs_raw (W := W3) ?_
    refine b_call (W := W3) rfl O3.ins (chNames_no (by decide +kernel) _) O3.ok ea_nil fun us W4 g4 e4 => ?_
    have e4 : us = [] := e4
    subst e4
    refine ⟨q, W4.f, c, h, L, n, S', rfl, O3.more g4, fun W5 G5 O5 => ⟨_, rfl, ?_⟩⟩
    have GG := G3.trans ((g4.m _).trans G5)
    cases hb : (goOn (chg c h) L n S').2 with
    | true =>
      rw [hb, if_pos rfl] at e3
      exact iteF ⟨W5, rfl, _, _, rfl, GG, O5, e3⟩
    | false =>
      rw [hb, if_neg (by decide)] at e3
      rw [e3] at O5
      exact iteT (k W5 ((g2.m _).trans GG) O5)
  · rintro σ' W3 ⟨x, S', rfl, G3, O3, e3⟩
    rw [lens.1, Nat.sub_self] at e3
    have e3 : S' = settle (chg c h) L n n S := e3
    subst e3
    exact k W3 ((g2.m _).trans G3) O3
abbrev sp_Chains_end (K : PySem.W.Frag) : Sp := fun vs H Q _ => ∃ (q : ChA) (Hf : Hp) (c : List (List Nat)) (h L : List Nat) (n : Nat) (S : CS), vs = [.ref q.a] ∧ ChO K q c h L n S ⟨Hf, H⟩ ∧ endsOf S L h n ≠ [] ∧
  ∀ W', Grow ⟨Hf, H⟩ W' → Q (vn (endOf S L h n)) W'.h
theorem met_Chains_end (T : Top K mg) : Met P w K mg base 2 (C_Chains K) "end" (sp_Chains_end K) [] :=
  metOf (cl_Chains T) (me_Chains_end T) (F_Chains_end T) sc_Chains_end (fun _ _ _ _ _ _ us hl => match us, hl with | [_], _ => rfl) (fun _ _ _ _ h => by obtain ⟨_, _, _, _, _, _, _, rfl, _⟩ := h; rfl) fun cdv A outer s H vs Q E hr h => by
  obtain ⟨q, Hf, c, h, L, n, S, rfl, O, hne, k⟩ := h
  refine ⟨_, (pss_cons (ps_set (i := 1) sc_Chains_end.nd rfl (Or.inl rfl) (pe_lst pa_nil))
        (pss_cons (ps_for PassesOwn.never rfl (pi_enumK K rfl rfl (T_enumerate T) (pa_cons (pe_fldK K rfl (pv 0) rfl) pa_nil)) (pg_tupK K rfl rfl (pgs_cons (pg_name (i := 2) sc_Chains_end.nd rfl (Or.inl rfl)) (pgs_cons (pg_name (i := 3) sc_Chains_end.nd rfl (Or.inl rfl)) pgs_nil)))
        (pss_one (ps_if (PW.pt (pw_and (pt_cmpR op_notN (pe_ix (ixL K rfl) (pe_fldK K rfl (pv 0) rfl) (pv 2) (fun _ _ => rfl)) pe_non (nomark _)) (pw_and1 (pt_cmpR op_lt (pe_callB (lenK K rfl) rfl (T_len T) b_len (pa_cons (pe_c (cal_rows_at T) hr (by decide) rfl (pa_cons (pe_fldK K rfl (pv 0) rfl) (pa_cons (pv 2) pa_nil))) pa_nil)) (pv 3) (nomark _)))))
        (pss_one (ps_expr (pe_bm PySem.F.plainAttrs_list PySem.F.slot_list_append PySem.F.type_list_append mt_append (pv 1) (pa_cons (pe_tup (pa_cons (pe_ix (ixL K rfl) (pe_fldK K rfl (pv 0) rfl) (pv 2) (fun _ _ => rfl)) (pa_cons (pv 2) pa_nil))) pa_nil))))
        pss_nil)))
        (pss_one (ps_ret (pe_ix (ixT K rfl) (pe_callB (minPK K rfl rfl hr.units) rfl (T_min T) b_min (pa_cons (pv 1) pa_nil)) pe_int (fun _ _ => rfl)))))), ?_⟩
  have lens := O.len
  refine s_nil (W := ⟨Hf, H⟩) O.ok fun p hp => ?_
  dsimp only
  have o1 := Own.start (.refl O.ok) hp
  have O1 := O.more o1.gr
  refine s_forE (W := ⟨Hf, upd H p (.lst [])⟩) L dn (O1.fldL T rfl) o1.gr.fh fun W2 g2 => ⟨fun m σ' W' => ∃ x y, σ' = [some (.ref q.a), some (.ref p), x, y] ∧ Ex W2.f W'.f ∧ Own ⟨Hf, H⟩ p ((((List.range m).filter (roomAt S L h)).map fun v => ((S.s.getD v none).getD 0, (v : Int))).map dP) W', ⟨none, none, rfl, .refl _, o1.more g2⟩, fun m σ' W' ⟨_, _, _, q, o⟩ => ⟨q, o.gr.fh⟩, ?_, ?_⟩
  · rintro m l xv σ' W3 W4 hl ⟨x, y, rfl, xf, o3⟩ g4 rx
    have hm : m < n := by have := (List.getElem?_eq_some_iff.mp hl).1; omega
    have el : L.getD m 0 = l := by rw [List.getD_eq_getElem?_getD, hl]; rfl
    have o4 := o3.more g4
    have O4 := O.more o4.gr
    have hlen : (((List.range m).filter (roomAt S L h)).map fun v => ((S.s.getD v none).getD 0, (v : Int))).length ≤ m := by
      have := List.length_filter_le (roomAt S L h) (List.range m)
      rw [List.length_range] at this
      rw [List.length_map]
      exact this
    have nextE : (((List.range (m + 1)).filter (roomAt S L h)).map fun v => ((S.s.getD v none).getD 0, (v : Int))).map dP = (((List.range m).filter (roomAt S L h)).map fun v => ((S.s.getD v none).getD 0, (v : Int))).map dP ++ (if roomAt S L h m = true then [dP ((S.s.getD m none).getD 0, (m : Int))] else []) := by
      rw [List.range_succ, List.filter_append, List.map_append, List.map_append]
      refine congrArg (_ ++ ·) ?_
      by_cases e : roomAt S L h m = true
      · rw [if_pos e, List.filter_cons_of_pos e]
        rfl
      · rw [if_neg e, List.filter_cons_of_neg e]
        rfl
    refine s_ifs (W := W4) (b := roomAt S L h m) (EvT.is (et_and (et_test (ev_op rv_notN (O4.sum T rfl hm (ev_var (W := W4) (d := dn m) rfl rfl)) ev_non)) fun _ => et_test (ev_op rv_ltN ((ev_lenK (ev_call (x := (h, m)) lens.2.2.2.2.1 (ea_cons (O4.fldH T rfl) (ea_cons (ev_var (W := W4) (d := dn m) rfl rfl) ea_nil)))).is (by rw [List.length_map])) (ev_var rx rfl))) (by
      unfold roomAt
      rw [oV_non, el]
      cases S.s.getD m none <;> rfl)) g4.fh (fun e W5 g5 => ?_) (fun e W5 g5 => ?_)
    · have o5 := o4.more g5
      obtain ⟨z, hz⟩ : ∃ z, S.s.getD m none = some z := by
        have e' := e
        unfold roomAt at e'
        cases q1 : S.s.getD m none with
        | none => rw [q1] at e'; simp at e'
        | some z => exact ⟨z, rfl⟩
      refine s_appO o5 hp rfl (ev_tup (ea_cons ((O4.more g5).sumI T rfl hz hm (ev_var (W := W5) (d := dn m) rfl rfl)) (ea_cons (ev_var (W := W5) (d := dn m) rfl rfl) ea_nil)) (by show 2 ≤ 10000000; decide)) (by rw [List.length_map]; omega) fun W6 o6 x6 => ?_
      refine ⟨W6, rfl, _, _, rfl, xf.trans (g4.ff.trans (g5.ff.trans x6)), ?_⟩
      rw [nextE, if_pos e, hz]
      exact o6
    · refine ⟨W5, rfl, _, _, rfl, xf.trans (g4.ff.trans g5.ff), ?_⟩
      rw [nextE, if_neg (by rw [e]; decide), List.append_nil]
      exact o4.more g5
  · rintro σ' W3 ⟨x, y, rfl, xf, o3⟩
    dsimp only
    rw [lens.1] at o3
    obtain ⟨W4, e4, g4, r4, _⟩ := o3.done hp
    rw [← e4]
    have hE : (((List.range n).filter (roomAt S L h)).map fun v => ((S.s.getD v none).getD 0, (v : Int))) = endsOf S L h n := rfl
    rw [hE] at r4
    unfold endOf at k
    cases hc : endsOf S L h n with
    | nil => exact absurd hc hne
    | cons z zs =>
      rw [hc] at r4 k
      have hmem : ∃ v : Nat, (pmin z zs).2 = (v : Int) := by
        have gen : ∀ (zs : List (Int × Int)) (z : Int × Int), pmin z zs ∈ z :: zs := by
          intro xs
          induction xs with
          | nil => intro x; exact List.mem_cons_self
          | cons y ys ih =>
            intro x
            show pmin (if plt y x = true then y else x) ys ∈ x :: y :: ys
            rcases List.mem_cons.mp (ih (if plt y x = true then y else x)) with e | e
            · rw [e]
              by_cases q : plt y x = true
              · rw [if_pos q]; exact List.mem_cons_of_mem _ List.mem_cons_self
              · rw [if_neg q]; exact List.mem_cons_self
            · exact List.mem_cons_of_mem _ (List.mem_cons_of_mem _ e)
        have := gen zs z
        rw [← hc] at this
        obtain ⟨v, _, e⟩ := List.mem_map.mp this
        exact ⟨v, by rw [← e]⟩
      obtain ⟨v, hv⟩ := hmem
      refine s_ret (W := W4) (d := .i (pmin z zs).2) (ev_op (rv_ixT (j := 1) (d := .i (pmin z zs).2) rfl) (ev_minP (ev_var r4 rfl)) ev_int) g4.fh fun r W5 g5 r5 => ?_
      have r5 : r = .int (pmin z zs).2 := r5
      subst r5
      have := k W5 (g4.trans g5)
      have e : vn ((pmin z zs).2.toNat) = V.int (pmin z zs).2 := by rw [hv]; exact congrArg V.int (by rw [Int.toNat_natCast])
      exact e ▸ this
abbrev sp_Chains_homes_behind (K : PySem.W.Frag) : Sp := fun vs H Q _ => ∃ (q : ChA) (Hf : Hp) (c : List (List Nat)) (h L : List Nat) (n : Nat) (S : CS) (path : List Nat), vs = [.ref q.a] ∧ ChO K q c h L n S ⟨Hf, H⟩ ∧ endsOf S L h n ≠ [] ∧ verOf path = (endOf S L h n : Int) ∧ Linked S path ∧ (∀ v ∈ path, v < n ∧ S.r.getD v 0 ≤ h.length) ∧
  ∀ r W', Grow ⟨Hf, H⟩ W' → Rep W'.f (.l ((walkSet S path (h.map (fun (x : Nat) => (x : Int)) ++ [-1])).map D.i)) r → Q r W'.h
theorem met_Chains_homes_behind (T : Top K mg) : Met P w K mg base 3 (C_Chains K) "homes_behind" (sp_Chains_homes_behind K) [] :=
  metOf (cl_Chains T) (me_Chains_homes_behind T) (F_Chains_homes_behind T) sc_Chains_homes_behind (fun _ _ _ _ _ _ us hl => match us, hl with | [_], _ => rfl) (fun _ _ _ _ h => by obtain ⟨_, _, _, _, _, _, _, _, rfl, _⟩ := h; rfl) fun cdv A outer s H vs Q E hr h => by
  obtain ⟨q, Hf, c, h, L, n, S, path, rfl, O, hne, hv, hl, hb, k⟩ := h
  refine ⟨_, (pss_cons (ps_set (i := 1) sc_Chains_homes_behind.nd rfl (Or.inl rfl) (pe_op op_cat (pe_fldK K rfl (pv 0) rfl) (pe_lst (pa_cons (pe_gc rfl (g_NONE T)) pa_nil))))
        (pss_cons (ps_set (i := 2) sc_Chains_homes_behind.nd rfl (Or.inl rfl) (pe_mt0 (met_Chains_end T) hr (by decide) (pv 0)))
        (pss_cons (ps_while PassesOwn.never (pt_cmpR op_ne (pv 2) (pe_gc rfl (g_NONE T)) (nomark _))
        (pss_cons (ps_asg (pv 2) (pg_sub (pv 1) (pe_ix (ixL K rfl) (pe_fldK K rfl (pv 0) rfl) (pv 2) (fun _ _ => rfl)) set_list))
        (pss_one (ps_set (i := 2) sc_Chains_homes_behind.nd rfl (Or.inl rfl) (pe_ix (ixL K rfl) (pe_fldK K rfl (pv 0) rfl) (pv 2) (fun _ _ => rfl))))))
        (pss_one (ps_ret (pv 1)))))), ?_⟩
  have lens := O.len
  refine s_catOwn (W := ⟨Hf, H⟩) (O.fldH T rfl) (ev_lst (ds := [.i (-1)]) (ea_cons ev_int ea_nil) (by show 1 ≤ 10000000; decide)) (by rw [List.length_map]; show h.length + 1 ≤ 10000000; omega) O.ok fun p W1 o1 hp => ?_
  dsimp only
  have O1 := O.more o1.gr
  have start : h.map dn ++ [D.i (-1)] = (h.map (fun (x : Nat) => (x : Int)) ++ [-1]).map D.i := by
    rw [List.map_append, dn_int]
    rfl
  rw [start] at o1
  refine m_call (W := W1) rfl O1.ins (chNames_no (by decide +kernel) _) O1.ok ea_nil fun us W2 g2 e2 => ?_
  have e2 : us = [] := e2
  subst e2
  refine ⟨q, W2.f, c, h, L, n, S, rfl, O1.more g2, hne, fun W3 g3 => ?_⟩
  dsimp only
  refine s_while (W := W3) (fun m σ W => ∃ path' l, m = path'.length ∧ σ = [some (.ref q.a), some (.ref p), some (.int (verOf path'))] ∧ (path' = [] ∨ Linked S path') ∧ (∀ v ∈ path', v < n ∧ S.r.getD v 0 ≤ h.length) ∧ Own ⟨Hf, H⟩ p (l.map D.i) W ∧ walkSet S path' l = walkSet S path (h.map (fun (x : Nat) => (x : Int)) ++ [-1]) ∧ l.length = h.length + 1) path.length ⟨path, _, rfl, by rw [hv]; rfl, .inr hl, hb, o1.more (g2.trans g3), rfl, by simp⟩ ?_
  rintro m σ W4 ⟨path', l, rfl, rfl, h1, h2, o4, h3, h4⟩
  refine ⟨!decide (verOf path' = -1), et_test (ev_op rv_ne (ev_var (d := .i (verOf path')) rfl rfl) ev_int), o4.gr.fh, fun e W5 g5 => ?_, fun e W5 g5 => ?_⟩
  · cases path' with
    | nil => simp [verOf] at e
    | cons v r =>
      have hL : Linked S (v :: r) := by
        rcases h1 with h1 | h1
        · cases h1
        · exact h1
      obtain ⟨hn1, hn2⟩ := h2 v List.mem_cons_self
      obtain ⟨n1, n2⟩ := hL.next
      have o5 := o4.more g5
      have O5 := O.more o5.gr
      obtain ⟨vs, w1, w2⟩ := o5.ex
      have hlv := w2.len
      rw [List.length_map] at hlv
      rw [Reps.ints.mp w2] at w1
      refine s_setIx (W := W5) (d := dn v) (j := S.r.getD v 0) (ev_var (d := dn v) rfl rfl) (ev_own rfl) (O5.rowN T rfl hn1 (ev_var (W := W5) (d := dn v) rfl rfl)) w1 (by rw [List.length_map]; omega) o5.gr.fh fun x W6 g6 r6 => ?_
      cases r6
      dsimp only
      have o6 := o5.more g6
      have o7 : Own ⟨Hf, H⟩ p ((l.set (S.r.getD v 0) (v : Int)).map D.i) ⟨W6.f, upd W6.h p (.lst ((l.map V.int).set (S.r.getD v 0) (vn v)))⟩ := ⟨o6.gr.set hp o6.nf, o6.nf, _, upd_same, by rw [Reps.ints, List.map_set]⟩
      have O7 := O.more o7.gr
      refine s_set (W := ⟨W6.f, upd W6.h p (.lst ((l.map V.int).set (S.r.getD v 0) (vn v)))⟩) (O7.aheadI T rfl hn1 (ev_var (d := dn v) rfl rfl)) o7.gr.fh fun y W8 g8 r8 => ?_
      have r8 : y = .int (S.a.getD v 0) := r8
      subst r8
      refine ⟨W8, rfl, r.length, Nat.lt_succ_self _, r, l.set (S.r.getD v 0) (v : Int), rfl, by rw [n1]; rfl, n2, fun w hw => h2 w (List.mem_cons_of_mem _ hw), o7.more g8, h3, by rw [List.length_set]; exact h4⟩
  · cases path' with
    | cons v r =>
      have e : (v : Int) = -1 := by simpa [verOf] using e
      omega
    | nil =>
      have o5 := o4.more g5
      refine s_retO (W := W5) o5 hp rfl fun r W6 g6 r6 => k r W6 g6 ?_
      rw [← h3]
      exact r6
abbrev sp_Chains_init (K : PySem.W.Frag) : Sp := MkSp (ι := List (List Nat) × List Nat × List Nat × Nat × Nat) (C_Chains K) (fun (c, h, L, n, place) => [dCosts c, .l (h.map dn), .l (L.map dn), dn place]) (fun (c, h, L, n, place) => Sq c n ∧ h.length ≤ c.length ∧ h.length ≤ 1000 ∧ n ≤ 1000 ∧ L.length = n ∧ place < c.length)
  (fun (c, h, L, n, place) E W a => Grow E W ∧ ∃ q : ChA, q.a = a ∧ ChO K q c h L n (startCS c L n place) W ∧ ∀ x ∈ q.M, E.h x = none)
theorem mak_Chains (T : Top K mg) : Mak P w K mg base 4 "Chains" (C_Chains K) (sp_Chains_init K) [] :=
  makOf (mk_Chains T) (gc_Chains T) (F_Chains_init T) sc_Chains_init (fun _ _ _ _ _ _ us hl => match us, hl with | [_, _, _, _, _], _ => rfl) (fun _ _ _ _ h => h.len fun _ => rfl) fun cdv A outer s H vs Q E hr h => by
  obtain ⟨⟨c, h, L, n, place⟩, Hf, H0, a, dx, us, rfl, q1, q2, q3, rfl, ok, ⟨v1, _, rfl, r1, v2, _, rfl, r2, v3, _, rfl, r3, v4, _, rfl, r4, rfl⟩, hp, k⟩ := h
  dsimp only at hp k
  obtain ⟨hs, h1, h2, h3, h4, h5⟩ := hp
  refine ⟨_, (pss_cons (ps_fld (pv 0) (pv 2) rfl)
        (pss_cons (ps_fld (pv 0) (pe_c (cal_changes_of T) hr (by decide) rfl (pa_cons (pv 1) (pa_cons (pv 2) (pa_cons (pe_callB (lenK K rfl) rfl (T_len T) b_len (pa_cons (pv 3) pa_nil)) pa_nil)))) rfl)
        (pss_cons (ps_fld (pv 0) (pe_lc (own := [("version", 5), ("limit", 6)]) (g := (gTup K 2 (gCons (gName 5) (gCons (gName 6) gNil)))) (tt := tYes) rfl sc_Chains_init.nd (pi_enumK K rfl rfl (T_enumerate T) (pa_cons (pv 3) pa_nil)) (blkOk_by (own := [("version", 5), ("limit", 6)]) (N := N_Chains_init) (sc := defScope s_Chains_init) (by decide +kernel)) (fun _ _ _ _ _ => (pg_tupK K rfl rfl (pgs_cons (pg_name (i := 5) sc_Chains_init.nd rfl (Or.inl rfl) (hf := Or.inr rfl)) (pgs_cons (pg_name (i := 6) sc_Chains_init.nd rfl (Or.inl rfl) (hf := Or.inr rfl)) pgs_nil)))) (fun _ _ _ _ _ => pts_nil) (fun _ _ _ _ _ => (pe_ifExp (pt_cmpR op_eq (pv 6) pe_int (nomark _)) pe_non (pe_ix (ixL K rfl) (pe_ix (ixL K rfl) (pv 1) (pv 4) (fun _ _ => rfl)) (pv 5) (fun _ _ => rfl))))) rfl)
        (pss_cons (ps_fld (pv 0) (pe_op op_rep (pe_lst (pa_cons (pe_gc rfl (g_NONE T)) pa_nil)) (pe_callB (lenK K rfl) rfl (T_len T) b_len (pa_cons (pv 3) pa_nil))) rfl)
        (pss_cons (ps_fld (pv 0) (pe_op op_rep (pe_lst (pa_cons (pv 4) pa_nil)) (pe_callB (lenK K rfl) rfl (T_len T) b_len (pa_cons (pv 3) pa_nil))) rfl)
        (pss_one (ps_fld (pv 0) (pv 3) rfl))))))), ?_⟩
  have o0 := OwnO.start (C := C_Chains K) ok q1 q2 q3
  refine s_newF o0 q1 rfl (cl_Chains T) (na_Chains_homes T) rfl rfl (by decide) (d := .v v2) (ev_own rfl) fun W1 o1 x1 => ?_
  dsimp only
  have g1 := o1.gr
  refine s_newV o1 q1 rfl (cl_Chains T) (na_Chains_changes T) rfl (by decide +kernel) (by decide) (ev_call (x := (c, h, n)) ⟨hs, h1, h2, h3⟩ (ea_cons (ev_var (up g1 r1) rfl) (ea_cons (ev_var (up g1 r2) rfl) (ea_cons ((ev_lenK (ev_var (up g1 r3) rfl)).is (by rw [List.length_map, h4])) ea_nil)))) fun vc W2 o2 rc x2 y2 => ?_
  dsimp only
  have g2 := o2.gr
  refine s_newVF o2 q1 rfl (cl_Chains T) (na_Chains_sums T) rfl (by decide +kernel) (by decide) (ef_lcE L dn (fun _ => true) (fun x => oD (if x.1 = 0 then none else some (costIn c place x.2))) (ev_var (up g2 r3) rfl) (by omega) fun i l v W9 g9 hx rx => ⟨et_yes, fun _ => ev_if (et_test (ev_op (rv_eqN (b := 0)) (ev_var rx rfl) ev_int)) (fun e => EvD.is ev_non (by show _ = oD (if l = 0 then none else some (costIn c place i)); rw [if_pos (of_decide_eq_true e)]; rfl)) (fun e => EvD.is (ev_op (rv_ix (at_nat (by rw [hs.at h5, ← h4]; exact (List.getElem?_eq_some_iff.mp hx).1))) (ev_op (rv_ix (row_at h5)) (ev_var (up (g2.trans g9) r1) rfl) (ev_var (up (g2.trans g9) r4) rfl)) (ev_var (W := W9) (d := dn i) rfl rfl)) (by show _ = oD (if l = 0 then none else some (costIn c place i)); rw [if_neg (of_decide_eq_false e)]; rfl))⟩) fun ps W3 o3 rs z3 x3 y3 => ?_
  dsimp only
  have g3 := o3.gr
  refine s_newVF o3 q1 rfl (cl_Chains T) (na_Chains_ahead T) rfl (by decide +kernel) (by decide) (ef_rep (x := .i (-1)) (n := n) (by omega) (ev_lst (ea_cons ev_int ea_nil) (by show 1 ≤ 10000000; decide)) ((ev_lenK (ev_var (up g3 r3) rfl)).is (by rw [List.length_map, h4]))) fun pa W4 o4 ra z4 x4 y4 => ?_
  dsimp only
  have g4 := o4.gr
  refine s_newVF o4 q1 rfl (cl_Chains T) (na_Chains_rows T) rfl (by decide +kernel) (by decide) (ef_rep (x := dn place) (n := n) (by omega) (ev_lst (ea_cons (ev_var (up g4 r4) rfl) ea_nil) (by show 1 ≤ 10000000; decide)) ((ev_lenK (ev_var (up g4 r3) rfl)).is (by rw [List.length_map, h4]))) fun pr W5 o5 rr z5 x5 y5 => ?_
  dsimp only
  refine s_newF o5 q1 rfl (cl_Chains T) (na_Chains_limits T) rfl (by decide +kernel) (by decide) (d := .v v3) (ev_own rfl) fun W6 o6 x6 => ?_
  obtain ⟨ws, i1, i2⟩ := o6.ex
  have nz : ∀ {Hp' : Hp} {p : Addr} {o : HO}, Hp' p = some o → Hp' p ≠ none := fun e => by rw [e]; exact fun e => nomatch e
  have hws : ws = [v2, vc, .ref ps, .ref pa, .ref pr, v3] := by
    obtain ⟨u1, _, rfl, j1, u2, _, rfl, j2, u3, _, rfl, j3, u4, _, rfl, j4, u5, _, rfl, j5, u6, _, rfl, j6, j7⟩ := i2
    have j7 : _ = [] := j7
    subst j7
    rw [show u1 = _ from j1, show u2 = _ from j2, show u3 = _ from j3, show u4 = _ from j4, show u5 = _ from j5, show u6 = _ from j6]
  subst hws
  obtain ⟨_, vs, es, f3, f3'⟩ := rs
  cases es
  obtain ⟨_, va, ea, f4, f4'⟩ := ra
  cases ea
  obtain ⟨_, vr, er, f5, f5'⟩ := rr
  cases er
  have f36 : W6.f ps = some (.lst vs) := x6 _ _ (x5 _ _ (x4 _ _ f3))
  have f46 : W6.f pa = some (.lst va) := x6 _ _ (x5 _ _ f4)
  have f56 : W6.f pr = some (.lst vr) := x6 _ _ f5
  have ns2 : W2.f ps = none := none_of o2.gr.fh z3
  have na3 : W3.f pa = none := none_of o3.gr.fh z4
  have nr4 : W4.f pr = none := none_of o4.gr.fh z5
  have na2 : W2.f pa = none := none_of x3 na3
  have nr3 : W3.f pr = none := none_of x4 nr4
  have nr2 : W2.f pr = none := none_of x3 nr3
  have d1 : ps ≠ pa := fun e => by rw [← e, f3] at na3; cases na3
  have d2 : ps ≠ pr := fun e => by rw [← e, f3] at nr3; cases nr3
  have d3 : pa ≠ pr := fun e => by rw [← e, f4] at nr4; cases nr4
  have n6 := o6.nf
  have a1 : a ≠ ps := fun e => by rw [e, f36] at n6; cases n6
  have a2 : a ≠ pa := fun e => by rw [e, f46] at n6; cases n6
  have a3 : a ≠ pr := fun e => by rw [e, f56] at n6; cases n6
  have f26 : Ex W2.f W6.f := x3.trans (x4.trans (x5.trans x6))
  refine k ⟨W2.f, W6.h⟩ ⟨⟨o2.gr.ff, f26.trans o6.gr.fh, o6.gr.hh, o2.gr.fr⟩, ⟨a, dx, ps, pa, pr, v2, vc, v3⟩, rfl, ⟨i1, Rep.mono o2.gr.ff _ _ r2, rc, Rep.mono o2.gr.ff _ _ r3, ?_, ?_, ?_, ns2, na2, nr2, ⟨d1, d2, d3, a1, a2, a3⟩, f26.trans o6.gr.fh, ?_⟩, ?_⟩
  · show W6.h ps = _
    rw [o6.gr.fh _ _ f36]
    refine congrArg some (congrArg HO.lst ?_)
    rw [(Reps.map_eq (f := fun x : Nat × Nat => oD (if x.1 = 0 then none else some (costIn c place x.2))) (g := fun x : Nat × Nat => oV (if x.1 = 0 then none else some (costIn c place x.2))) (fun a v => oD_rep _ _)).mp f3', List.filter_eq_self.mpr fun _ _ => rfl]
    show _ = (L.zipIdx.map _).map oV
    rw [List.map_map]
    rfl
  · show W6.h pa = _
    rw [o6.gr.fh _ _ f46]
    refine congrArg some (congrArg HO.lst ?_)
    rw [show (List.replicate n (D.i (-1))) = (List.replicate n (-1 : Int)).map D.i by rw [List.map_replicate]] at f4'
    exact Reps.ints.mp f4'
  · show W6.h pr = _
    rw [o6.gr.fh _ _ f56]
    refine congrArg some (congrArg HO.lst ?_)
    rw [show (List.replicate n (dn place)) = (List.replicate n place).map dn by rw [List.map_replicate]] at f5'
    exact Reps.nats.mp f5'
  · exact ⟨h4, by simp [startCS, h4], by simp [startCS], by simp [startCS], h2, h3⟩
  · intro x hx
    rcases List.mem_cons.mp hx with e | hx
    · subst e; exact none_of o2.gr.hh z3
    rcases List.mem_cons.mp hx with e | hx
    · subst e; exact none_of o3.gr.hh z4
    rcases List.mem_cons.mp hx with e | hx
    · subst e; exact none_of o4.gr.hh z5
    · cases hx
end
end Hm
end
section
set_option Elab.async false
set_option linter.all false
set_option maxRecDepth 100000
set_option maxHeartbeats 4000000
namespace Hm
open PySem PySem.Spec PyProof.Rows L2
open Vbjtah (costIn)
/-! ### the chains, plainly -/
theorem pmin_le : ∀ (xs : List (Int × Int)) (x : Int × Int), pmin x xs ∈ x :: xs ∧ ∀ z ∈ x :: xs, (pmin x xs).1 ≤ z.1 := by
  intro xs
  induction xs with
  | nil => intro x; exact ⟨List.mem_cons_self, fun z hz => by rw [List.mem_singleton.mp hz]; exact Int.le_refl _⟩
  | cons y ys ih =>
    intro x
    show pmin (if plt y x = true then y else x) ys ∈ x :: y :: ys ∧ ∀ z ∈ x :: y :: ys, (pmin (if plt y x = true then y else x) ys).1 ≤ z.1
    obtain ⟨i1, i2⟩ := ih (if plt y x = true then y else x)
    have hle : (if plt y x = true then y else x).1 ≤ x.1 ∧ (if plt y x = true then y else x).1 ≤ y.1 := by
      by_cases q : plt y x = true
      · rw [if_pos q]
        unfold plt at q
        by_cases e : y.1 = x.1
        · omega
        · rw [if_neg e] at q
          have := of_decide_eq_true q
          omega
      · rw [if_neg q]
        unfold plt at q
        by_cases e : y.1 = x.1
        · omega
        · rw [if_neg e] at q
          have : ¬ y.1 < x.1 := fun z => q (decide_eq_true z)
          omega
    have i0 := i2 _ List.mem_cons_self
    refine ⟨?_, fun z hz => ?_⟩
    · rcases List.mem_cons.mp i1 with e | e
      · rw [e]
        by_cases q : plt y x = true
        · rw [if_pos q]; exact List.mem_cons_of_mem _ List.mem_cons_self
        · rw [if_neg q]; exact List.mem_cons_self
      · exact List.mem_cons_of_mem _ (List.mem_cons_of_mem _ e)
    · rcases List.mem_cons.mp hz with e | e
      · rw [e]; omega
      · rcases List.mem_cons.mp e with e | e
        · rw [e]; omega
        · exact i2 z (List.mem_cons_of_mem _ e)
theorem rowsAt_mem {h : List Nat} {v i : Nat} : i ∈ rowsAt h v ↔ h[i]? = some v := by
  constructor
  · intro hp
    obtain ⟨h1, h2⟩ := rowsAt_lt hp
    rw [List.getD_eq_getElem?_getD, List.getElem?_eq_getElem h1] at h2
    rw [List.getElem?_eq_getElem h1]
    exact congrArg some h2
  · intro e
    refine List.mem_map.mpr ⟨(v, i), List.mem_filter.mpr ⟨?_, decide_eq_true rfl⟩, rfl⟩
    exact List.mem_zipIdx_iff_getElem?.mpr e
theorem rowsAt_load (h : List Nat) (v : Nat) : (rowsAt h v).length = load h v := by
  rw [← loadOf_eq]
  unfold rowsAt Vbjtah.loadOf
  rw [List.length_map]
  have : ∀ (l : List Nat) (k : Nat), ((l.zipIdx k).filter fun x => decide (x.1 = v)).length = (l.filter fun u => u == v).length := by
    intro l
    induction l with
    | nil => intro k; rfl
    | cons a l ih =>
      intro k
      rw [List.zipIdx_cons, List.filter_cons, List.filter_cons]
      by_cases e : a = v
      · subst e
        simp [ih]
      · simp [e, ih]
  exact this h 0
section
variable {cs : List (List Nat)} {h L : List Nat} {n : Nat}
theorem chg_some {v o : Nat} {q : Int × Int} (e : chg cs h v o = some q) : ∃ i, h[i]? = some v ∧ q = (costIn cs i o - costIn cs i v, (i : Int)) := by
  obtain ⟨i, h1, h2⟩ := cands_nat (chg_nat e)
  exact ⟨i, rowsAt_mem.mp h1, h2⟩
theorem chg_le {v o i : Nat} (hi : h[i]? = some v) : ∃ q, chg cs h v o = some q ∧ q.1 ≤ costIn cs i o - costIn cs i v := by
  have hm : (costIn cs i o - costIn cs i v, (i : Int)) ∈ cands cs h v o := List.mem_map.mpr ⟨i, rowsAt_mem.mpr hi, rfl⟩
  unfold chg
  cases q : cands cs h v o with
  | nil => rw [q] at hm; cases hm
  | cons x xs =>
    rw [q] at hm
    exact ⟨_, rfl, (pmin_le xs x).2 _ hm⟩
/-- the root is so many steps away -/
inductive Rk (a : List Int) : Nat → Nat → Prop
  | root {v : Nat} : a.getD v 0 = -1 → Rk a 0 v
  | step {k v u : Nat} : a.getD v 0 = (u : Int) → Rk a k u → Rk a (k + 1) v
theorem Rk.uniq {a : List Int} {k v : Nat} (h : Rk a k v) : ∀ {j : Nat}, Rk a j v → k = j := by
  induction h with
  | root e =>
    intro j h2
    cases h2 with
    | root _ => rfl
    | step e2 _ => rw [e] at e2; omega
  | step e _ ih =>
    intro j h2
    cases h2 with
    | root e2 => rw [e] at e2; omega
    | step e2 h3 =>
      rw [e] at e2
      have := Int.ofNat.inj e2
      subst this
      rw [ih h3]
structure ChI (cs : List (List Nat)) (h L : List Nat) (n : Nat) (S : CS) : Prop where
  ls : S.s.length = n
  la : S.a.length = n
  lr : S.r.length = n
  yes : ∀ v, v < n → 0 < L.getD v 0 → ∃ x, S.s.getD v none = some x
  no : ∀ v x, S.s.getD v none = some x → v < n ∧ 0 < L.getD v 0
  val : ∀ v x, S.s.getD v none = some x → (S.a.getD v 0 = -1 ∧ S.r.getD v 0 = h.length ∧ x = costIn cs h.length v) ∨ ∃ (u : Nat) (y : Int), S.a.getD v 0 = (u : Int) ∧ h[S.r.getD v 0]? = some u ∧ S.s.getD u none = some y ∧ y + costIn cs (S.r.getD v 0) v - costIn cs (S.r.getD v 0) u ≤ x
  low : ∀ v x, S.s.getD v none = some x → dist_ n (costIn cs) h v ≤ x
  top : ∀ v x, S.s.getD v none = some x → x ≤ costIn cs h.length v
  rt : ∀ v x, S.s.getD v none = some x → ∃ k, Rk S.a k v
theorem getD_set {α : Type} {l : List α} {i j : Nat} {x d : α} (h : i < l.length) : (l.set i x).getD j d = if i = j then x else l.getD j d := by
  rw [List.getD_eq_getElem?_getD, List.getElem?_set]
  by_cases e : i = j
  · subst e
    rw [if_pos rfl, if_pos rfl, if_pos h]
    rfl
  · rw [if_neg e, if_neg e, List.getD_eq_getElem?_getD]
theorem start_I {p : Nat → Int} (C : Cert n (costIn cs) (fun v => L.getD v 0) h p) (hL : L.length = n) : ChI cs h L n (startCS cs L n h.length) := by
  have gs : ∀ v, (startCS cs L n h.length).s.getD v none = if v < n ∧ 0 < L.getD v 0 then some (costIn cs h.length v) else none := by
    intro v
    show (L.zipIdx.map fun x => if x.1 = 0 then none else some (costIn cs h.length x.2)).getD v none = _
    rw [List.getD_eq_getElem?_getD, List.getElem?_map, List.getElem?_zipIdx]
    by_cases hv : v < n
    · rw [List.getElem?_eq_getElem (by omega)]
      have e : L.getD v 0 = L[v] := by rw [List.getD_eq_getElem?_getD, List.getElem?_eq_getElem (by omega)]; rfl
      rw [e]
      show (if L[v] = 0 then none else some (costIn cs h.length (0 + v))) = _
      rw [Nat.zero_add]
      by_cases q : L[v] = 0
      · rw [if_pos q, if_neg (by omega)]
      · rw [if_neg q, if_pos ⟨hv, by omega⟩]
    · rw [List.getElem?_eq_none (by omega), if_neg (fun z => hv z.1)]
      rfl
  have one : ∀ v x, (startCS cs L n h.length).s.getD v none = some x → v < n ∧ 0 < L.getD v 0 ∧ x = costIn cs h.length v := by
    intro v x e
    rw [gs] at e
    by_cases q : v < n ∧ 0 < L.getD v 0
    · rw [if_pos q] at e
      exact ⟨q.1, q.2, (Option.some.inj e).symm⟩
    · rw [if_neg q] at e; cases e
  have rep : ∀ {α : Type} {a d : α} {v : Nat}, v < n → (List.replicate n a).getD v d = a := by
    intro α a d v hv
    rw [List.getD_eq_getElem?_getD, List.getElem?_replicate, if_pos hv]
    rfl
  refine ⟨by simp [startCS, hL], by simp [startCS], by simp [startCS], fun v h1 h2 => ⟨_, by rw [gs, if_pos ⟨h1, h2⟩]⟩, fun v x e => ⟨(one v x e).1, (one v x e).2.1⟩, fun v x e => ?_, fun v x e => ?_, fun v x e => ?_, fun v x e => ?_⟩
  · obtain ⟨h1, h2, h3⟩ := one v x e
    exact .inl ⟨rep h1, rep h1, h3⟩
  · rw [(one v x e).2.2]; exact dist_first
  · rw [(one v x e).2.2]; exact Int.le_refl _
  · exact ⟨0, .root (rep (one v x e).1)⟩
/-- what a step does: nothing, or a chain to o becomes cheaper -/
theorem better_is {S : CS} {v o : Nat} : (better (chg cs h) L S v o = (S, false) ∧ ∀ x, S.s.getD v none = some x → 0 < L.getD o 0 → ∀ i, h[i]? = some v → ∃ y, S.s.getD o none = some y ∧ y ≤ x + (costIn cs i o - costIn cs i v)) ∨
    ∃ x i, S.s.getD v none = some x ∧ 0 < L.getD o 0 ∧ h[i]? = some v ∧ better (chg cs h) L S v o = (⟨S.s.set o (some (x + (costIn cs i o - costIn cs i v))), S.a.set o (v : Int), S.r.set o i⟩, true) ∧ (∀ y, S.s.getD o none = some y → x + (costIn cs i o - costIn cs i v) < y) ∧
      ∀ j, h[j]? = some v → costIn cs i o - costIn cs i v ≤ costIn cs j o - costIn cs j v := by
  unfold better
  cases q1 : S.s.getD v none with
  | none => exact .inl ⟨rfl, fun x e => by cases e⟩
  | some x =>
    by_cases q2 : L.getD o 0 = 0
    · refine .inl ⟨?_, fun _ _ z => by omega⟩
      show (if L.getD o 0 = 0 then (S, false) else _) = _
      rw [if_pos q2]
    · cases q3 : chg cs h v o with
      | none =>
        refine .inl ⟨?_, fun _ _ _ i hi => ?_⟩
        · show (if L.getD o 0 = 0 then (S, false) else _) = _
          rw [if_neg q2]
        · obtain ⟨q, e, _⟩ := chg_le (cs := cs) (o := o) hi
          rw [q3] at e
          cases e
      | some q =>
        obtain ⟨i, hi, eq⟩ := chg_some q3
        have least : ∀ j, h[j]? = some v → q.1 ≤ costIn cs j o - costIn cs j v := fun j hj => by
          obtain ⟨q', e, l⟩ := chg_le (cs := cs) (o := o) hj
          rw [q3] at e
          cases e
          exact l
        have q0 : q.1 = costIn cs i o - costIn cs i v := by rw [eq]
        have q9 : q.2.toNat = i := by rw [eq]; exact Int.toNat_natCast i
        show (if L.getD o 0 = 0 then (S, false) else (if (match S.s.getD o none with | some y => decide (y ≤ x + q.1) | none => false) = true then (S, false) else (⟨S.s.set o (some (x + q.1)), S.a.set o (v : Int), S.r.set o q.2.toNat⟩, true))) = (S, false) ∧ _ ∨ ∃ x' i', _ ∧ _ ∧ _ ∧ (if L.getD o 0 = 0 then (S, false) else (if (match S.s.getD o none with | some y => decide (y ≤ x + q.1) | none => false) = true then (S, false) else (⟨S.s.set o (some (x + q.1)), S.a.set o (v : Int), S.r.set o q.2.toNat⟩, true))) = _ ∧ _
        rw [if_neg q2]
        cases q4 : S.s.getD o none with
        | none =>
          refine .inr ⟨x, i, rfl, by omega, hi, ?_, fun y e => (by cases e), fun j hj => by rw [← q0]; exact least j hj⟩
          show (if false = true then _ else _) = _
          rw [if_neg (by decide), q0, q9]
        | some y =>
          show (if decide (y ≤ x + q.1) = true then _ else _) = _ ∧ _ ∨ ∃ x' i', _ ∧ _ ∧ _ ∧ (if decide (y ≤ x + q.1) = true then _ else _) = _ ∧ _
          by_cases q5 : y ≤ x + q.1
          · refine .inl ⟨by rw [if_pos (decide_eq_true q5)], fun x' e' _ j hj => ⟨y, rfl, ?_⟩⟩
            cases e'
            have := least j hj
            omega
          · refine .inr ⟨x, i, rfl, by omega, hi, by rw [if_neg (fun z => q5 (of_decide_eq_true z)), q0, q9], fun y' e' => ?_, fun j hj => by rw [← q0]; exact least j hj⟩
            cases e'
            omega
end
end Hm
end
section
set_option Elab.async false
set_option linter.all false
set_option maxRecDepth 100000
set_option maxHeartbeats 4000000
namespace Hm
open PySem PySem.Spec PyProof.Rows L2
open Vbjtah (costIn)
section
variable {cs : List (List Nat)} {h L : List Nat} {n : Nat} {p : Nat → Int}
def Below (S S' : CS) : Prop := ∀ w x, S.s.getD w none = some x → ∃ x', S'.s.getD w none = some x' ∧ x' ≤ x
theorem Below.refl (S : CS) : Below S S := fun w x e => ⟨x, e, Int.le_refl _⟩
theorem Below.trans {S S1 S2 : CS} (a : Below S S1) (b : Below S1 S2) : Below S S2 := fun w x e => by
  obtain ⟨x', e', l⟩ := a w x e
  obtain ⟨x2, e2, l2⟩ := b w x' e'
  exact ⟨x2, e2, by omega⟩
theorem better_I (C : Cert n (costIn cs) (fun v => L.getD v 0) h p) {S : CS} (I : ChI cs h L n S) {v o : Nat} (hv : v < n) (ho : o < n) (hne : v ≠ o) : ChI cs h L n (better (chg cs h) L S v o).1 ∧ Below S (better (chg cs h) L S v o).1 ∧
    (∀ x, S.s.getD v none = some x → 0 < L.getD o 0 → ∀ i, h[i]? = some v → ∃ y, (better (chg cs h) L S v o).1.s.getD o none = some y ∧ y ≤ x + (costIn cs i o - costIn cs i v)) ∧ ((better (chg cs h) L S v o).2 = false → (better (chg cs h) L S v o).1 = S) := by
  rcases better_is (cs := cs) (h := h) (L := L) (S := S) (v := v) (o := o) with ⟨e, r⟩ | ⟨x, i, sx, Lo, hi, e, lt, least⟩
  · rw [e]
    exact ⟨I, .refl S, r, fun _ => rfl⟩
  · rw [e]
    obtain ⟨y0, sy⟩ := I.yes o ho Lo
    have lt0 := lt y0 sy
    obtain ⟨T, hT⟩ : ∃ T, x + (costIn cs i o - costIn cs i v) = T := ⟨_, rfl⟩
    rw [hT] at lt0 ⊢
    have gs : ∀ w, (S.s.set o (some T)).getD w none = if o = w then some T else S.s.getD w none := fun w => getD_set (by rw [I.ls]; exact ho)
    have ga : ∀ w, (S.a.set o (v : Int)).getD w 0 = if o = w then (v : Int) else S.a.getD w 0 := fun w => getD_set (by rw [I.la]; exact ho)
    have gr : ∀ w, (S.r.set o i).getD w 0 = if o = w then i else S.r.getD w 0 := fun w => getD_set (by rw [I.lr]; exact ho)
    have hap := C.happy i v hi o ho Lo
    have back : ∀ w z, S.s.getD w none = some z → (o = w ∧ z = y0) ∨ o ≠ w := fun w z ez => by
      by_cases q : o = w
      · subst q; rw [sy] at ez; cases ez; exact .inl ⟨rfl, rfl⟩
      · exact .inr q
    refine ⟨⟨by rw [List.length_set]; exact I.ls, by rw [List.length_set]; exact I.la, by rw [List.length_set]; exact I.lr, fun w h1 h2 => ?_, fun w z ez => ?_, fun w z ez => ?_, fun w z ez => ?_, fun w z ez => ?_, fun w z ez => ?_⟩, fun w z ez => ?_, fun x' ex' _ j hj => ?_, fun q => by cases q⟩
    · show ∃ z, (S.s.set o (some T)).getD w none = some z
      rw [gs]
      by_cases q : o = w
      · rw [if_pos q]; exact ⟨_, rfl⟩
      · rw [if_neg q]; exact I.yes w h1 h2
    · have ez : (S.s.set o (some T)).getD w none = some z := ez
      rw [gs] at ez
      by_cases q : o = w
      · subst q; exact ⟨ho, Lo⟩
      · rw [if_neg q] at ez; exact I.no w z ez
    · have ez : (S.s.set o (some T)).getD w none = some z := ez
      show ((S.a.set o (v : Int)).getD w 0 = -1 ∧ (S.r.set o i).getD w 0 = h.length ∧ z = costIn cs h.length w) ∨ ∃ (u : Nat) (y : Int), (S.a.set o (v : Int)).getD w 0 = (u : Int) ∧ h[(S.r.set o i).getD w 0]? = some u ∧ (S.s.set o (some T)).getD u none = some y ∧ y + costIn cs ((S.r.set o i).getD w 0) w - costIn cs ((S.r.set o i).getD w 0) u ≤ z
      rw [gs] at ez
      rw [ga, gr]
      by_cases q : o = w
      · subst q
        rw [if_pos rfl] at ez
        cases ez
        rw [if_pos rfl, if_pos rfl]
        exact .inr ⟨v, x, rfl, hi, by rw [gs, if_neg (Ne.symm hne)]; exact sx, by omega⟩
      · rw [if_neg q] at ez
        rw [if_neg q, if_neg q]
        rcases I.val w z ez with q1 | ⟨u, y, q1, q2, q3, q4⟩
        · exact .inl q1
        · refine .inr ⟨u, if o = u then T else y, q1, q2, ?_, ?_⟩
          · rw [gs]
            by_cases q5 : o = u
            · rw [if_pos q5, if_pos q5]
            · rw [if_neg q5, if_neg q5]; exact q3
          · by_cases q5 : o = u
            · subst q5
              rw [sy] at q3
              cases q3
              rw [if_pos rfl]
              omega
            · rw [if_neg q5]; exact q4
    · have ez : (S.s.set o (some T)).getD w none = some z := ez
      rw [gs] at ez
      by_cases q : o = w
      · subst q
        rw [if_pos rfl] at ez
        cases ez
        have a := dist_settled C i v hi o ho
        have b := I.low v x sx
        omega
      · rw [if_neg q] at ez; exact I.low w z ez
    · have ez : (S.s.set o (some T)).getD w none = some z := ez
      rw [gs] at ez
      by_cases q : o = w
      · subst q
        rw [if_pos rfl] at ez
        cases ez
        have := I.top o y0 sy
        omega
      · rw [if_neg q] at ez; exact I.top w z ez
    · have ez : (S.s.set o (some T)).getD w none = some z := ez
      show ∃ k, Rk (S.a.set o (v : Int)) k w
      -- from v one does not come to o
      have far : ∀ k w, Rk S.a k w → ∀ z, S.s.getD w none = some z → z + p w < y0 + p o → Rk (S.a.set o (v : Int)) k w := by
        intro k w hk
        induction hk with
        | root e0 =>
          intro z ez hz
          rcases back _ z ez with ⟨q1, q2⟩ | q1
          · subst q1; omega
          · exact .root (by rw [ga, if_neg q1]; exact e0)
        | step e0 _ ih =>
          rename_i k w u _
          intro z ez hz
          rcases back w z ez with ⟨q1, q2⟩ | q1
          · subst q1; omega
          · rcases I.val w z ez with q2 | ⟨u', y, q2, q3, q4, q5⟩
            · rw [e0] at q2; omega
            · rw [e0] at q2
              have := Int.ofNat.inj q2
              subst this
              have hw := I.no w z ez
              have ha := C.happy _ u q3 w hw.1 hw.2
              exact .step (by rw [ga, if_neg q1]; exact e0) (ih y q4 (by omega))
      obtain ⟨kv, rv⟩ := I.rt v x sx
      have rv' := far kv v rv x sx (by omega)
      have ro : Rk (S.a.set o (v : Int)) (kv + 1) o := .step (by rw [ga, if_pos rfl]) rv'
      have all : ∀ k w, Rk S.a k w → ∃ k', Rk (S.a.set o (v : Int)) k' w := by
        intro k w hk
        induction hk with
        | root e0 =>
          rename_i w
          by_cases q : o = w
          · subst q; exact ⟨_, ro⟩
          · exact ⟨0, .root (by rw [ga, if_neg q]; exact e0)⟩
        | step e0 _ ih =>
          rename_i k w u _
          by_cases q : o = w
          · subst q; exact ⟨_, ro⟩
          · obtain ⟨k', r'⟩ := ih
            exact ⟨k' + 1, .step (by rw [ga, if_neg q]; exact e0) r'⟩
      rw [gs] at ez
      by_cases q : o = w
      · subst q; exact ⟨_, ro⟩
      · rw [if_neg q] at ez
        obtain ⟨k, hk⟩ := I.rt w z ez
        exact all k w hk
    · show ∃ x', (S.s.set o (some T)).getD w none = some x' ∧ x' ≤ z
      rw [gs]
      by_cases q : o = w
      · subst q
        rw [sy] at ez
        cases ez
        exact ⟨T, if_pos rfl, by omega⟩
      · rw [if_neg q]; exact ⟨z, ez, Int.le_refl _⟩
    · rw [sx] at ex'
      cases ex'
      refine ⟨T, ?_, ?_⟩
      · show (S.s.set o (some T)).getD o none = some T
        rw [gs, if_pos rfl]
      · have := least j hj
        omega
/-- what a round does for the ways out of some versions -/
def Eased (cs : List (List Nat)) (h L : List Nat) (S S' : CS) (v o : Nat) : Prop := v ≠ o → ∀ x, S.s.getD v none = some x → 0 < L.getD o 0 → ∀ i, h[i]? = some v → ∃ y, S'.s.getD o none = some y ∧ y ≤ x + (costIn cs i o - costIn cs i v)
theorem Eased.more {S S1 S2 : CS} {v o : Nat} (a : Eased cs h L S S1 v o) (b : Below S1 S2) : Eased cs h L S S2 v o := fun hne x e l i hi => by
  obtain ⟨y, e1, l1⟩ := a hne x e l i hi
  obtain ⟨y2, e2, l2⟩ := b o y e1
  exact ⟨y2, e2, by omega⟩
theorem Eased.less {S S1 S2 : CS} {v o : Nat} (b : Below S S1) (a : Eased cs h L S1 S2 v o) : Eased cs h L S S2 v o := fun hne x e l i hi => by
  obtain ⟨x1, e1, l1⟩ := b v x e
  obtain ⟨y2, e2, l2⟩ := a hne x1 e1 l i hi
  exact ⟨y2, e2, by omega⟩
theorem row_I (C : Cert n (costIn cs) (fun v => L.getD v 0) h p) {S : CS} (I : ChI cs h L n S) {v : Nat} (hv : v < n) (b : Bool) : ∀ m, m ≤ n → ChI cs h L n ((List.range m).foldl (betterB (chg cs h) L v) (S, b)).1 ∧ Below S ((List.range m).foldl (betterB (chg cs h) L v) (S, b)).1 ∧
    (∀ o, o < m → Eased cs h L S ((List.range m).foldl (betterB (chg cs h) L v) (S, b)).1 v o) ∧ (((List.range m).foldl (betterB (chg cs h) L v) (S, b)).2 = false → b = false ∧ ((List.range m).foldl (betterB (chg cs h) L v) (S, b)).1 = S) := by
  intro m
  induction m with
  | zero => intro _; exact ⟨I, .refl S, fun o ho => by omega, fun q => ⟨q, rfl⟩⟩
  | succ m ih =>
    intro hm
    obtain ⟨i1, i2, i3, i4⟩ := ih (by omega)
    rw [List.range_succ, List.foldl_append]
    obtain ⟨A, eA⟩ : ∃ A, (List.range m).foldl (betterB (chg cs h) L v) (S, b) = A := ⟨_, rfl⟩
    rw [eA] at i1 i2 i3 i4 ⊢
    show ChI cs h L n (betterB (chg cs h) L v A m).1 ∧ Below S (betterB (chg cs h) L v A m).1 ∧ (∀ o, o < m + 1 → Eased cs h L S (betterB (chg cs h) L v A m).1 v o) ∧ ((betterB (chg cs h) L v A m).2 = false → b = false ∧ (betterB (chg cs h) L v A m).1 = S)
    unfold betterB
    by_cases q : v = m
    · rw [if_pos q]
      refine ⟨i1, i2, fun o ho => ?_, i4⟩
      by_cases e : o = m
      · exact fun hne => absurd (by omega) hne
      · exact i3 o (by omega)
    · rw [if_neg q]
      obtain ⟨j1, j2, j3, j4⟩ := better_I C i1 hv (show m < n by omega) q
      refine ⟨j1, i2.trans j2, fun o ho => ?_, fun e => ?_⟩
      · by_cases e : o = m
        · subst e
          exact Eased.less i2 fun _ x ex l i hi => j3 x ex l i hi
        · exact (i3 o (by omega)).more j2
      · have e' : (A.2 || (better (chg cs h) L A.1 v m).2) = false := e
        rw [Bool.or_eq_false_iff] at e'
        obtain ⟨k1, k2⟩ := i4 e'.1
        exact ⟨k1, by rw [show (better (chg cs h) L A.1 v m).1 = A.1 from j4 e'.2]; exact k2⟩
theorem go_I (C : Cert n (costIn cs) (fun v => L.getD v 0) h p) {S : CS} (I : ChI cs h L n S) : ChI cs h L n (goOn (chg cs h) L n S).1 ∧ Below S (goOn (chg cs h) L n S).1 ∧ (∀ v o, v < n → o < n → Eased cs h L S (goOn (chg cs h) L n S).1 v o) ∧ ((goOn (chg cs h) L n S).2 = false → (goOn (chg cs h) L n S).1 = S) := by
  have key : ∀ m, m ≤ n → ChI cs h L n ((List.range m).foldl (goRow (chg cs h) L n) (S, false)).1 ∧ Below S ((List.range m).foldl (goRow (chg cs h) L n) (S, false)).1 ∧ (∀ v o, v < m → o < n → Eased cs h L S ((List.range m).foldl (goRow (chg cs h) L n) (S, false)).1 v o) ∧ (((List.range m).foldl (goRow (chg cs h) L n) (S, false)).2 = false → ((List.range m).foldl (goRow (chg cs h) L n) (S, false)).1 = S) := by
    intro m
    induction m with
    | zero => intro _; exact ⟨I, .refl S, fun v o hv => by omega, fun _ => rfl⟩
    | succ m ih =>
      intro hm
      obtain ⟨i1, i2, i3, i4⟩ := ih (by omega)
      rw [List.range_succ, List.foldl_append]
      obtain ⟨A, eA⟩ : ∃ A, (List.range m).foldl (goRow (chg cs h) L n) (S, false) = A := ⟨_, rfl⟩
      rw [eA] at i1 i2 i3 i4 ⊢
      obtain ⟨j1, j2, j3, j4⟩ := row_I C i1 (show m < n by omega) A.2 n (Nat.le_refl _)
      show ChI cs h L n (goRow (chg cs h) L n A m).1 ∧ Below S (goRow (chg cs h) L n A m).1 ∧ (∀ v o, v < m + 1 → o < n → Eased cs h L S (goRow (chg cs h) L n A m).1 v o) ∧ ((goRow (chg cs h) L n A m).2 = false → (goRow (chg cs h) L n A m).1 = S)
      unfold goRow
      refine ⟨j1, i2.trans j2, fun v o hv ho => ?_, fun e => ?_⟩
      · by_cases q : v = m
        · subst q; exact Eased.less i2 (j3 o ho)
        · exact (i3 v o (by omega) ho).more j2
      · obtain ⟨k1, k2⟩ := j4 e
        have k2 : ((List.range n).foldl (betterB (chg cs h) L m) A).1 = A.1 := k2
        rw [k2]; exact i4 k1
  exact key n (Nat.le_refl _)
def sv (S : CS) (v : Nat) : Int := (S.s.getD v none).getD 0
def Closed (cs : List (List Nat)) (h L : List Nat) (n : Nat) (S : CS) : Prop := ∀ i v, h[i]? = some v → ∀ w, w < n → 0 < L.getD w 0 → sv S w ≤ sv S v + costIn cs i w - costIn cs i v
def Upto (cs : List (List Nat)) (h : List Nat) (n : Nat) (S : CS) (j : Nat) : Prop := ∀ w x, S.s.getD w none = some x → x ≤ (roundsOf n (costIn cs) h j (firstWay (costIn cs) h) w).cost
theorem sv_of {S : CS} {v : Nat} {x : Int} (e : S.s.getD v none = some x) : sv S v = x := by unfold sv; rw [e]; rfl
theorem upto_next (C : Cert n (costIn cs) (fun v => L.getD v 0) h p) {S : CS} (I : ChI cs h L n S) {j : Nat} (U : Upto cs h n S j) : Upto cs h n (goOn (chg cs h) L n S).1 (j + 1) := by
  obtain ⟨g1, g2, g3, _⟩ := go_I C I
  intro w x e
  rw [rounds_succ]
  obtain ⟨hw, Lw⟩ := g1.no w x e
  obtain ⟨x0, e0⟩ := I.yes w hw Lw
  obtain ⟨x', e', l'⟩ := g2 w x0 e0
  rw [e] at e'
  cases e'
  have u0 := U w x0 e0
  rcases round_is (n := n) (c := costIn cs) (h := h) (W := roundsOf n (costIn cs) h j (firstWay (costIn cs) h)) (w := w) with q | ⟨v, i, hv, hi, q, _⟩
  · rw [q]; omega
  · rw [q]
    show x ≤ (roundsOf n (costIn cs) h j (firstWay (costIn cs) h) v).cost + costIn cs i w - costIn cs i v
    by_cases ev : v = w
    · subst ev; omega
    · obtain ⟨xv, exv⟩ := I.yes v hv (C.fits.pos (List.mem_of_getElem? hi))
      obtain ⟨y, ey, ly⟩ := g3 v w hv hw ev xv exv Lw i hi
      rw [e] at ey
      cases ey
      have := U v xv exv
      omega
theorem settle_I (C : Cert n (costIn cs) (fun v => L.getD v 0) h p) : ∀ (k j : Nat) (S : CS), j + k = n → ChI cs h L n S → Upto cs h n S j → ChI cs h L n (settle (chg cs h) L n k S) ∧ Closed cs h L n (settle (chg cs h) L n k S) := by
  intro k
  induction k with
  | zero =>
    intro j S hj I U
    refine ⟨I, fun i v hi w hw Lw => ?_⟩
    have e : j = n := by omega
    subst e
    have hv := C.fits.lt v (List.mem_of_getElem? hi)
    obtain ⟨x, ex⟩ := I.yes w hw Lw
    obtain ⟨y, ey⟩ := I.yes v hv (C.fits.pos (List.mem_of_getElem? hi))
    show sv S w ≤ sv S v + costIn cs i w - costIn cs i v
    rw [sv_of ex, sv_of ey]
    have a : x ≤ dist_ j (costIn cs) h w := U w x ex
    have b := I.low v y ey
    have c := dist_settled C i v hi w hw
    omega
  | succ k ih =>
    intro j S hj I U
    obtain ⟨g1, g2, g3, g4⟩ := go_I C I
    show ChI cs h L n (if (goOn (chg cs h) L n S).2 = true then settle (chg cs h) L n k (goOn (chg cs h) L n S).1 else (goOn (chg cs h) L n S).1) ∧ Closed cs h L n (if (goOn (chg cs h) L n S).2 = true then settle (chg cs h) L n k (goOn (chg cs h) L n S).1 else (goOn (chg cs h) L n S).1)
    by_cases q : (goOn (chg cs h) L n S).2 = true
    · rw [if_pos q]
      exact ih (j + 1) _ (by omega) g1 (upto_next C I U)
    · rw [if_neg q]
      have q' := g4 (by simpa using q)
      refine ⟨g1, ?_⟩
      rw [q'] at g3 ⊢
      intro i v hi w hw Lw
      have hv := C.fits.lt v (List.mem_of_getElem? hi)
      by_cases ev : v = w
      · subst ev; omega
      · obtain ⟨y, ey⟩ := I.yes v hv (C.fits.pos (List.mem_of_getElem? hi))
        obtain ⟨z, ez, lz⟩ := g3 v w hv hw ev y ey Lw i hi
        rw [sv_of ez, sv_of ey]
        omega
/-- the chain back to the new row -/
theorem path_I {S : CS} (I : ChI cs h L n S) (D : Closed cs h L n S) {k v : Nat} (r : Rk S.a k v) : ∀ x, S.s.getD v none = some x → ∃ path, verOf path = (v : Int) ∧ Linked S path ∧ (∀ w ∈ path, w < n ∧ S.r.getD w 0 ≤ h.length) ∧ (∀ w ∈ path, ∃ j, j ≤ k ∧ Rk S.a j w) ∧ path.Nodup ∧ Tight (costIn cs) h (sv S) (path.map fun w => (S.r.getD w 0, w)) := by
  induction r with
  | root e =>
    rename_i v
    intro x ex
    rcases I.val v x ex with ⟨_, q2, q3⟩ | ⟨u, y, q, _⟩
    · exact ⟨[v], rfl, e, fun w hw => by rw [List.mem_singleton.mp hw]; exact ⟨(I.no v x ex).1, by omega⟩, fun w hw => ⟨0, Nat.le_refl _, by rw [List.mem_singleton.mp hw]; exact .root e⟩, by simp, q2, by rw [sv_of ex, q3, q2]⟩
    · rw [e] at q; omega
  | step e r ih =>
    rename_i k v u
    intro x ex
    rcases I.val v x ex with ⟨q, _⟩ | ⟨u', y, q1, q2, q3, q4⟩
    · rw [e] at q; omega
    · rw [e] at q1
      have := Int.ofNat.inj q1
      subst this
      obtain ⟨path, p1, p2, p3, p4, p5, p6⟩ := ih y q3
      obtain ⟨w0, rest, rfl⟩ : ∃ w rest, path = w :: rest := by
        cases path with
        | nil => exact p2.elim
        | cons w rest => exact ⟨w, rest, rfl⟩
      have : w0 = u := Int.ofNat.inj p1
      subst this
      obtain ⟨hv, Lv⟩ := I.no v x ex
      refine ⟨v :: w0 :: rest, rfl, ⟨e, p2⟩, fun w hw => ?_, fun w hw => ?_, List.nodup_cons.mpr ⟨fun hm => ?_, p5⟩, q2, ?_, p6⟩
      · rcases List.mem_cons.mp hw with q | q
        · subst q
          have := (List.getElem?_eq_some_iff.mp q2).1
          exact ⟨hv, by omega⟩
        · exact p3 w q
      · rcases List.mem_cons.mp hw with q | q
        · subst q; exact ⟨k + 1, Nat.le_refl _, .step e r⟩
        · obtain ⟨j, l, z⟩ := p4 w q
          exact ⟨j, by omega, z⟩
      · obtain ⟨j, l, z⟩ := p4 v hm
        have := z.uniq (.step e r)
        omega
      · have := D _ w0 q2 v hv Lv
        rw [sv_of ex, sv_of q3] at this ⊢
        omega
theorem set_agree : ∀ (ch : List (Nat × Nat)) (l1 : List Int) (l2 : List Nat) (k : Nat), l1.length = l2.length → (∀ i, i ≠ k → l1[i]? = l2[i]?.map fun (x : Nat) => (x : Int)) → (l1[k]? = (l2[k]?.map fun (x : Nat) => (x : Int)) ∨ k ∈ ch.map (·.1)) → ch.foldl (fun l x => l.set x.1 (x.2 : Int)) l1 = (ch.foldl (fun l x => l.set x.1 x.2) l2).map fun (x : Nat) => (x : Int) := by
  intro ch
  induction ch with
  | nil =>
    intro l1 l2 k hl h1 h2
    refine List.ext_getElem? fun i => ?_
    rw [List.foldl_nil, List.foldl_nil, List.getElem?_map]
    by_cases q : i = k
    · subst q
      rcases h2 with h2 | h2
      · exact h2
      · cases h2
    · exact h1 i q
  | cons a r ih =>
    intro l1 l2 k hl h1 h2
    rw [List.foldl_cons, List.foldl_cons]
    have e : ∀ i, (i ≠ k ∨ i = a.1) → (l1.set a.1 (a.2 : Int))[i]? = ((l2.set a.1 a.2)[i]?.map fun (x : Nat) => (x : Int)) := by
      intro i hi
      rw [List.getElem?_set, List.getElem?_set]
      by_cases q : a.1 = i
      · rw [if_pos q, if_pos q, hl]
        by_cases q2 : a.1 < l2.length
        · rw [if_pos q2, if_pos q2]; rfl
        · rw [if_neg q2, if_neg q2]; rfl
      · rw [if_neg q, if_neg q]
        rcases hi with hi | hi
        · exact h1 i hi
        · exact absurd hi.symm q
    refine ih _ _ k (by rw [List.length_set, List.length_set, hl]) (fun i hi => e i (.inl hi)) ?_
    rcases h2 with h2 | h2
    · left
      by_cases q : k = a.1
      · exact e k (.inr q)
      · rw [List.getElem?_set, List.getElem?_set, if_neg (Ne.symm q), if_neg (Ne.symm q)]
        exact h2
    · rcases List.mem_cons.mp h2 with q | q
      · exact .inl (e k (.inr q))
      · exact .inr q
theorem tight_new {c : Nat → Nat → Int} {d : Nat → Int} : ∀ {ch : List (Nat × Nat)}, Tight c h d ch → h.length ∈ ch.map (·.1)
  | [], q => q.elim
  | [(y, u)], q => by simp [q.1]
  | (y, u) :: (y', u') :: r, q => List.mem_cons_of_mem _ (tight_new (ch := (y', u') :: r) q.2.2)
/-- **One row more.** -/
theorem chain_step (C : Cert n (costIn cs) (fun v => L.getD v 0) h p) (hL : L.length = n) (hr : ∃ v, v < n ∧ load h v < L.getD v 0) {S : CS} (hS : S = settle (chg cs h) L n n (startCS cs L n h.length)) : endsOf S L h n ≠ [] ∧ ∃ path, verOf path = (endOf S L h n : Int) ∧ Linked S path ∧ (∀ v ∈ path, v < n ∧ S.r.getD v 0 ≤ h.length) ∧
    ∃ h' p', walkSet S path (h.map (fun (x : Nat) => (x : Int)) ++ [-1]) = h'.map (fun (x : Nat) => (x : Int)) ∧ h'.length = h.length + 1 ∧ Cert n (costIn cs) (fun v => L.getD v 0) h' p' := by
  have I0 := start_I (cs := cs) C hL
  have U0 : Upto cs h n (startCS cs L n h.length) 0 := fun w x e => I0.top w x e
  obtain ⟨I, D⟩ := settle_I C n 0 _ (by omega) I0 U0
  rw [← hS] at I D
  have room : ∀ v, v ∈ (List.range n).filter (roomAt S L h) ↔ v < n ∧ load h v < L.getD v 0 := by
    intro v
    rw [List.mem_filter, List.mem_range]
    unfold roomAt
    rw [rowsAt_load, Bool.and_eq_true, decide_eq_true_iff]
    constructor
    · rintro ⟨a, _, b⟩; exact ⟨a, b⟩
    · rintro ⟨a, b⟩
      obtain ⟨x, e⟩ := I.yes v a (by omega)
      exact ⟨a, by rw [e]; rfl, b⟩
  obtain ⟨v0, hv0, hr0⟩ := hr
  have hm0 : (sv S v0, (v0 : Int)) ∈ endsOf S L h n := List.mem_map.mpr ⟨v0, (room v0).mpr ⟨hv0, hr0⟩, rfl⟩
  obtain ⟨z, zs, hz⟩ : ∃ z zs, endsOf S L h n = z :: zs := by
    cases q : endsOf S L h n with
    | nil => rw [q] at hm0; cases hm0
    | cons z zs => exact ⟨z, zs, rfl⟩
  refine ⟨by rw [hz]; exact fun e => (nomatch e), ?_⟩
  obtain ⟨m1, m2⟩ := pmin_le zs z
  rw [← hz] at m1
  obtain ⟨t, ht, et⟩ := List.mem_map.mp m1
  obtain ⟨htn, htr⟩ := (room t).mp ht
  have eE : endOf S L h n = t := by
    unfold endOf
    rw [hz]
    show (pmin z zs).2.toNat = t
    rw [← et]
    exact Int.toNat_natCast t
  rw [eE]
  obtain ⟨x, ex⟩ := I.yes t htn (by omega)
  obtain ⟨k, hk⟩ := I.rt t x ex
  obtain ⟨path, p1, p2, p3, _, p5, p6⟩ := path_I I D hk x ex
  refine ⟨path, p1, p2, p3, applied h n (path.map fun w => (S.r.getD w 0, w)), fun v => max (p v) (sv S t - sv S v), ?_, ?_, ?_⟩
  · have e1 : walkSet S path (h.map (fun (x : Nat) => (x : Int)) ++ [-1]) = (path.map fun w => (S.r.getD w 0, w)).foldl (fun l x => l.set x.1 (x.2 : Int)) (h.map (fun (x : Nat) => (x : Int)) ++ [-1]) := by
      unfold walkSet
      rw [List.foldl_map]
    rw [e1]
    refine set_agree _ _ _ h.length (by simp) (fun i hi => ?_) (.inr (tight_new p6))
    by_cases q : i < h.length
    · rw [List.getElem?_append_left (by rw [List.length_map]; exact q), List.getElem?_append_left q, List.getElem?_map]
    · rw [List.getElem?_eq_none (by simp; omega), List.getElem?_eq_none (by simp; omega)]
      rfl
  · unfold applied
    rw [applied_len (h := h) (z := n), List.length_append]
    rfl
  · obtain ⟨w0, rest, rfl⟩ : ∃ w rest, path = w :: rest := by
      cases path with
      | nil => exact p2.elim
      | cons w rest => exact ⟨w, rest, rfl⟩
    have : w0 = t := Int.ofNat.inj p1
    subst this
    refine Cert.step C htn htr p6 ?_ (Nat.le_refl _) ?_ ?_ ?_
    · rw [← List.map_cons (f := fun w => (S.r.getD w 0, w)), List.map_map, show (((·.2) : Nat × Nat → Nat) ∘ fun w => (S.r.getD w 0, w)) = id from rfl, List.map_id]
      exact p5
    · intro w hw Lw
      obtain ⟨y, ey⟩ := I.yes w hw Lw
      rw [sv_of ey]
      exact I.top w y ey
    · intro i v hi w hw Lw
      exact D i v hi w hw Lw
    · intro v hv hlv
      have := m2 (sv S v, (v : Int)) (by rw [← hz]; exact List.mem_map.mpr ⟨v, (room v).mpr ⟨hv, hlv⟩, rfl⟩)
      rw [← et] at this
      exact this
end
end Hm
end
section
set_option Elab.async false
set_option linter.all false
set_option maxRecDepth 100000
set_option maxHeartbeats 4000000
namespace Hm
open Vbjtah (costIn leastTotal firstAssignment pricesOf assignFrom assignmentCost)
/-! ### least totals, plainly -/
def roomOf (L : List Nat) (n : Nat) : Nat := ((List.range n).map fun v => L.getD v 0).sum
theorem room_sum {L : List Nat} {n : Nat} (h : L.length = n) : roomOf L n = L.sum := by
  unfold roomOf
  refine congrArg List.sum (List.ext_getElem (by simp [h]) fun i h1 h2 => ?_)
  rw [List.getElem_map, List.getElem_range, List.getD_eq_getElem?_getD, List.getElem?_eq_getElem h2]
  rfl
theorem sum_set {x : Nat} : ∀ {L : List Nat} {v : Nat}, v < L.length → (L.set v x).sum + L.getD v 0 = L.sum + x
  | [], _, h => absurd h (Nat.not_lt_zero _)
  | a :: L, 0, _ => by
    show (x :: L).sum + a = (a :: L).sum + x
    rw [List.sum_cons, List.sum_cons]
    omega
  | a :: L, v + 1, h => by
    have := sum_set (x := x) (L := L) (v := v) (by simpa using h)
    show (a :: L.set v x).sum + L.getD v 0 = (a :: L).sum + x
    rw [List.sum_cons, List.sum_cons]
    omega
theorem setBy_len (L : List Nat) (v : Nat) (m : Int) : (setBy L v m).length = L.length := by unfold setBy; rw [List.length_set]
theorem room_dec {L : List Nat} {n v : Nat} (h : L.length = n) (hv : v < n) (hl : 0 < L.getD v 0) : roomOf (setBy L v (-1)) n + 1 = roomOf L n := by
  rw [room_sum h, room_sum (by rw [setBy_len, h])]
  unfold setBy
  have := sum_set (x := (((L.getD v 0 : Nat) : Int) + -1).toNat) (L := L) (v := v) (by omega)
  omega
theorem room_inc {L : List Nat} {n v : Nat} (h : L.length = n) (hv : v < n) : roomOf (setBy L v 1) n = roomOf L n + 1 := by
  rw [room_sum h, room_sum (by rw [setBy_len, h])]
  unfold setBy
  have := sum_set (x := (((L.getD v 0 : Nat) : Int) + 1).toNat) (L := L) (v := v) (by omega)
  omega
theorem setBy_dec (L : List Nat) (v : Nat) : setBy L v (-1) = L.set v (L.getD v 0 - 1) := by
  unfold setBy
  rw [show (((L.getD v 0 : Nat) : Int) + -1).toNat = L.getD v 0 - 1 by omega]
theorem setBy_inc (L : List Nat) (v : Nat) : setBy L v 1 = L.set v (L.getD v 0 + 1) := by
  unfold setBy
  rw [show (((L.getD v 0 : Nat) : Int) + 1).toNat = L.getD v 0 + 1 by omega]
def leastC (n : Nat) (cs : List (List Nat)) (L : List Nat) : Int := (leastTotal n cs L).getD 0
theorem least_is {n : Nat} {cs : List (List Nat)} {L : List Nat} (hs : cs.length ≤ roomOf L n) {g : List Nat} {q : Nat → Int} (C : Cert n (costIn cs) (fun v => L.getD v 0) g q) (hl : g.length = cs.length) : leastTotal n cs L = some (leastC n cs L) ∧ leastC n cs L = assignmentCost cs g := by
  have e := leastTotal_eq (n := n) (costs := cs) (limits := L) hs C hl
  unfold leastC
  rw [e, assignmentCost_eq]
  exact ⟨rfl, rfl⟩
theorem least_ex {n : Nat} {cs : List (List Nat)} {L : List Nat} (hs : cs.length ≤ roomOf L n) : ∃ g q, Cert n (costIn cs) (fun v => L.getD v 0) g q ∧ g.length = cs.length := by
  obtain ⟨g, q, _, e2, C⟩ := assignFrom_cert (n := n) (costs := cs) (limits := L) cs.length hs
  exact ⟨g, q, C, e2⟩
theorem costFrom_shift {own : List Nat} {rest : List (List Nat)} : ∀ (g : List Nat) (i : Nat), costFrom (costIn (own :: rest)) (i + 1) g = costFrom (costIn rest) i g
  | [], _ => rfl
  | v :: g, i => by
    show costIn (own :: rest) (i + 1) v + costFrom (costIn (own :: rest)) (i + 1 + 1) g = costIn rest i v + costFrom (costIn rest) (i + 1) g
    rw [costFrom_shift g (i + 1)]
    rfl
/-- the first row's home in a cheapest assignment leaves a cheapest assignment of the others -/
theorem least_tail {n : Nat} {own : List Nat} {rest : List (List Nat)} {L : List Nat} (hL : L.length = n) (hs : (own :: rest).length ≤ roomOf L n) : ∃ v, v < n ∧ 0 < L.getD v 0 ∧ costIn (own :: rest) 0 v + leastC n rest (setBy L v (-1)) = leastC n (own :: rest) L := by
  obtain ⟨g, q, C, hl⟩ := least_ex hs
  obtain ⟨v, g', rfl⟩ : ∃ v g', g = v :: g' := by
    cases g with
    | nil => cases hl
    | cons v g' => exact ⟨v, g', rfl⟩
  have hv := C.fits.lt v List.mem_cons_self
  have hp := C.fits.pos (v := v) List.mem_cons_self
  have hp : 0 < L.getD v 0 := hp
  refine ⟨v, hv, hp, ?_⟩
  have gl : ∀ w, (setBy L v (-1)).getD w 0 = if v = w then L.getD v 0 - 1 else L.getD w 0 := fun w => by
    rw [setBy_dec]
    exact getD_set (by omega)
  have C' : Cert n (costIn rest) (fun w => (setBy L v (-1)).getD w 0) g' q := by
    refine ⟨⟨fun w hw => C.fits.lt w (List.mem_cons_of_mem _ hw), fun w hw => ?_⟩, C.nn, fun w hw hq => ?_, fun x w hx u hu hlu => ?_⟩
    · show load g' w ≤ (setBy L v (-1)).getD w 0
      have a : load (v :: g') w ≤ L.getD w 0 := C.fits.fit w hw
      rw [load_cons] at a
      rw [gl]
      by_cases e : v = w
      · subst e
        rw [if_pos rfl] at a ⊢
        omega
      · rw [if_neg e] at a ⊢
        omega
    · show (setBy L v (-1)).getD w 0 ≤ load g' w
      have a : L.getD w 0 ≤ load (v :: g') w := C.full w hw hq
      rw [load_cons] at a
      rw [gl]
      by_cases e : v = w
      · subst e
        rw [if_pos rfl] at a ⊢
        omega
      · rw [if_neg e] at a ⊢
        omega
    · have hlu : 0 < (setBy L v (-1)).getD u 0 := hlu
      have lu : 0 < L.getD u 0 := by
        rw [gl] at hlu
        by_cases e : v = u
        · subst e; exact hp
        · rw [if_neg e] at hlu; exact hlu
      exact C.happy (x + 1) w hx u hu lu
  have hs' : rest.length ≤ roomOf (setBy L v (-1)) n := by
    have := room_dec hL hv hp
    rw [List.length_cons] at hs
    omega
  have e1 := (least_is hs C hl).2
  have e2 := (least_is hs' C' (by simpa using hl)).2
  rw [e1, e2, assignmentCost_eq, assignmentCost_eq]
  show costIn (own :: rest) 0 v + costFrom (costIn rest) 0 g' = costIn (own :: rest) 0 v + costFrom (costIn (own :: rest)) 1 g'
  rw [costFrom_shift]
def okHome (n : Nat) (cs : List (List Nat)) (L : List Nat) (left : Int) (v : Nat) : Bool := decide (0 < L.getD v 0) && decide (costIn cs 0 v + leastC n (cs.drop 1) (setBy L v (-1)) = left)
theorem first_step {n : Nat} {own : List Nat} {rest : List (List Nat)} {L : List Nat} (hL : L.length = n) (hs : (own :: rest).length ≤ roomOf L n) : ∃ v, v < n ∧ 0 < L.getD v 0 ∧ firstIx (okHome n (own :: rest) L (leastC n (own :: rest) L)) n = (v : Int) ∧ leastC n (own :: rest) L - costIn (own :: rest) 0 v = leastC n rest (setBy L v (-1)) ∧ firstAssignment n (own :: rest) L = v :: firstAssignment n rest (setBy L v (-1)) := by
  obtain ⟨w, hw, lw, ew⟩ := least_tail hL hs
  obtain ⟨v, hf⟩ : ∃ v, (List.range n).find? (okHome n (own :: rest) L (leastC n (own :: rest) L)) = some v := by
    rw [← Option.isSome_iff_exists, List.find?_isSome]
    refine ⟨w, List.mem_range.mpr hw, ?_⟩
    unfold okHome
    rw [Bool.and_eq_true]
    exact ⟨decide_eq_true lw, decide_eq_true ew⟩
  have hv := List.mem_range.mp (List.mem_of_find?_eq_some hf)
  have ok := List.find?_some hf
  unfold okHome at ok
  rw [Bool.and_eq_true] at ok
  have lv := of_decide_eq_true ok.1
  have ev : costIn (own :: rest) 0 v + leastC n rest (setBy L v (-1)) = leastC n (own :: rest) L := of_decide_eq_true ok.2
  refine ⟨v, hv, lv, by unfold firstIx; rw [hf], by omega, ?_⟩
  obtain ⟨g, q, C, hl⟩ := least_ex hs
  have e1 := (least_is hs C hl).1
  have e2 : ∀ u, u < n → 0 < L.getD u 0 → leastTotal n rest (L.set u (L.getD u 0 - 1)) = some (leastC n rest (setBy L u (-1))) := fun u hu lu => by
    have hs' : rest.length ≤ roomOf (setBy L u (-1)) n := by
      have := room_dec hL hu lu
      rw [List.length_cons] at hs
      omega
    obtain ⟨g', q', C', hl'⟩ := least_ex hs'
    rw [← setBy_dec]
    exact (least_is hs' C' hl').1
  have e3 : (List.range n).find? (fun u => (if L.getD u 0 = 0 then none else (leastTotal n rest (L.set u (L.getD u 0 - 1))).map fun m => m + ((own.getD u 0 : Nat) : Int)).isSome && (if L.getD u 0 = 0 then none else (leastTotal n rest (L.set u (L.getD u 0 - 1))).map fun m => m + ((own.getD u 0 : Nat) : Int)) == leastTotal n (own :: rest) L) = some v := by
    rw [← hf]
    have congr : ∀ (l : List Nat) (f g : Nat → Bool), (∀ x ∈ l, f x = g x) → l.find? f = l.find? g := by
      intro l f g hfg
      induction l with
      | nil => rfl
      | cons a l ih =>
        rw [List.find?_cons, List.find?_cons, hfg a List.mem_cons_self, ih fun x hx => hfg x (List.mem_cons_of_mem _ hx)]
    refine congr _ _ _ fun u hu => ?_
    have hu := List.mem_range.mp hu
    unfold okHome
    by_cases q0 : L.getD u 0 = 0
    · rw [if_pos q0, decide_eq_false (by omega)]
      rfl
    · rw [if_neg q0, e2 u hu (by omega), e1, decide_eq_true (by omega), Bool.true_and]
      show (true && (some (leastC n rest (setBy L u (-1)) + ((own.getD u 0 : Nat) : Int)) == some (leastC n (own :: rest) L))) = decide (costIn (own :: rest) 0 u + leastC n rest (setBy L u (-1)) = leastC n (own :: rest) L)
      rw [Bool.true_and, Bool.eq_iff_iff, decide_eq_true_iff, beq_iff_eq]
      constructor
      · intro z
        have := Option.some.inj z
        show ((own.getD u 0 : Nat) : Int) + _ = _
        omega
      · intro z
        have z : ((own.getD u 0 : Nat) : Int) + leastC n rest (setBy L u (-1)) = leastC n (own :: rest) L := z
        exact congrArg some (by omega)
  show (((List.range n).find? (fun u => (if L.getD u 0 = 0 then none else (leastTotal n rest (L.set u (L.getD u 0 - 1))).map fun m => m + ((own.getD u 0 : Nat) : Int)).isSome && (if L.getD u 0 = 0 then none else (leastTotal n rest (L.set u (L.getD u 0 - 1))).map fun m => m + ((own.getD u 0 : Nat) : Int)) == leastTotal n (own :: rest) L)).getD 0) :: firstAssignment n rest (L.set (((List.range n).find? (fun u => (if L.getD u 0 = 0 then none else (leastTotal n rest (L.set u (L.getD u 0 - 1))).map fun m => m + ((own.getD u 0 : Nat) : Int)).isSome && (if L.getD u 0 = 0 then none else (leastTotal n rest (L.set u (L.getD u 0 - 1))).map fun m => m + ((own.getD u 0 : Nat) : Int)) == leastTotal n (own :: rest) L)).getD 0) (L.getD (((List.range n).find? (fun u => (if L.getD u 0 = 0 then none else (leastTotal n rest (L.set u (L.getD u 0 - 1))).map fun m => m + ((own.getD u 0 : Nat) : Int)).isSome && (if L.getD u 0 = 0 then none else (leastTotal n rest (L.set u (L.getD u 0 - 1))).map fun m => m + ((own.getD u 0 : Nat) : Int)) == leastTotal n (own :: rest) L)).getD 0) 0 - 1)) = _
  rw [e3, setBy_dec]
  rfl
end Hm
end
section
set_option Elab.async false
set_option linter.all false
set_option maxRecDepth 100000
set_option maxHeartbeats 4000000
namespace Hm
open PySem PySem.Spec PyProof.Rows L2
open C8 (Cal Met Mak pe_c pe_mt pe_mt0 pe_mk pe_gc)
open Vbjtah (versionCount edgesOf isBelow distance)
/-! ### the least homes, the first best ones, prices -/
open Vbjtah (costIn assignmentCost leastTotal firstAssignment pricesOf)
section
variable {K : PySem.W.Frag} {σ : L2.St} {W : Wd} {D0 : Ends} {ι : Type} {C : Addr} {args : ι → List D} {pre : ι → Prop} {post : ι → Wd → Wd → Addr → Prop} {E : XK} {tr : TA}
theorem s_mk {i : Nat} (x : ι) (hp : pre x) (ok : Ex W.f W.h) (ha : EvA tr σ W (args x)) (k : ∀ a W1 W2, Grow W W1 → post x W1 W2 a → D0.nx (σ.set i (some (.ref a))) W2.h) : tAsg (tMake C (MkSp C args pre post) [] E tr) (gName i) D0 σ W.h :=
  ha W (.refl ok) _ fun vs W1 g rs a dx h1 h2 h3 => ⟨x, W1.f, W1.h, a, dx, vs, by rw [List.append_nil], h1, h2, h3, rfl, g.fh, rs, hp, fun W' q => ⟨rfl, k a W1 W' g q⟩⟩
end
section
variable {P : Program} {w : World} {K : PySem.W.Frag} {mg : Str → Option Value} {base : Heap}
abbrev sp_least_homes (K : PySem.W.Frag) : Sp := fun vs H Q _ => ∃ (cs : List (List Nat)) (n : Nat) (L : List Nat) (Hf : Hp), Ex Hf H ∧ Reps Hf [dCosts cs, .l (L.map dn)] vs ∧ (Sq cs n ∧ cs.length ≤ 1000 ∧ n ≤ 1000 ∧ L.length = n ∧ cs.length ≤ roomOf L n) ∧
  ∀ r W' h' p', Grow ⟨Hf, H⟩ W' → Rep W'.f (.l (h'.map dn)) r → h'.length = cs.length → Cert n (costIn cs) (fun v => L.getD v 0) h' p' → Q r W'.h
theorem cal_least_homes (T : Top K mg) : Cal P w K mg base 6 "least_homes" (sp_least_homes K) [] :=
  calOf (F_least_homes T) (gf_least_homes T) sc_least_homes (fun _ _ _ _ _ _ us hl => match us, hl with | [_, _], _ => rfl) (fun _ _ _ _ h => by obtain ⟨_, _, _, _, _, r, _⟩ := h; exact r.len) fun cdv A outer s H vs Q E hr h => by
  obtain ⟨cs, n, L, Hf, ok, ⟨v0, _, rfl, r0, v1, _, rfl, r1, rfl⟩, ⟨hs, hc, hn, hL, hro⟩, k⟩ := h
  refine ⟨_, (pss_cons (ps_set (i := 2) sc_least_homes.nd rfl (Or.inl rfl) (pe_lst pa_nil))
        (pss_cons (ps_for PassesOwn.never rfl (pi_range1 rfl (T_range T) (pa_cons (pe_callB (lenK K rfl) rfl (T_len T) b_len (pa_cons (pv 0) pa_nil)) pa_nil)) (pg_name (i := 3) sc_least_homes.nd rfl (Or.inl rfl))
        (pss_cons (ps_set (i := 4) sc_least_homes.nd rfl (Or.inl rfl) (pe_mk (mak_Chains T) hr (by decide) rfl (pa_cons (pv 0) (pa_cons (pv 2) (pa_cons (pv 1) (pa_cons (pv 3) pa_nil))))))
        (pss_cons (ps_expr (pe_mt0 (met_Chains_settle T) hr (by decide) (pv 4)))
        (pss_one (ps_set (i := 2) sc_least_homes.nd rfl (Or.inl rfl) (pe_mt0 (met_Chains_homes_behind T) hr (by decide) (pv 4)))))))
        (pss_one (ps_ret (pv 2))))), ?_⟩
  refine s_set (W := ⟨Hf, H⟩) (d := .l []) (ev_lst ea_nil (by show 0 ≤ 10000000; decide)) ok fun v2 W1 g1 r2 => ?_
  dsimp only
  refine s_forR cs.length (ea_cons ((ev_lenK (ev_var (up g1 r0) rfl)).is (by rw [List.length_map])) ea_nil) (by omega) g1.fh fun W2 g2 => ⟨fun m σ' W' => ∃ x y vh h' p', σ' = [some v0, some v1, some vh, x, y] ∧ Grow ⟨Hf, H⟩ W' ∧ Rep W'.f (.l (h'.map dn)) vh ∧ h'.length = m ∧ Cert n (costIn cs) (fun v => L.getD v 0) h' p', ⟨none, none, v2, [], _, rfl, g1.trans g2, up g2 r2, rfl, cert_nil _ _ _⟩, ?_, ?_⟩
  · rintro m σ' W3 hm ⟨x, y, vh, h', p', rfl, g3, rh, rfl, C⟩
    refine s_mk (W := W3) (cs, h', L, n, h'.length) ⟨hs, by omega, by omega, hn, hL, hm⟩ g3.fh (ea_cons (ev_var (up g3 r0) rfl) (ea_cons (ev_var rh rfl) (ea_cons (ev_var (up g3 r1) rfl) (ea_cons (ev_var (W := W3) (d := dn h'.length) rfl rfl) ea_nil)))) fun a W4 W5 g4 ⟨g5, q, qa, O5, fresh⟩ => ?_
    subst qa
    dsimp only
    refine m_call (W := W5) rfl O5.ins (chNames_no (by decide +kernel) _) O5.ok ea_nil fun us W6 g6 e6 => ?_
    have e6 : us = [] := e6
    subst e6
    refine ⟨q, W6.f, cs, h', L, n, _, rfl, O5.more g6, fun W7 G7 O7 => ?_⟩
    obtain ⟨ce, path, c1, c2, c3, h2, p2, c4, c5, c6⟩ := chain_step C hL (room_is (t := 0) C.fits (by show h'.length < roomOf L n; omega)) rfl
    refine m_call (W := W7) rfl O7.ins (chNames_no (by decide +kernel) _) O7.ok ea_nil fun us W8 g8 e8 => ?_
    have e8 : us = [] := e8
    subst e8
    refine ⟨q, W8.f, cs, h', L, n, _, path, rfl, O7.more g8, ce, c1, c2, c3, fun r W9 g9 r9 => ?_⟩
    have gg : Grow W4 W7 := GrowM.own g5 ((g6.m q.M).trans G7) fresh
    refine ⟨W9, rfl, _, _, r, h2, p2, rfl, (g3.trans g4).trans (gg.trans (g8.trans g9)), ?_, c5, c6⟩
    rw [c4] at r9
    rw [dn_int]
    exact r9
  · rintro σ' W3 ⟨x, y, vh, h', p', rfl, g3, rh, hl, C⟩
    dsimp only
    exact s_ret (W := W3) (ev_var rh rfl) g3.fh fun r W4 g4 r4 => k r W4 h' p' (g3.trans g4) r4 hl C
abbrev sp_least_cost (K : PySem.W.Frag) : Sp := PuSp (ι := List (List Nat) × Nat × List Nat) (fun (cs, n, L) => [dCosts cs, .l (L.map dn)]) (fun (cs, n, L) => Sq cs n ∧ cs.length ≤ 1000 ∧ n ≤ 1000 ∧ L.length = n ∧ cs.length ≤ roomOf L n) (fun (cs, n, L) => .i (leastC n cs L))
theorem cal_least_cost (T : Top K mg) : Cal P w K mg base 7 "least_cost" (sp_least_cost K) [] :=
  calOf (F_least_cost T) (gf_least_cost T) sc_least_cost (fun _ _ _ _ _ _ us hl => match us, hl with | [_, _], _ => rfl) (fun _ _ _ _ h => h.len fun _ => rfl) fun cdv A outer s H vs Q E hr h => by
  obtain ⟨⟨cs, n, L⟩, Hf, ok, ⟨v0, _, rfl, r0, v1, _, rfl, r1, rfl⟩, hp, k⟩ := h
  try dsimp only at hp k
  refine ⟨_, (pss_one (ps_ret (pe_c (cal_homes_cost T) hr (by decide) rfl (pa_cons (pv 0) (pa_cons (pe_c (cal_least_homes T) hr (by decide) rfl (pa_cons (pv 0) (pa_cons (pv 1) pa_nil))) pa_nil))))), ?_⟩
  obtain ⟨hs, hc, hn, hL, hr⟩ := hp
  refine ⟨v0, rfl, v0, rfl, v1, rfl, cs, n, L, Hf, ok, ⟨v0, _, rfl, r0, v1, _, rfl, r1, rfl⟩, ⟨hs, hc, hn, hL, hr⟩, fun r W1 h' p' g1 rr hl C => ?_⟩
  refine ⟨(cs, n, h'), W1.f, g1.fh, ⟨v0, _, rfl, up g1 r0, r, _, rfl, rr, rfl⟩, ⟨hs, by omega, by omega, C.fits.lt⟩, fun x W2 g2 rx => ?_⟩
  refine k x W2 (g1.trans g2) ?_
  rw [(least_is hr C hl).2]
  exact rx
abbrev sp_first_home (K : PySem.W.Frag) : Sp := PuSp (ι := List (List Nat) × Nat × List Nat × Int) (fun (cs, n, L, left) => [dCosts cs, .l (L.map dn), .i left]) (fun (cs, n, L, left) => Sq cs n ∧ cs.length ≤ 1000 ∧ n ≤ 1000 ∧ L.length = n ∧ cs.length ≤ roomOf L n ∧ 0 < cs.length) (fun (cs, n, L, left) => .i (firstIx (okHome n cs L left) n))
theorem cal_first_home (T : Top K mg) : Cal P w K mg base 8 "first_home" (sp_first_home K) [] :=
  calOf (F_first_home T) (gf_first_home T) sc_first_home (fun _ _ _ _ _ _ us hl => match us, hl with | [_, _, _], _ => rfl) (fun _ _ _ _ h => h.len fun _ => rfl) fun cdv A outer s H vs Q E hr h => by
  obtain ⟨⟨cs, n, L, left⟩, Hf, ok, ⟨v0, _, rfl, r0, v1, _, rfl, r1, v2, _, rfl, r2, rfl⟩, hp, k⟩ := h
  try dsimp only at hp k
  refine ⟨_, (pss_cons (ps_for PassesOwn.never rfl (pi_enumK K rfl rfl (T_enumerate T) (pa_cons (pv 1) pa_nil)) (pg_tupK K rfl rfl (pgs_cons (pg_name (i := 3) sc_first_home.nd rfl (Or.inl rfl)) (pgs_cons (pg_name (i := 4) sc_first_home.nd rfl (Or.inl rfl)) pgs_nil)))
      (pss_one (ps_if (PW.pt (pw_and (pt_cmpR op_gt (pv 4) pe_int (nomark _)) (pw_and1 (pt_cmpR op_eq (pe_op op_add (pe_ix (ixL K rfl) (pe_ix (ixL K rfl) (pv 0) pe_int (fun _ _ => rfl)) (pv 3) (fun _ _ => rfl)) (pe_c (cal_least_cost T) hr (by decide) rfl (pa_cons (pe_slice (slL K rfl) (pv 0) (po_some pe_int) po_none) (pa_cons (pe_c (cal_changed T) hr (by decide) rfl (pa_cons (pv 1) (pa_cons (pv 3) (pa_cons (pe_un un_neg pe_int) pa_nil)))) pa_nil)))) (pv 2) (nomark _)))))
      (pss_one (ps_ret (pv 3)))
      pss_nil)))
      (pss_one (ps_ret (pe_gc rfl (g_NONE T))))), ?_⟩
  obtain ⟨hs, hc, hn, hL, hr, h0⟩ := hp
  refine s_forE (W := ⟨Hf, H⟩) L dn (ev_var r1 rfl) ok fun W2 g2 => ⟨fun m σ' W' => ∃ x y, σ' = [some v0, some v1, some v2, x, y] ∧ Grow W2 W' ∧ ∀ i, i < m → okHome n cs L left i = false, ⟨none, none, rfl, g2.rf, fun i hi => by omega⟩, fun m σ' W' ⟨_, _, _, q, _⟩ => ⟨q.ff, q.fh⟩, ?_, ?_⟩
  · rintro m l xv σ' W' W3 hl ⟨x, y, rfl, g3, hm⟩ g4 rx
    have a3 := g2.trans (g3.trans g4)
    have el : L.getD m 0 = l := by rw [List.getD_eq_getElem?_getD, hl]; rfl
    have hml : m < n := by have := (List.getElem?_eq_some_iff.mp hl).1; omega
    have sq1 : Sq (cs.drop 1) n := fun r hr' => hs r (List.mem_of_mem_drop hr')
    refine s_ifs (W := W3) (b := okHome n cs L left m) (EvT.is (et_and (et_test (ev_op (rv_gtN (b := 0)) (ev_var rx rfl) ev_int)) fun e => et_test (ev_op rv_eq (ev_op rv_add (ev_op (rv_ix (at_nat (by rw [hs.at h0]; exact hml))) (ev_op (rv_ix (row_at h0)) (ev_var (up a3 r0) rfl) ev_int) (ev_var (W := W3) (d := dn m) rfl rfl)) (ev_call (x := (cs.drop 1, n, setBy L m (-1))) ⟨sq1, by rw [List.length_drop]; omega, hn, by rw [setBy_len, hL], by
        have e := of_decide_eq_true e
        have := room_dec hL hml (by rw [el]; exact e)
        rw [List.length_drop]
        omega⟩ (ea_cons (EvD.is (ev_slice (ev_var (up a3 r0) rfl) (eo_some (m := ((1 : Nat) : Int)) ev_int) eo_none) (by rw [cut_from, ← List.map_drop])) (ea_cons (ev_call (x := (L, m, -1)) ⟨by omega, by have e := of_decide_eq_true e; omega⟩ (ea_cons (ev_var (up a3 r1) rfl) (ea_cons (ev_var (W := W3) (d := dn m) rfl rfl) (ea_cons (ev_neg ev_int) ea_nil)))) ea_nil)))) (ev_var (up a3 r2) rfl))) (by unfold okHome; rw [el]; rfl)) g4.fh (fun q W5 g5 => ?_) (fun q W5 g5 => ?_)
    · exact s_end (a3.trans g5) (EvD.is (ev_var (W := W5) (d := dn m) rfl rfl) (by rw [firstIx_hit hml q hm])) k
    · exact ⟨W5, rfl, _, _, rfl, (g3.trans g4).trans g5, all_next hm q⟩
  · rintro σ' W' ⟨x, y, rfl, g3, hm⟩
    dsimp only
    exact s_end (g2.trans g3) (EvD.is ev_int (by rw [firstIx_none (fun i hi => hm i (by omega))])) k
abbrev sp_best_homes (K : PySem.W.Frag) : Sp := PuSp (ι := List (List Nat) × Nat × List Nat) (fun (cs, n, L) => [dCosts cs, .l (L.map dn)]) (fun (cs, n, L) => Sq cs n ∧ cs.length ≤ 1000 ∧ n ≤ 1000 ∧ L.length = n ∧ cs.length ≤ roomOf L n) (fun (cs, n, L) => .l ((firstAssignment n cs L).map dn))
theorem cal_best_homes (T : Top K mg) : Cal P w K mg base 9 "best_homes" (sp_best_homes K) [] :=
  calOf (F_best_homes T) (gf_best_homes T) sc_best_homes (fun _ _ _ _ _ _ us hl => match us, hl with | [_, _], _ => rfl) (fun _ _ _ _ h => h.len fun _ => rfl) fun cdv A outer s H vs Q E hr h => by
  obtain ⟨⟨cs, n, L⟩, Hf, ok, ⟨v0, _, rfl, r0, v1, _, rfl, r1, rfl⟩, hp, k⟩ := h
  try dsimp only at hp k
  refine ⟨_, (pss_cons (ps_par (i := 2) (j := 3) rfl sc_best_homes.nd rfl rfl (by decide) rfl rfl (pa_cons (pe_c (cal_least_cost T) hr (by decide) rfl (pa_cons (pv 0) (pa_cons (pv 1) pa_nil))) (pa_cons (pe_lst pa_nil) pa_nil)) rfl)
      (pss_cons (ps_for PassesOwn.never rfl (pi_range1 rfl (T_range T) (pa_cons (pe_callB (lenK K rfl) rfl (T_len T) b_len (pa_cons (pv 0) pa_nil)) pa_nil)) (pg_name (i := 4) sc_best_homes.nd rfl (Or.inl rfl))
      (pss_cons (ps_set (i := 5) sc_best_homes.nd rfl (Or.inl rfl) (pe_c (cal_first_home T) hr (by decide) rfl (pa_cons (pe_slice (slL K rfl) (pv 0) (po_some (pv 4)) po_none) (pa_cons (pv 1) (pa_cons (pv 2) pa_nil)))))
      (pss_cons (ps_expr (pe_bm PySem.F.plainAttrs_list PySem.F.slot_list_append PySem.F.type_list_append mt_append (pv 3) (pa_cons (pv 5) pa_nil)))
      (pss_cons (ps_set (i := 2) sc_best_homes.nd rfl (Or.inl rfl) (pe_op op_sub (pv 2) (pe_ix (ixL K rfl) (pe_ix (ixL K rfl) (pv 0) (pv 4) (fun _ _ => rfl)) (pv 5) (fun _ _ => rfl))))
      (pss_one (ps_set (i := 1) sc_best_homes.nd rfl (Or.inl rfl) (pe_c (cal_changed T) hr (by decide) rfl (pa_cons (pv 1) (pa_cons (pv 5) (pa_cons (pe_un un_neg pe_int) pa_nil))))))))))
      (pss_one (ps_ret (pv 3))))), ?_⟩
  obtain ⟨hs, hc, hn, hL, hr⟩ := hp
  refine s_parNil2 (W := ⟨Hf, H⟩) (ev_call (x := (cs, n, L)) ⟨hs, hc, hn, hL, hr⟩ (ea_cons (ev_var r0 rfl) (ea_cons (ev_var r1 rfl) ea_nil))) ok fun vl p W1 g1 rl hp => ?_
  have rl : vl = .int (leastC n cs L) := rl
  subst rl
  dsimp only
  have o1 := Own.start g1.rf hp
  refine s_forR (W := ⟨W1.f, upd W1.h p (.lst [])⟩) cs.length (ea_cons ((ev_lenK (ev_var (up (g1.trans o1.gr) r0) rfl)).is (by rw [List.length_map])) ea_nil) (by omega) o1.gr.fh fun W2 g2 => ⟨fun m σ' W' => ∃ vL M fin x y, σ' = [some v0, some vL, some (.int (leastC n (cs.drop m) M)), some (.ref p), x, y] ∧ Own W1 p (List.map dn fin) W' ∧ Rep W'.f (.l (M.map dn)) vL ∧ M.length = n ∧ (cs.drop m).length ≤ roomOf M n ∧ fin.length = m ∧ fin ++ firstAssignment n (cs.drop m) M = firstAssignment n cs L, ⟨v1, L, [], none, none, rfl, o1.more g2, up ((g1.trans o1.gr).trans g2) r1, hL, hr, rfl, rfl⟩, ?_, ?_⟩
  · rintro m σ' W3 hm ⟨vL, M, fin, x, y, rfl, o3, rM, hM, hrm, hf, he⟩
    have a3 := g1.trans o3.gr
    obtain ⟨own, rest, hd⟩ : ∃ own rest, cs.drop m = own :: rest := ⟨_, _, List.drop_eq_getElem_cons hm⟩
    have hd1 : cs.drop (m + 1) = rest := by rw [← List.drop_drop, hd]; rfl
    have sqm : Sq (cs.drop m) n := fun r hr' => hs r (List.mem_of_mem_drop hr')
    rw [hd] at hrm
    obtain ⟨v, hv, lv, e1, e2, e3⟩ := first_step (n := n) hM hrm
    rw [hd] at he
    have cm : costIn cs m v = costIn (own :: rest) 0 v := by
      have : cs.getD m [] = own := by
        rw [List.getD_eq_getElem?_getD]
        have : (cs.drop m)[0]? = some own := by rw [hd]; rfl
        rw [List.getElem?_drop] at this
        rw [show m + 0 = m from rfl] at this
        rw [this]
        rfl
      show (((cs.getD m []).getD v 0 : Nat) : Int) = _
      rw [this]
      rfl
    refine s_set (W := W3) (d := dn v) (EvD.is (ev_call (x := (cs.drop m, n, M, leastC n (cs.drop m) M)) ⟨sqm, by rw [List.length_drop]; omega, hn, hM, by rw [hd]; exact hrm, by rw [hd]; exact Nat.succ_pos _⟩ (ea_cons (EvD.is (ev_slice (ev_var (up a3 r0) rfl) (eo_some (m := ((m : Nat) : Int)) (ev_var (W := W3) (d := dn m) rfl rfl)) eo_none) (by rw [cut_from, ← List.map_drop])) (ea_cons (ev_var rM rfl) (ea_cons (ev_var (d := .i (leastC n (cs.drop m) M)) rfl rfl) ea_nil)))) (by rw [hd]; exact congrArg D.i e1)) o3.gr.fh fun v5 W4 g4 r5 => ?_
    cases r5
    dsimp only
    have o4 := o3.more g4
    refine s_appO o4 hp rfl (ev_var (W := W4) (d := dn v) rfl rfl) (by rw [List.length_map]; omega) fun W5 o5 x5 => ?_
    dsimp only
    have a5 := g1.trans o5.gr
    refine s_set (W := W5) (d := .i (leastC n rest (setBy M v (-1)))) (EvD.is (ev_op rv_sub (ev_var (d := .i (leastC n (cs.drop m) M)) rfl rfl) (ev_op (rv_ix (at_nat (by rw [hs.at hm]; exact hv))) (ev_op (rv_ix (row_at hm)) (ev_var (up a5 r0) rfl) (ev_var (W := W5) (d := dn m) rfl rfl)) (ev_var (W := W5) (d := dn v) rfl rfl))) (by rw [← e2, hd]; exact congrArg (fun z => D.i (leastC n (own :: rest) M - z)) cm)) o5.gr.fh fun v6 W6 g6 r6 => ?_
    cases r6
    dsimp only
    have o6 := o5.more g6
    have rM6 : Rep W6.f (.l (M.map dn)) vL := Rep.mono (g4.ff.trans (x5.trans g6.ff)) _ _ rM
    refine s_set (ev_call (x := (M, v, -1)) ⟨by omega, by omega⟩ (ea_cons (ev_var rM6 rfl) (ea_cons (ev_var (W := W6) (d := dn v) rfl rfl) (ea_cons (ev_neg ev_int) ea_nil)))) o6.gr.fh fun v7 W7 g7 r7 => ?_
    refine ⟨W7, rfl, v7, setBy M v (-1), fin ++ [v], _, _, by rw [hd1]; rfl, by rw [List.map_append]; exact o6.more g7, r7, by rw [setBy_len, hM], ?_, by rw [List.length_append, hf]; rfl, ?_⟩
    · have := room_dec hM hv lv
      rw [List.length_cons] at hrm
      rw [hd1]
      omega
    · rw [hd1, ← he, e3, List.append_assoc]
      rfl
  · rintro σ' W3 ⟨vL, M, fin, x, y, rfl, o3, rM, hM, hrm, hf, he⟩
    rw [List.drop_eq_nil_of_le (Nat.le_refl _)] at he
    have he : fin = firstAssignment n cs L := by
      rw [← he]
      show fin = fin ++ []
      rw [List.append_nil]
    dsimp only
    exact s_retO o3 hp rfl fun r W4 g4 r4 => k r W4 (g1.trans g4) (by rw [← he]; exact r4)
abbrev sp_prices_of (K : PySem.W.Frag) : Sp := PuSp (ι := List (List Nat) × Nat × List Nat) (fun (cs, n, L) => [dCosts cs, .l (L.map dn)]) (fun (cs, n, L) => Sq cs n ∧ cs.length ≤ 1000 ∧ n ≤ 1000 ∧ L.length = n ∧ cs.length ≤ roomOf L n) (fun (cs, n, L) => .l ((pricesOf n cs L).map D.i))
theorem cal_prices_of (T : Top K mg) : Cal P w K mg base 8 "prices_of" (sp_prices_of K) [] :=
  calOf (F_prices_of T) (gf_prices_of T) sc_prices_of (fun _ _ _ _ _ _ us hl => match us, hl with | [_, _], _ => rfl) (fun _ _ _ _ h => h.len fun _ => rfl) fun cdv A outer s H vs Q E hr h => by
  obtain ⟨⟨cs, n, L⟩, Hf, ok, ⟨v0, _, rfl, r0, v1, _, rfl, r1, rfl⟩, hp, k⟩ := h
  try dsimp only at hp k
  refine ⟨_, (pss_cons (ps_set (i := 2) sc_prices_of.nd rfl (Or.inr rfl) (pe_c (cal_least_cost T) hr (by decide) rfl (pa_cons (pv 0) (pa_cons (pv 1) pa_nil))))
      (pss_one (ps_ret (pe_lc (own := [("version", 3)]) (g := gName 3) (tt := tYes) rfl sc_prices_of.nd (pi_range1 rfl (T_range T) (pa_cons (pe_callB (lenK K rfl) rfl (T_len T) b_len (pa_cons (pv 1) pa_nil)) pa_nil)) (blkOk_by (own := [("version", 3)]) (N := N_prices_of) (sc := defScope s_prices_of) (by decide +kernel)) (fun _ _ _ _ _ => (pg_name (i := 3) sc_prices_of.nd rfl (Or.inl rfl) (hf := Or.inr rfl))) (fun _ _ _ _ _ => pts_nil) (fun _ _ _ _ _ => (pe_op op_sub (pv 2) (pe_c (cal_least_cost T) hr (by decide) rfl (pa_cons (pv 0) (pa_cons (pe_c (cal_changed T) hr (by decide) rfl (pa_cons (pv 1) (pa_cons (pv 3) (pa_cons pe_int pa_nil)))) pa_nil))))))))), ?_⟩
  obtain ⟨hs, hc, hn, hL, hr⟩ := hp
  refine s_set (W := ⟨Hf, H⟩) (ev_call (x := (cs, n, L)) ⟨hs, hc, hn, hL, hr⟩ (ea_cons (ev_var r0 rfl) (ea_cons (ev_var r1 rfl) ea_nil))) ok fun v2 W1 g1 r2 => ?_
  dsimp only
  refine s_end g1 (EvD.is (ev_mapR n (fun v => .i (leastC n cs L - leastC n cs (setBy L v 1))) (ea_cons ((ev_lenK (ev_var (up g1 r1) rfl)).is (by rw [List.length_map, hL])) ea_nil) (by omega) fun v W2 g2 hv => ev_op rv_sub (ev_var (up g2 r2) rfl) (ev_call (x := (cs, n, setBy L v 1)) ⟨hs, hc, hn, by rw [setBy_len, hL], by show cs.length ≤ roomOf (setBy L v 1) n; have := room_inc hL hv; omega⟩ (ea_cons (ev_var (up (g1.trans g2) r0) rfl) (ea_cons (ev_call (x := (L, v, 1)) ⟨by show L.length ≤ 1000; omega, by show 0 ≤ ((L.getD v 0 : Nat) : Int) + 1; omega⟩ (ea_cons (ev_var (up (g1.trans g2) r1) rfl) (ea_cons (ev_var (W := W2) (d := dn v) rfl rfl) (ea_cons ev_int ea_nil)))) ea_nil)))) ?_) k
  unfold pricesOf
  rw [List.map_map]
  refine congrArg D.l (List.map_congr_left fun v hv => ?_)
  show _ = D.i ((leastTotal n cs L).getD 0 - (leastTotal n cs (L.set v (L.getD v 0 + 1))).getD 0)
  rw [← setBy_inc]
  rfl
end
end Hm
end
section
set_option Elab.async false
set_option linter.all false
set_option maxRecDepth 100000
set_option maxHeartbeats 4000000
namespace Hm
open PySem PySem.Spec PyProof.Rows L2
open C8 (Cal Met Mak pe_c pe_mt pe_mt0 pe_mk pe_gc)
open Vbjtah (versionCount edgesOf isBelow distance)
/-! ### rows -/
open Vbjtah (Mark homeOf usedMarks usedMark startMarks startMark newRow used)
abbrev VRow := Vbjtah.Row
def withinF (c : Int) (F : Nat) : Int := max (0 - (F : Int)) (min (F : Int) c)
def markedAt (t : Tr) (bs : List Bool) (v : Nat) : Bool := (edgesOf t).all fun e => isBelow t e v == bs.getD e false
theorem at_bool {l : List Bool} {j : Nat} (h : j < l.length) : (l.map D.b)[j]? = some (.b (l.getD j false)) := by
  rw [List.getElem?_map, List.getD_eq_getElem?_getD, List.getElem?_eq_getElem h]
  rfl
theorem edge_vc {t : Tr} {e : Nat} (h : e ∈ edgesOf t) : e < versionCount t := (mem_edges.mp h).2
/-- the flags and the counters as the program keeps them: the place 0 is not used -/
def flagsOf (ms : List Mark) : List Bool := true :: ms.map (·.isLower)
def countsOf (F : Nat) (ms : List Mark) : List Int := (F : Int) :: ms.map (·.counter)
theorem flags_at {t : Tr} {F : Nat} {ms : List Mark} {e : Nat} (ok : MarksOk t F ms) (he : e ∈ edgesOf t) : (flagsOf ms).getD e false = (mkAt ms e).isLower := by
  obtain ⟨h1, h2⟩ := mem_edges.mp he
  obtain ⟨i, rfl⟩ : ∃ i, e = i + 1 := ⟨e - 1, by omega⟩
  have hl := ok.len
  unfold versionCount at h2
  have hi : i < ms.length := by omega
  unfold mkAt flagsOf
  rw [List.getD_cons_succ, List.getD_eq_getElem?_getD, List.getElem?_map, Nat.add_sub_cancel, List.getD_eq_getElem?_getD, List.getElem?_eq_getElem hi]
  rfl
theorem counts_at {t : Tr} {F : Nat} {ms : List Mark} {e : Nat} (ok : MarksOk t F ms) (he : e ∈ edgesOf t) : (countsOf F ms).getD e 0 = (mkAt ms e).counter := by
  obtain ⟨h1, h2⟩ := mem_edges.mp he
  obtain ⟨i, rfl⟩ : ∃ i, e = i + 1 := ⟨e - 1, by omega⟩
  have hl := ok.len
  unfold versionCount at h2
  have hi : i < ms.length := by omega
  unfold mkAt countsOf
  rw [List.getD_cons_succ, List.getD_eq_getElem?_getD, List.getElem?_map, Nat.add_sub_cancel, List.getD_eq_getElem?_getD, List.getElem?_eq_getElem hi]
  rfl
theorem flags_len {t : Tr} {F : Nat} {ms : List Mark} (ok : MarksOk t F ms) : (flagsOf ms).length = versionCount t := by
  unfold flagsOf versionCount
  rw [List.length_cons, List.length_map, ok.len]
theorem counts_len {t : Tr} {F : Nat} {ms : List Mark} (ok : MarksOk t F ms) : (countsOf F ms).length = versionCount t := by
  unfold countsOf versionCount
  rw [List.length_cons, List.length_map, ok.len]
theorem marked_is {t : Tr} {F : Nat} {ms : List Mark} (ok : MarksOk t F ms) (v : Nat) : markedAt t (flagsOf ms) v = isHome t ms v := by
  unfold markedAt isHome
  rw [Bool.eq_iff_iff, List.all_eq_true, List.all_eq_true]
  constructor
  · intro h e he
    rw [← flags_at ok he]
    exact h e he
  · intro h e he
    rw [flags_at ok he]
    exact h e he
/-- versions are told by the sides of the edges -/
theorem sides_one {t : Tr} (w : Wf t) {u v : Nat} (hu : u < versionCount t) (hv : v < versionCount t) (h : ∀ e ∈ edgesOf t, isBelow t e u = isBelow t e v) : u = v := by
  have key : ∀ {a b : Nat}, a < versionCount t → b < versionCount t → (∀ e ∈ edgesOf t, isBelow t e a = isBelow t e b) → a ≤ b := by
    intro a b ha hb hab
    by_cases q : a = 0
    · omega
    · have h1 : isBelow t a a = true := (isBelow_iff w ha).mpr (ups_self w ha)
      rw [hab a (mem_edges.mpr ⟨by omega, ha⟩)] at h1
      exact ups_le w hb a ((isBelow_iff w hb).mp h1)
  exact Nat.le_antisymm (key hu hv h) (key hv hu fun e he => (h e he).symm)
theorem home_start {t : Tr} {F v : Nat} (w : Wf t) (hF : 1 ≤ F) (hv : v < versionCount t) : homeOf t (startMarks t F v) = v := by
  have ok := start_ok w hF hv
  obtain ⟨h1, h2⟩ := home_head w ok
  have hm := List.mem_of_getElem? h1
  obtain ⟨_, h3⟩ := List.mem_filter.mp hm
  unfold isHome at h3
  rw [List.all_eq_true] at h3
  refine sides_one w h2 hv fun e he => ?_
  have := h3 e he
  rw [beq_iff_eq] at this
  rw [this, show mkAt (startMarks t F v) e = startMark t F v e from mkAt_map he]
  unfold startMark
  cases isBelow t e v <;> rfl
def rwNames : List Str := ["number", "first", "home", "marks", "counters", "uses", "cost", "moves"]
/-- a row as an object that does not change for a while -/
def dRow (K : PySem.W.Frag) (t : Tr) (F : Nat) (r : VRow) : D := .o (C_Row K) rwNames [dn r.number, dn r.first, dn (homeOf t r.marks), .l ((flagsOf r.marks).map D.b), .l ((countsOf F r.marks).map D.i), .l (r.uses.map dn), dn r.cost, dn r.moves]
section
variable {K : PySem.W.Frag} {mg : Str → Option Value} {σ : L2.St} {W : Wd} {te : TE} {t : Tr} {F : Nat} {r : VRow}
theorem row_number (T : Top K mg) (h : EvD te σ W (dRow K t F r)) : EvD (tFld K te "number") σ W (dn r.number) := ev_fld 0 (cl_Row T) (na_Row_number T) h (by decide +kernel) rfl
theorem row_first (T : Top K mg) (h : EvD te σ W (dRow K t F r)) : EvD (tFld K te "first") σ W (dn r.first) := ev_fld 1 (cl_Row T) (na_Row_first T) h (by decide +kernel) rfl
theorem row_home (T : Top K mg) (h : EvD te σ W (dRow K t F r)) : EvD (tFld K te "home") σ W (dn (homeOf t r.marks)) := ev_fld 2 (cl_Row T) (na_Row_home T) h (by decide +kernel) rfl
theorem row_marks (T : Top K mg) (h : EvD te σ W (dRow K t F r)) : EvD (tFld K te "marks") σ W (.l ((flagsOf r.marks).map D.b)) := ev_fld 3 (cl_Row T) (na_Row_marks T) h (by decide +kernel) rfl
theorem row_counters (T : Top K mg) (h : EvD te σ W (dRow K t F r)) : EvD (tFld K te "counters") σ W (.l ((countsOf F r.marks).map D.i)) := ev_fld 4 (cl_Row T) (na_Row_counters T) h (by decide +kernel) rfl
theorem row_uses (T : Top K mg) (h : EvD te σ W (dRow K t F r)) : EvD (tFld K te "uses") σ W (.l (r.uses.map dn)) := ev_fld 5 (cl_Row T) (na_Row_uses T) h (by decide +kernel) rfl
theorem row_cost (T : Top K mg) (h : EvD te σ W (dRow K t F r)) : EvD (tFld K te "cost") σ W (dn r.cost) := ev_fld 6 (cl_Row T) (na_Row_cost T) h (by decide +kernel) rfl
theorem row_moves (T : Top K mg) (h : EvD te σ W (dRow K t F r)) : EvD (tFld K te "moves") σ W (dn r.moves) := ev_fld 7 (cl_Row T) (na_Row_moves T) h (by decide +kernel) rfl
end
def toldOf (ms : List Mark) : List Int := ms.flatMap fun m => [if m.isLower = true then 1 else 0, m.counter]
section
variable {P : Program} {w : World} {K : PySem.W.Frag} {mg : Str → Option Value} {base : Heap}
abbrev sp_within (K : PySem.W.Frag) : Sp := PuSp (ι := Int × Nat) (fun (c, F) => [.i c, dn F]) (fun (c, F) => True) (fun (c, F) => .i (withinF c F))
theorem cal_within (T : Top K mg) : Cal P w K mg base 1 "within" (sp_within K) [] :=
  calOf (F_within T) (gf_within T) sc_within (fun _ _ _ _ _ _ us hl => match us, hl with | [_, _], _ => rfl) (fun _ _ _ _ h => h.len fun _ => rfl) fun cdv A outer s H vs Q E hr h => by
  obtain ⟨⟨c, F⟩, Hf, ok, ⟨v0, _, rfl, r0, v1, _, rfl, r1, rfl⟩, hp, k⟩ := h
  try dsimp only at hp k
  refine ⟨_, (pss_one (ps_ret (pe_callB (call_max2 rfl) rfl (T_max T) b_max (pa_cons (pe_op op_sub pe_int (pv 1)) (pa_cons (pe_callB (call_min2 rfl) rfl (T_min T) b_min (pa_cons (pv 1) (pa_cons (pv 0) pa_nil))) pa_nil))))), ?_⟩
  exact s_ret (W := ⟨Hf, H⟩) (ev_max2 (ev_op rv_sub ev_int (ev_var r1 rfl)) (ev_min2 (ev_var r1 rfl) (ev_var r0 rfl))) ok k
abbrev sp_is_marked (K : PySem.W.Frag) : Sp := PuSp (ι := Tr × Nat × List Bool × Nat) (fun (t, F, bs, v) => [dTree K t F true, .l (bs.map D.b), dn v]) (fun (t, F, bs, v) => Wf t ∧ bs.length = versionCount t ∧ v < versionCount t) (fun (t, F, bs, v) => .b (markedAt t bs v))
theorem cal_is_marked (T : Top K mg) : Cal P w K mg base 2 "is_marked" (sp_is_marked K) [] :=
  calOf (F_is_marked T) (gf_is_marked T) sc_is_marked (fun _ _ _ _ _ _ us hl => match us, hl with | [_, _, _], _ => rfl) (fun _ _ _ _ h => h.len fun _ => rfl) fun cdv A outer s H vs Q E hr h => by
  obtain ⟨⟨t, F, bs, v⟩, Hf, ok, ⟨v0, _, rfl, r0, v1, _, rfl, r1, v2, _, rfl, r2, rfl⟩, hp, k⟩ := h
  try dsimp only at hp k
  refine ⟨_, (pss_one (ps_ret (pe_callB (allK K rfl rfl) rfl (T_all T) b_all (pa_cons (pe_lc (own := [("edge", 3)]) (g := gName 3) (tt := tYes) rfl sc_is_marked.nd (pi_listK K rfl (pe_mt0 (met_Tree_edges T) hr (by decide) (pv 0))) (blkOk_by (own := [("edge", 3)]) (N := N_is_marked) (sc := defScope s_is_marked) (by decide +kernel)) (fun _ _ _ _ _ => (pg_name (i := 3) sc_is_marked.nd rfl (Or.inl rfl) (hf := Or.inr rfl))) (fun _ _ _ _ _ => pts_nil) (fun _ _ _ _ _ => (pe_cmpR op_eq (pe_mt (met_Tree_is_lower T) hr (by decide) (pv 0) (pa_cons (pv 3) (pa_cons (pv 2) pa_nil))) (pe_ix (ixL K rfl) (pv 1) (pv 3) (fun _ _ => rfl)) (nomark _)))) pa_nil)))), ?_⟩
  obtain ⟨hw, hb, hv⟩ := hp
  exact s_ret (W := ⟨Hf, H⟩) (ev_allL (ev_mapL (edgesOf t) dn (fun e => .b (isBelow t e v == bs.getD e false)) (ev_meth (x := (t, F, true)) rfl hw (by decide +kernel) (ev_var r0 rfl) ea_nil) (edges_sz hw) fun i e x W1 g hx rx => ev_op rv_eqB (ev_meth (x := (t, F, true, e, v)) rfl ⟨hw, hv⟩ (by decide +kernel) (ev_var (up g r0) rfl) (ea_cons (ev_var rx rfl) (ea_cons (ev_var (up g r2) rfl) ea_nil))) (ev_op (rv_ix (at_bool (by rw [hb]; exact edge_vc (List.mem_of_getElem? hx)))) (ev_var (up g r1) rfl) (ev_var rx rfl)))) ok k
abbrev sp_marked_version (K : PySem.W.Frag) : Sp := PuSp (ι := Tr × Nat × List Mark) (fun (t, F, ms) => [dTree K t F true, .l ((flagsOf ms).map D.b)]) (fun (t, F, ms) => Wf t ∧ MarksOk t F ms) (fun (t, F, ms) => dn (homeOf t ms))
theorem cal_marked_version (T : Top K mg) : Cal P w K mg base 3 "marked_version" (sp_marked_version K) [] :=
  calOf (F_marked_version T) (gf_marked_version T) sc_marked_version (fun _ _ _ _ _ _ us hl => match us, hl with | [_, _], _ => rfl) (fun _ _ _ _ h => h.len fun _ => rfl) fun cdv A outer s H vs Q E hr h => by
  obtain ⟨⟨t, F, ms⟩, Hf, ok, ⟨v0, _, rfl, r0, v1, _, rfl, r1, rfl⟩, hp, k⟩ := h
  try dsimp only at hp k
  refine ⟨_, (pss_one (ps_ret (pe_ix (ixL K rfl) (pe_lc (own := [("version", 2)]) (g := gName 2) rfl sc_marked_version.nd (pi_range1 rfl (T_range T) (pa_cons (pe_fldK K rfl (pv 0) rfl) pa_nil)) (blkOk_by (own := [("version", 2)]) (N := N_marked_version) (sc := defScope s_marked_version) (by decide +kernel)) (fun _ _ _ _ _ => (pg_name (i := 2) sc_marked_version.nd rfl (Or.inl rfl) (hf := Or.inr rfl))) (fun _ _ _ _ _ => (pts_one (pt_val (pe_c (cal_is_marked T) hr (by decide) rfl (pa_cons (pv 0) (pa_cons (pv 1) (pa_cons (pv 2) pa_nil))))))) (fun _ _ _ _ _ => (pv 2))) pe_int (fun _ _ => rfl)))), ?_⟩
  obtain ⟨hw, om⟩ := hp
  obtain ⟨h1, h2⟩ := home_head hw om
  exact s_ret (W := ⟨Hf, H⟩) (ev_op (rv_ix (j := 0) (d := dn (homeOf t ms)) (by rw [List.getElem?_map, h1]; rfl)) (EvD.is (ev_lcR (versionCount t) (markedAt t (flagsOf ms)) dn (ea_cons (fld_count T (ev_var r0 rfl)) ea_nil) (by have := vc_le hw; omega) fun v W1 g hv => ⟨et_B (ev_call (x := (t, F, flagsOf ms, v)) ⟨hw, flags_len om, hv⟩ (ea_cons (ev_var (up g r0) rfl) (ea_cons (ev_var (up g r1) rfl) (ea_cons (ev_var (W := W1) (d := dn v) rfl rfl) ea_nil)))), fun _ => (ev_var (W := W1) (d := dn v) rfl rfl)⟩) (by rw [show markedAt t (flagsOf ms) = isHome t ms from funext fun v => marked_is om v])) ev_int) ok k
abbrev sp_Row_told_counters (K : PySem.W.Frag) : Sp := PuSp (ι := Tr × Nat × VRow) (fun (t, F, r) => [dRow K t F r]) (fun (t, F, r) => r.marks.length ≤ 1000) (fun (t, F, r) => .l ((toldOf r.marks).map D.i))
theorem met_Row_told_counters (T : Top K mg) : Met P w K mg base 1 (C_Row K) "told_counters" (sp_Row_told_counters K) [] :=
  metOf (cl_Row T) (me_Row_told_counters T) (F_Row_told_counters T) sc_Row_told_counters (fun _ _ _ _ _ _ us hl => match us, hl with | [_], _ => rfl) (fun _ _ _ _ h => h.len fun _ => rfl) fun cdv A outer s H vs Q E hr h => by
  obtain ⟨⟨t, F, r⟩, Hf, ok, ⟨v0, _, rfl, r0, rfl⟩, hp, k⟩ := h
  try dsimp only at hp k
  refine ⟨_, (pss_cons (ps_set (i := 1) sc_Row_told_counters.nd rfl (Or.inl rfl) (pe_lst pa_nil))
      (pss_cons (ps_for PassesOwn.never rfl (pi_zipK K rfl rfl (T_zip T) (pa_cons (pe_slice (slL K rfl) (pe_fldK K rfl (pv 0) rfl) (po_some pe_int) po_none) (pa_cons (pe_slice (slL K rfl) (pe_fldK K rfl (pv 0) rfl) (po_some pe_int) po_none) pa_nil))) (pg_tupK K rfl rfl (pgs_cons (pg_name (i := 2) sc_Row_told_counters.nd rfl (Or.inl rfl)) (pgs_cons (pg_name (i := 3) sc_Row_told_counters.nd rfl (Or.inl rfl)) pgs_nil)))
      (pss_one (ps_expr (pe_bm PySem.F.plainAttrs_list PySem.F.slot_list_extend PySem.F.type_list_extend mt_extend (pv 1) (pa_cons (pe_lst (pa_cons (pe_callTy call_int1 rfl (T_int T) b_int (pa_cons (pv 2) pa_nil)) (pa_cons (pv 3) pa_nil))) pa_nil)))))
      (pss_one (ps_ret (pv 1))))), ?_⟩
  refine s_nil (W := ⟨Hf, H⟩) ok fun p hn => ?_
  dsimp only
  have o1 := Own.start (.refl ok) hn
  have tl : ∀ l : List Mark, (toldOf l).length = 2 * l.length := by
    intro l
    induction l with
    | nil => rfl
    | cons a l ih =>
      show ([if a.isLower = true then (1 : Int) else 0, a.counter] ++ toldOf l).length = _
      rw [List.length_append, ih]
      simp only [List.length_cons, List.length_nil]
      omega
  refine s_forZ (W := ⟨Hf, upd H p (.lst [])⟩) (r.marks.map (·.isLower)) D.b (r.marks.map (·.counter)) D.i (by rw [List.length_map, List.length_map]) (EvD.is (ev_slice (row_marks T (ev_var (up o1.gr r0) rfl)) (eo_some (m := ((1 : Nat) : Int)) ev_int) eo_none) (by rw [cut_from]; rfl)) (EvD.is (ev_slice (row_counters T (ev_var (up o1.gr r0) rfl)) (eo_some (m := ((1 : Nat) : Int)) ev_int) eo_none) (by rw [cut_from]; rfl)) o1.gr.fh fun W2 g2 => ⟨fun m σ' W' => ∃ x y, σ' = [some v0, some (.ref p), x, y] ∧ Ex W2.f W'.f ∧ Own ⟨Hf, H⟩ p ((toldOf (r.marks.take m)).map D.i) W', ⟨none, none, rfl, .refl _, o1.more g2⟩, fun m σ' W' ⟨_, _, _, q, o⟩ => ⟨q, o.gr.fh⟩, ?_, ?_⟩
  · rintro m b c xv xw σ' W3 W4 hb hc ⟨x, y, rfl, xf, o3⟩ g4 rb rc
    have o4 := o3.more g4
    obtain ⟨mk, hm, e1, e2⟩ : ∃ mk, r.marks[m]? = some mk ∧ mk.isLower = b ∧ mk.counter = c := by
      rw [List.getElem?_map] at hb hc
      cases q : r.marks[m]? with
      | none => rw [q] at hb; cases hb
      | some mk => rw [q] at hb hc; exact ⟨mk, rfl, Option.some.inj hb, Option.some.inj hc⟩
    refine s_extO o4 hn rfl (es := [.i (if b = true then 1 else 0), .i c]) (ev_lst (ea_cons (ev_intB (ev_var rb rfl)) (ea_cons (ev_var rc rfl) ea_nil)) (by show 2 ≤ 10000000; decide)) (by
      rw [List.length_map, tl, List.length_take]
      simp only [List.length_cons, List.length_nil]
      omega) fun W5 o5 x5 => ?_
    refine ⟨W5, rfl, _, _, rfl, xf.trans (g4.ff.trans x5), ?_⟩
    have e : (toldOf (r.marks.take (m + 1))).map D.i = (toldOf (r.marks.take m)).map D.i ++ [.i (if b = true then 1 else 0), .i c] := by
      unfold toldOf
      rw [List.take_add_one, hm, List.flatMap_append, List.map_append, ← e1, ← e2]
      rfl
    rw [e]
    exact o5
  · rintro σ' W3 ⟨x, y, rfl, xf, o3⟩
    rw [List.length_map, List.take_length] at o3
    dsimp only
    exact s_retO o3 hn rfl k
end
end Hm
end
section
set_option Elab.async false
set_option linter.all false
set_option maxRecDepth 100000
set_option maxHeartbeats 4000000
namespace Hm
open PySem PySem.Spec PyProof.Rows L2
open C8 (Cal Met Mak pe_c pe_mt pe_mt0 pe_mk pe_gc)
open Vbjtah (versionCount edgesOf isBelow distance)
/-! ### rows that change -/
open Vbjtah (Mark homeOf usedMarks usedMark startMarks startMark newRow used)
section
variable {K : PySem.W.Frag} {σ : L2.St} {W : Wd} {ta te : TE} {d : D} {D0 : Ends}
def flatD : D → Bool
  | .i _ | .b _ | .n | .v _ => true
  | _ => false
theorem flatD_rep {H H' : Hp} {v : V} : ∀ {d : D}, flatD d = true → Rep H d v → Rep H' d v
  | .i _, _, h => h
  | .b _, _, h => h
  | .n, _, h => h
  | .v _, _, h => h
  | .l _, e, _ => by cases e
  | .t _, e, _ => by cases e
  | .o _ _ _, e, _ => by cases e
/-- all that there is may be looked at -/
theorem EvD.all (h : EvD te σ ⟨W.h, W.h⟩ d) (hd : flatD d = true) : EvD te σ W d := fun W1 g Q q =>
  h ⟨W1.h, W1.h⟩ ⟨g.hh, .refl _, g.hh, fun x h1 h2 => absurd h1 h2⟩ Q fun v W2 g2 r => q v ⟨W1.f, W2.h⟩ ⟨.refl _, g.fh.trans g2.hh, g2.hh, fun x h1 _ => h1⟩ (flatD_rep hd r)
theorem s_appF {p : Addr} {vs : List V} (ha : EvD ta σ W (.v (.ref p))) (hp : W.h p = some (.lst vs)) (h : EvD te σ W d) (ok : Ex W.f W.h) (hz : vs.length < 10000000) (k : ∀ v W1, Grow W W1 → Rep W1.f d v → D0.nx σ (upd W1.h p (.lst (vs ++ [v])))) :
    tDrop (tBM K "list" rAppend ta (tCons te tNil)) D0 σ W.h := ha W (.refl ok) _ fun x W1 g1 rx => by
  have rx : x = .ref p := rx
  subst rx
  exact ⟨.inl ⟨rfl, _, SqL.of (g1.hh p _ hp)⟩, h W1 g1 _ fun v W2 g2 r => ⟨p, vs, v, rfl, rfl, (g1.trans g2).hh p _ hp, szLt hz, k v W2 (g1.trans g2) r⟩⟩
end
structure RA where
  a : Addr
  dx : Addr
  pm : Addr
  pc : Addr
  pu : Addr
def RA.M (q : RA) : List Addr := [q.a, q.pm, q.pc, q.pu]
structure RowO (K : PySem.W.Frag) (q : RA) (num first home : Nat) (bs : List Bool) (cn : List Int) (us : List Nat) (cost moves : Nat) (W : Wd) : Prop where
  ins : W.h q.a = some (.ins (C_Row K) q.dx (rwNames.zip [vn num, vn first, vn home, .ref q.pm, .ref q.pc, .ref q.pu, vn cost, vn moves]))
  hm : W.h q.pm = some (.lst (bs.map V.bl))
  hc : W.h q.pc = some (.lst (cn.map V.int))
  hu : W.h q.pu = some (.lst (us.map vn))
  nf : ∀ x ∈ q.M, W.f x = none
  nd : q.M.Nodup
  ok : Ex W.f W.h
abbrev RowAt (K : PySem.W.Frag) (q : RA) (t : Tr) (F : Nat) (r : VRow) (W : Wd) : Prop := RowO K q r.number r.first (homeOf t r.marks) (flagsOf r.marks) (countsOf F r.marks) r.uses r.cost r.moves W
theorem RA.ne {q : RA} (h : q.M.Nodup) : q.a ≠ q.pm ∧ q.a ≠ q.pc ∧ q.a ≠ q.pu ∧ q.pm ≠ q.pc ∧ q.pm ≠ q.pu ∧ q.pc ≠ q.pu := by
  unfold RA.M at h
  simp only [List.nodup_cons, List.mem_cons, List.not_mem_nil, or_false, not_or] at h
  obtain ⟨⟨h1, h2, h3⟩, ⟨h4, h5⟩, h6, _⟩ := h
  exact ⟨h1, h2, h3, h4, h5, h6⟩
section
variable {K : PySem.W.Frag} {mg : Str → Option Value} {q : RA} {num first home : Nat} {bs : List Bool} {cn : List Int} {us : List Nat} {cost moves : Nat} {W W' : Wd} {σ : L2.St} {ti te : TE} {D0 : Ends}
theorem RowO.more (O : RowO K q num first home bs cn us cost moves W) (g : Grow W W') : RowO K q num first home bs cn us cost moves W' := by
  have nz : ∀ {p : Addr} {o : HO}, W.h p = some o → W.h p ≠ none := fun e => by rw [e]; exact fun e => nomatch e
  refine ⟨g.hh _ _ O.ins, g.hh _ _ O.hm, g.hh _ _ O.hc, g.hh _ _ O.hu, fun x hx => g.fr _ (O.nf x hx) ?_, O.nd, g.fh⟩
  rcases List.mem_cons.mp hx with e | hx
  · subst e; exact nz O.ins
  rcases List.mem_cons.mp hx with e | hx
  · subst e; exact nz O.hm
  rcases List.mem_cons.mp hx with e | hx
  · subst e; exact nz O.hc
  rcases List.mem_cons.mp hx with e | hx
  · subst e; exact nz O.hu
  · cases hx
theorem RowO.inM (q : RA) : q.a ∈ q.M ∧ q.pm ∈ q.M ∧ q.pc ∈ q.M ∧ q.pu ∈ q.M := ⟨List.mem_cons_self, List.mem_cons_of_mem _ List.mem_cons_self, List.mem_cons_of_mem _ (List.mem_cons_of_mem _ List.mem_cons_self), List.mem_cons_of_mem _ (List.mem_cons_of_mem _ (List.mem_cons_of_mem _ List.mem_cons_self))⟩
theorem RowO.fldM (O : RowO K q num first home bs cn us cost moves W) (T : Top K mg) (h0 : σ[0]? = some (some (.ref q.a))) : EvD (tFld K (tVar 0) "marks") σ W (.v (.ref q.pm)) := ev_fldZ 3 (cl_Row T) (na_Row_marks T) (ev_own h0) O.ins (by decide +kernel) rfl
theorem RowO.fldC (O : RowO K q num first home bs cn us cost moves W) (T : Top K mg) (h0 : σ[0]? = some (some (.ref q.a))) : EvD (tFld K (tVar 0) "counters") σ W (.v (.ref q.pc)) := ev_fldZ 4 (cl_Row T) (na_Row_counters T) (ev_own h0) O.ins (by decide +kernel) rfl
theorem RowO.fldU (O : RowO K q num first home bs cn us cost moves W) (T : Top K mg) (h0 : σ[0]? = some (some (.ref q.a))) : EvD (tFld K (tVar 0) "uses") σ W (.v (.ref q.pu)) := ev_fldZ 5 (cl_Row T) (na_Row_uses T) (ev_own h0) O.ins (by decide +kernel) rfl
theorem RowO.fldH (O : RowO K q num first home bs cn us cost moves W) (T : Top K mg) (h0 : σ[0]? = some (some (.ref q.a))) : EvD (tFld K (tVar 0) "home") σ W (dn home) := (ev_fldZ (v := vn home) 2 (cl_Row T) (na_Row_home T) (ev_own h0) O.ins (by decide +kernel) rfl).raw rfl
theorem RowO.fldK (O : RowO K q num first home bs cn us cost moves W) (T : Top K mg) (h0 : σ[0]? = some (some (.ref q.a))) : EvD (tFld K (tVar 0) "cost") σ W (dn cost) := (ev_fldZ (v := vn cost) 6 (cl_Row T) (na_Row_cost T) (ev_own h0) O.ins (by decide +kernel) rfl).raw rfl
theorem RowO.fldV (O : RowO K q num first home bs cn us cost moves W) (T : Top K mg) (h0 : σ[0]? = some (some (.ref q.a))) : EvD (tFld K (tVar 0) "moves") σ W (dn moves) := (ev_fldZ (v := vn moves) 7 (cl_Row T) (na_Row_moves T) (ev_own h0) O.ins (by decide +kernel) rfl).raw rfl
theorem RowO.setM (O : RowO K q num first home bs cn us cost moves W) (bs' : List Bool) : RowO K q num first home bs' cn us cost moves ⟨W.f, upd W.h q.pm (.lst (bs'.map V.bl))⟩ := by
  obtain ⟨n1, n2, n3, n4, n5, n6⟩ := RA.ne O.nd
  refine ⟨?_, upd_same, ?_, ?_, O.nf, O.nd, O.ok.mut (O.nf _ (RowO.inM q).2.1)⟩
  · show L2.upd W.h q.pm _ q.a = _; rw [upd_ne n1]; exact O.ins
  · show L2.upd W.h q.pm _ q.pc = _; rw [upd_ne (Ne.symm n4)]; exact O.hc
  · show L2.upd W.h q.pm _ q.pu = _; rw [upd_ne (Ne.symm n5)]; exact O.hu
theorem RowO.setC (O : RowO K q num first home bs cn us cost moves W) (cn' : List Int) : RowO K q num first home bs cn' us cost moves ⟨W.f, upd W.h q.pc (.lst (cn'.map V.int))⟩ := by
  obtain ⟨n1, n2, n3, n4, n5, n6⟩ := RA.ne O.nd
  refine ⟨?_, ?_, upd_same, ?_, O.nf, O.nd, O.ok.mut (O.nf _ (RowO.inM q).2.2.1)⟩
  · show L2.upd W.h q.pc _ q.a = _; rw [upd_ne n2]; exact O.ins
  · show L2.upd W.h q.pc _ q.pm = _; rw [upd_ne n4]; exact O.hm
  · show L2.upd W.h q.pc _ q.pu = _; rw [upd_ne (Ne.symm n6)]; exact O.hu
theorem RowO.setU (O : RowO K q num first home bs cn us cost moves W) (us' : List Nat) : RowO K q num first home bs cn us' cost moves ⟨W.f, upd W.h q.pu (.lst (us'.map vn))⟩ := by
  obtain ⟨n1, n2, n3, n4, n5, n6⟩ := RA.ne O.nd
  refine ⟨?_, ?_, ?_, upd_same, O.nf, O.nd, O.ok.mut (O.nf _ (RowO.inM q).2.2.2)⟩
  · show L2.upd W.h q.pu _ q.a = _; rw [upd_ne n3]; exact O.ins
  · show L2.upd W.h q.pu _ q.pm = _; rw [upd_ne n5]; exact O.hm
  · show L2.upd W.h q.pu _ q.pc = _; rw [upd_ne n6]; exact O.hc
theorem RowO.setI (O : RowO K q num first home bs cn us cost moves W) (home' cost' moves' : Nat) : RowO K q num first home' bs cn us cost' moves' ⟨W.f, upd W.h q.a (.ins (C_Row K) q.dx (rwNames.zip [vn num, vn first, vn home', .ref q.pm, .ref q.pc, .ref q.pu, vn cost', vn moves']))⟩ := by
  obtain ⟨n1, n2, n3, n4, n5, n6⟩ := RA.ne O.nd
  refine ⟨upd_same, ?_, ?_, ?_, O.nf, O.nd, O.ok.mut (O.nf _ (RowO.inM q).1)⟩
  · show L2.upd W.h q.a _ q.pm = _; rw [upd_ne (Ne.symm n1)]; exact O.hm
  · show L2.upd W.h q.a _ q.pc = _; rw [upd_ne (Ne.symm n2)]; exact O.hc
  · show L2.upd W.h q.a _ q.pu = _; rw [upd_ne (Ne.symm n3)]; exact O.hu
/-- self.f = e of an object that lies at a known address -/
theorem s_putF {a C dx : Addr} {ns : List Str} {vs : List V} {f : Str} {i j : Nat} {d : D} (hi : σ[i]? = some (some (.ref a))) (hp : W.h a = some (.ins C dx (ns.zip vs))) (cl : Cls K C) (na : NoAttr K C f) (hf : fldIx f ns j = true) (hl : ns.length = vs.length) (hz : ns.length < 1000) (ok : Ex W.f W.h) (h : EvD te σ W d)
    (k : ∀ v W1, Grow W W1 → Rep W1.f d v → D0.nx σ (upd W1.h a (.ins C dx (ns.zip (vs.set j v))))) : sFld K (tVar i) te f D0 σ W.h :=
  h W (.refl ok) _ fun v W1 g r => ⟨_, hi, a, C, dx, _, rfl, g.hh a _ hp, cl, na, by rw [List.length_zip]; omega, by rw [putF_old (fldIx_ok hf).1 (fldIx_ok hf).2 hl]; exact k v W1 g r⟩
end
theorem mid_next {U ms : List Mark} {m : Nat} {u : Mark} (hl : U.length = ms.length) (hm : U[m]? = some u) : U.take (m + 1) ++ ms.drop (m + 1) = (U.take m ++ ms.drop m).set m u := by
  have hml := (List.getElem?_eq_some_iff.mp hm).1
  rw [List.set_append_right _ _ (by rw [List.length_take]; omega), List.length_take, Nat.min_eq_left (by omega), Nat.sub_self, List.drop_eq_getElem_cons (l := ms) (i := m) (by omega), List.set_cons_zero, List.take_add_one, hm, List.append_assoc]
  rfl
theorem counts_set {F : Nat} {l : List Mark} {m : Nat} {u : Mark} : (countsOf F l).set (m + 1) u.counter = countsOf F (l.set m u) := by
  unfold countsOf
  rw [List.set_cons_succ, List.map_set]
theorem flags_set {l : List Mark} {m : Nat} {u : Mark} : (flagsOf l).set (m + 1) u.isLower = flagsOf (l.set m u) := by
  unfold flagsOf
  rw [List.set_cons_succ, List.map_set]
theorem used_counter {F : Nat} {b : Bool} {m : Mark} (h1 : -(F : Int) ≤ m.counter) (h2 : m.counter ≤ (F : Int)) : withinF (m.counter + if b = true then 1 else -1) F = (usedMark F b m).counter := by
  rw [usedMark_c]
  unfold withinF
  cases b
  · rw [if_neg (by decide), if_neg (by decide)]; omega
  · rw [if_pos rfl, if_pos rfl]; omega
section
variable {P : Program} {w : World} {K : PySem.W.Frag} {mg : Str → Option Value} {base : Heap}
abbrev sp_Row_follow (K : PySem.W.Frag) : Sp := fun vs H Q _ => ∃ (q : RA) (Hf : Hp) (t : Tr) (F : Nat) (ms : List Mark) (num first home : Nat) (us : List Nat) (cost moves v : Nat) (tv : V), vs = [.ref q.a, tv, vn v] ∧ Rep Hf (dTree K t F true) tv ∧ RowO K q num first home (flagsOf ms) (countsOf F ms) us cost moves ⟨Hf, H⟩ ∧ (Wf t ∧ MarksOk t F ms ∧ v < versionCount t) ∧
  ∀ W', GrowM q.M ⟨Hf, H⟩ W' → RowO K q num first home (flagsOf (usedMarks t F v ms)) (countsOf F (usedMarks t F v ms)) us cost moves W' → Q .non W'.h
theorem met_Row_follow (T : Top K mg) : Met P w K mg base 2 (C_Row K) "follow" (sp_Row_follow K) [] :=
  metOf (cl_Row T) (me_Row_follow T) (F_Row_follow T) sc_Row_follow (fun _ _ _ _ _ _ us hl => match us, hl with | [_, _, _], _ => rfl) (fun _ _ _ _ h => by obtain ⟨_, _, _, _, _, _, _, _, _, _, _, _, _, rfl, _⟩ := h; rfl) fun cdv A outer s H vs Q E hr h => by
  obtain ⟨q, Hf, t, F, ms, num, first, home, us, cost, moves, v, tv, rfl, rt, O, ⟨hw, om, hv⟩, k⟩ := h
  refine ⟨_, (pss_one (ps_for PassesOwn.never rfl (pi_listK K rfl (pe_mt0 (met_Tree_edges T) hr (by decide) (pv 1))) (pg_name (i := 3) sc_Row_follow.nd rfl (Or.inl rfl))
        (pss_cons (ps_set (i := 4) sc_Row_follow.nd rfl (Or.inl rfl) (pe_ifExp (pt_val (pe_mt (met_Tree_is_lower T) hr (by decide) (pv 1) (pa_cons (pv 3) (pa_cons (pv 2) pa_nil)))) pe_int (pe_un un_neg pe_int)))
        (pss_cons (ps_set (i := 5) sc_Row_follow.nd rfl (Or.inl rfl) (pe_c (cal_within T) hr (by decide) rfl (pa_cons (pe_op op_add (pe_ix (ixL K rfl) (pe_fldK K rfl (pv 0) rfl) (pv 3) (fun _ _ => rfl)) (pv 4)) (pa_cons (pe_fldK K rfl (pv 1) rfl) pa_nil))))
        (pss_cons (ps_asg (pv 5) (pg_sub (pe_fldK K rfl (pv 0) rfl) (pv 3) set_list))
        (pss_one (ps_if (pt_cmpR op_eq (pv 5) (pe_fldK K rfl (pv 1) rfl) (nomark _))
        (pss_one (ps_asg pe_bl (pg_sub (pe_fldK K rfl (pv 0) rfl) (pv 3) set_list)))
        (pss_one (ps_if (pt_cmpR op_eq (pv 5) (pe_op op_sub pe_int (pe_fldK K rfl (pv 1) rfl)) (nomark _))
        (pss_one (ps_asg pe_bl (pg_sub (pe_fldK K rfl (pv 0) rfl) (pv 3) set_list)))
        pss_nil))))))))), ?_⟩
  have hU : (usedMarks t F v ms).length = ms.length := by rw [usedMarks_eq om.len, List.length_map, edges_len, om.len]
  have hel : (edgesOf t).length = ms.length := by rw [edges_len, om.len]
  refine s_forL (W := ⟨Hf, H⟩) (edgesOf t) dn (ev_meth (x := (t, F, true)) rfl hw (by decide +kernel) (ev_var (W := ⟨Hf, H⟩) rt rfl) ea_nil) O.ok fun W2 g2 => ⟨fun m σ' W' => ∃ x y z, σ' = [some (.ref q.a), some tv, some (vn v), x, y, z] ∧ GrowM q.M W2 W' ∧ RowO K q num first home (flagsOf ((usedMarks t F v ms).take m ++ ms.drop m)) (countsOf F ((usedMarks t F v ms).take m ++ ms.drop m)) us cost moves W', ⟨none, none, none, rfl, .refl g2.fh, O.more g2⟩, fun m σ' W' ⟨_, _, _, _, G, _⟩ => ⟨G.ff, G.fh⟩, ?_, ?_⟩
  · rintro m e xv σ' W3 he ⟨x, y, z, rfl, G3, O3⟩ rx
    cases rx
    have hem := List.mem_of_getElem? he
    have hml := (List.getElem?_eq_some_iff.mp he).1
    have ee : e = m + 1 := by
      rw [edges_get (by rw [← edges_len]; exact hml)] at he
      exact (Option.some.inj he).symm
    subst ee
    have rt3 : Rep W3.f (dTree K t F true) tv := Rep.mono (g2.ff.trans G3.ff) _ _ rt
    obtain ⟨mk, hmk⟩ : ∃ mk, ms[m]? = some mk := ⟨_, List.getElem?_eq_getElem (by omega)⟩
    have emk : mkAt ms (m + 1) = mk := by
      unfold mkAt
      rw [Nat.add_sub_cancel, List.getD_eq_getElem?_getD, hmk]
      rfl
    obtain ⟨b, hb⟩ : ∃ b, isBelow t (m + 1) v = b := ⟨_, rfl⟩
    have hUm : (usedMarks t F v ms)[m]? = some (usedMark F b mk) := by
      rw [usedMarks_eq om.len, List.getElem?_map, he]
      show some (usedMark F (isBelow t (m + 1) v) (mkAt ms (m + 1))) = _
      rw [hb, emk]
    have rg := om.rng (m + 1) hem
    rw [emk] at rg
    obtain ⟨mid, emid⟩ : ∃ mid, (usedMarks t F v ms).take m ++ ms.drop m = mid := ⟨_, rfl⟩
    have nextE := mid_next hU hUm
    rw [emid] at O3 nextE
    have midm : mid[m]? = some mk := by
      rw [← emid, List.getElem?_append_right (by rw [List.length_take]; omega), List.length_take, Nat.min_eq_left (by omega), Nat.sub_self, List.getElem?_drop]
      exact hmk
    have midl : mid.length = ms.length := by rw [← emid, List.length_append, List.length_take, List.length_drop]; omega
    refine s_set (W := W3) (d := .i (if b = true then 1 else -1)) (ev_if (a := b) (et_B (EvD.is (ev_meth (x := (t, F, true, m + 1, v)) rfl ⟨hw, hv⟩ (by decide +kernel) (ev_var rt3 rfl) (ea_cons (ev_var (d := dn (m + 1)) rfl rfl) (ea_cons (ev_var (d := dn v) rfl rfl) ea_nil))) (congrArg D.b hb))) (fun q1 => EvD.is ev_int (by rw [if_pos q1])) (fun q1 => EvD.is (ev_neg ev_int) (by rw [if_neg (by rw [q1]; decide)]))) O3.ok fun v4 W4 g4 r4 => ?_
    have r4 : v4 = .int (if b = true then 1 else -1) := r4
    subst r4
    dsimp only
    have O4 := O3.more g4
    refine s_set (W := W4) (EvD.is (ev_call (x := (mk.counter + (if b = true then 1 else -1), F)) trivial (ea_cons (ev_op rv_add ((ev_ownIx (v := .int mk.counter) (j := m + 1) (O4.fldC T rfl) O4.hc (by rw [List.getElem?_map]; unfold countsOf; rw [List.getElem?_cons_succ, List.getElem?_map, midm]; rfl) (ev_var (d := dn (m + 1)) rfl rfl)).raw (d := .i mk.counter) rfl) (ev_var (d := .i (if b = true then 1 else -1)) rfl rfl)) (ea_cons (fld_factor T (ev_var (up g4 rt3) rfl)) ea_nil))) (d' := .i (usedMark F b mk).counter) (congrArg D.i (used_counter rg.1 rg.2))) O4.ok fun v5 W5 g5 r5 => ?_
    have r5 : v5 = .int (usedMark F b mk).counter := r5
    subst r5
    dsimp only
    have O5 := O4.more g5
    refine s_setIx (W := W5) (d := .i (usedMark F b mk).counter) (j := m + 1) (ev_var (d := .i (usedMark F b mk).counter) rfl rfl) (O5.fldC T rfl) (ev_var (d := dn (m + 1)) rfl rfl) O5.hc (by rw [List.length_map]; unfold countsOf; rw [List.length_cons, List.length_map]; omega) O5.ok fun v6 W6 g6 r6 => ?_
    have r6 : v6 = .int (usedMark F b mk).counter := r6
    subst r6
    dsimp only
    have O6 := (O5.more g6).setC (countsOf F (mid.set m (usedMark F b mk)))
    have G6 := (G3.trans (((g4.trans g5).trans g6).m q.M)).set (p := q.pc) (o := .lst ((countsOf F (mid.set m (usedMark F b mk))).map V.int)) (RowO.inM q).2.2.1 ((O5.more g6).nf _ (RowO.inM q).2.2.1)
    rw [show (((countsOf F mid).map V.int).set (m + 1) (V.int (usedMark F b mk).counter)) = (countsOf F (mid.set m (usedMark F b mk))).map V.int by rw [← counts_set, List.map_set]]
    have rt6 : Rep W6.f (dTree K t F true) tv := Rep.mono ((g4.trans g5).trans g6).ff _ _ rt3
    obtain ⟨W7, e7⟩ : ∃ W : Wd, W = ⟨W6.f, upd W6.h q.pc (.lst ((countsOf F (mid.set m (usedMark F b mk))).map V.int))⟩ := ⟨_, rfl⟩
    have e7h : upd W6.h q.pc (.lst ((countsOf F (mid.set m (usedMark F b mk))).map V.int)) = W7.h := by rw [e7]
    rw [e7h]
    have rt7 : Rep W7.f (dTree K t F true) tv := by rw [e7]; exact rt6
    rw [← e7] at O6 G6
    -- the flag
    have fin : ∀ W8, Grow W7 W8 → (flagsOf mid).set (m + 1) (usedMark F b mk).isLower = flagsOf mid → ∃ W9, W9.h = W8.h ∧ GrowM q.M W2 W9 ∧ RowO K q num first home (flagsOf (mid.set m (usedMark F b mk))) (countsOf F (mid.set m (usedMark F b mk))) us cost moves W9 := fun W8 g8 e => ⟨W8, rfl, G6.trans (g8.m _), by rw [← flags_set, e]; exact O6.more g8⟩
    have setF : ∀ W8, Grow W7 W8 → GrowM q.M W2 ⟨W8.f, upd W8.h q.pm (.lst ((flagsOf (mid.set m (usedMark F b mk))).map V.bl))⟩ ∧ RowO K q num first home (flagsOf (mid.set m (usedMark F b mk))) (countsOf F (mid.set m (usedMark F b mk))) us cost moves ⟨W8.f, upd W8.h q.pm (.lst ((flagsOf (mid.set m (usedMark F b mk))).map V.bl))⟩ := fun W8 g8 => ⟨(G6.trans (g8.m _)).set (RowO.inM q).2.1 ((O6.more g8).nf _ (RowO.inM q).2.1), (O6.more g8).setM _⟩
    refine s_if (W := W7) (et_test (ev_op rv_eq (ev_var (d := .i (usedMark F b mk).counter) rfl rfl) (fld_factor T (ev_var rt7 rfl)))) O6.ok (fun q1 W8 g8 => ?_) (fun q1 W8 g8 => ?_)
    · have q1 := of_decide_eq_true q1
      have ul : (usedMark F b mk).isLower = true := by rw [usedMark_l, if_pos q1]
      have O8 := O6.more g8
      refine s_setIx (W := W8) (d := .b true) (j := m + 1) ev_bl (O8.fldM T rfl) (ev_var (d := dn (m + 1)) rfl rfl) O8.hm (by rw [List.length_map]; unfold flagsOf; rw [List.length_cons, List.length_map]; omega) O8.ok fun v9 W9 g9 r9 => ?_
      have r9 : v9 = .bl true := r9
      subst r9
      obtain ⟨G10, O10⟩ := setF W9 (g8.trans g9)
      refine ⟨_, ?_, _, _, _, rfl, G10, ?_⟩
      · show upd W9.h q.pm _ = upd W9.h q.pm _
        rw [← flags_set, ul, List.map_set]
      · rw [nextE]; exact O10
    · have q1 := of_decide_eq_false q1
      refine s_ifs (W := W8) (et_test (ev_op rv_eq (ev_var (d := .i (usedMark F b mk).counter) rfl rfl) (ev_op rv_sub ev_int (fld_factor T (ev_var (up g8 rt7) rfl))))) g8.fh (fun q2 W9 g9 => ?_) (fun q2 W9 g9 => ?_)
      · have q2 := of_decide_eq_true q2
        have ul : (usedMark F b mk).isLower = false := by rw [usedMark_l, if_neg q1, if_pos (by omega)]
        have O9 := O6.more (g8.trans g9)
        refine s_setIx (W := W9) (d := .b false) (j := m + 1) ev_bl (O9.fldM T rfl) (ev_var (d := dn (m + 1)) rfl rfl) O9.hm (by rw [List.length_map]; unfold flagsOf; rw [List.length_cons, List.length_map]; omega) O9.ok fun v10 W10 g10 r10 => ?_
        have r10 : v10 = .bl false := r10
        subst r10
        obtain ⟨G11, O11⟩ := setF W10 ((g8.trans g9).trans g10)
        refine ⟨_, ?_, _, _, _, rfl, G11, ?_⟩
        · show upd W10.h q.pm _ = upd W10.h q.pm _
          rw [← flags_set, ul, List.map_set]
        · rw [nextE]; exact O11
      · have q2 := of_decide_eq_false q2
        have ul : (usedMark F b mk).isLower = mk.isLower := by rw [usedMark_l, if_neg q1, if_neg (by omega)]
        obtain ⟨W10, e10, G10, O10⟩ := fin W9 (g8.trans g9) (by
          rw [ul]
          unfold flagsOf
          rw [List.set_cons_succ]
          refine congrArg (true :: ·) (List.ext_getElem? fun i => ?_)
          rw [List.getElem?_set]
          by_cases ei : m = i
          · subst ei
            rw [if_pos rfl, if_pos (by rw [List.length_map]; omega), List.getElem?_map, midm]
            rfl
          · rw [if_neg ei])
        exact ⟨W10, e10, _, _, _, rfl, G10, by rw [nextE]; exact O10⟩
  · rintro σ' W3 ⟨x, y, z, rfl, G3, O3⟩
    rw [hel, ← hU, List.take_length, hU, List.drop_eq_nil_of_le (Nat.le_refl _), List.append_nil] at O3
    exact k W3 ((g2.m _).trans G3) O3
end
end Hm
end
section
set_option Elab.async false
set_option linter.all false
set_option maxRecDepth 100000
set_option maxHeartbeats 4000000
namespace Hm
open PySem PySem.Spec PyProof.Rows L2
open C8 (Cal Met Mak pe_c pe_mt pe_mt0 pe_mk pe_gc)
open Vbjtah (versionCount edgesOf isBelow distance)
/-! ### a use of a row, a row's making -/
open Vbjtah (Mark homeOf usedMarks usedMark startMarks startMark newRow used)
theorem rwNames_no {m : Str} (h : decide (m ∈ rwNames) = false) (vs : List V) : (rwNames.zip vs).lookup m = none := zip_none (of_decide_eq_false h)
theorem dist_self (t : Tr) (v : Nat) : distance t v v = 0 := by
  unfold Vbjtah.distance
  rw [List.filter_eq_nil_iff.mpr fun e _ => by simp]
  rfl
theorem flags_start {t : Tr} {F v : Nat} (w : Wf t) (hv : v < versionCount t) : flagsOf (startMarks t F v) = (List.range (versionCount t)).map fun e => isBelow t e v := by
  unfold flagsOf startMarks Vbjtah.edgesOf versionCount
  rw [List.range_succ_eq_map, List.map_cons, isBelow_zero w hv, List.map_map, List.map_map, List.map_map]
  refine congrArg (true :: ·) (List.map_congr_left fun i _ => ?_)
  show (startMark t F v (i + 1)).isLower = isBelow t (i + 1) v
  unfold startMark
  cases isBelow t (i + 1) v <;> rfl
theorem counts_start {t : Tr} {F v : Nat} : countsOf F (startMarks t F v) = (flagsOf (startMarks t F v)).map fun b => if b = true then (F : Int) else 0 - (F : Int) := by
  unfold countsOf flagsOf startMarks
  rw [List.map_cons, if_pos rfl, List.map_map, List.map_map, List.map_map]
  refine congrArg ((F : Int) :: ·) (List.map_congr_left fun i _ => ?_)
  show (startMark t F v i).counter = if (startMark t F v i).isLower = true then (F : Int) else 0 - (F : Int)
  unfold startMark
  by_cases q : isBelow t i v = true
  · rw [if_pos q, if_pos rfl]
  · rw [if_neg q, if_neg (by show ¬ false = true; decide)]
    show -(F : Int) = 0 - (F : Int)
    omega
theorem ef_nil {σ : L2.St} {W : Wd} : EvF (tLst tNil) σ W (.l []) := fun W1 g Q q => ⟨by show 0 ≤ sizeLine; decide, fun p hp => q p ⟨upd W1.f p (.lst []), upd W1.h p (.lst [])⟩ (.new g.fh hp) hp ⟨p, [], rfl, upd_same, rfl⟩⟩
section
variable {P : Program} {w : World} {K : PySem.W.Frag} {mg : Str → Option Value} {base : Heap}
abbrev sp_Row_use (K : PySem.W.Frag) : Sp := fun vs H Q _ => ∃ (q : RA) (Hf : Hp) (t : Tr) (F : Nat) (r : VRow) (v : Nat) (tv : V), vs = [.ref q.a, tv, vn v] ∧ Rep Hf (dTree K t F true) tv ∧ RowAt K q t F r ⟨Hf, H⟩ ∧ (Wf t ∧ 1 ≤ F ∧ F ≤ 20 ∧ MarksOk t F r.marks ∧ v < versionCount t ∧ r.uses.length ≤ 1000) ∧
  ∀ W', GrowM q.M ⟨Hf, H⟩ W' → RowAt K q t F (used t F r v) W' → Q (vn ((used t F r v).cost - r.cost)) W'.h
theorem met_Row_use (T : Top K mg) : Met P w K mg base 4 (C_Row K) "use" (sp_Row_use K) [] :=
  metOf (cl_Row T) (me_Row_use T) (F_Row_use T) sc_Row_use (fun _ _ _ _ _ _ us hl => match us, hl with | [_, _, _], _ => rfl) (fun _ _ _ _ h => by obtain ⟨_, _, _, _, _, _, _, rfl, _⟩ := h; rfl) fun cdv A outer s H vs Q E hr h => by
  obtain ⟨q, Hf, t, F, r, v, tv, rfl, rt, O, ⟨hw, hF1, hF, om, hv, hu⟩, k⟩ := h
  refine ⟨_, (pss_cons (ps_set (i := 3) sc_Row_use.nd rfl (Or.inl rfl) (pe_mt (met_Tree_distance T) hr (by decide) (pv 1) (pa_cons (pe_fldK K rfl (pv 0) rfl) (pa_cons (pv 2) pa_nil))))
        (pss_cons (ps_expr (pe_bm PySem.F.plainAttrs_list PySem.F.slot_list_append PySem.F.type_list_append mt_append (pe_fldK K rfl (pv 0) rfl) (pa_cons (pv 2) pa_nil)))
        (pss_cons (ps_expr (pe_mt (met_Row_follow T) hr (by decide) (pv 0) (pa_cons (pv 1) (pa_cons (pv 2) pa_nil))))
        (pss_cons (ps_set (i := 4) sc_Row_use.nd rfl (Or.inl rfl) (pe_c (cal_marked_version T) hr (by decide) rfl (pa_cons (pv 1) (pa_cons (pe_fldK K rfl (pv 0) rfl) pa_nil))))
        (pss_cons (ps_if (pt_cmpR op_ne (pv 4) (pe_fldK K rfl (pv 0) rfl) (nomark _))
        (pss_cons (ps_set (i := 3) sc_Row_use.nd rfl (Or.inl rfl) (pe_op op_add (pv 3) (pe_op op_mul (pe_fldK K rfl (pv 1) rfl) (pe_mt (met_Tree_distance T) hr (by decide) (pv 1) (pa_cons (pe_fldK K rfl (pv 0) rfl) (pa_cons (pv 4) pa_nil))))))
        (pss_cons (ps_fld (pv 0) (pe_op op_add (pe_fldK K rfl (pv 0) rfl) pe_int) rfl)
        (pss_one (ps_fld (pv 0) (pv 4) rfl))))
        pss_nil)
        (pss_cons (ps_fld (pv 0) (pe_op op_add (pe_fldK K rfl (pv 0) rfl) (pv 3)) rfl)
        (pss_one (ps_ret (pv 3))))))))), ?_⟩
  have hh := (home_head hw om).2
  have om' := used_ok (v := v) hw hF1 hv om
  have hh' := (home_head hw om').2
  refine s_set (W := ⟨Hf, H⟩) (ev_meth (x := (t, F, homeOf t r.marks, v)) rfl ⟨hh, hv⟩ (by decide +kernel) (ev_var (W := ⟨Hf, H⟩) rt rfl) (ea_cons (O.fldH T rfl) (ea_cons (ev_var (W := ⟨Hf, H⟩) (d := dn v) rfl rfl) ea_nil))) O.ok fun v3 W1 g1 r3 => ?_
  have r3 : v3 = vn (distance t (homeOf t r.marks) v) := r3
  subst r3
  dsimp only
  have O1 := O.more g1
  refine s_appF (W := W1) (d := dn v) (O1.fldU T rfl) O1.hu (ev_var (d := dn v) rfl rfl) O1.ok (by rw [List.length_map]; omega) fun v4 W2 g2 r4 => ?_
  have r4 : v4 = vn v := r4
  subst r4
  dsimp only
  have O2 := (O1.more g2).setU (r.uses ++ [v])
  have G2 := (((g1.trans g2).m q.M)).set (p := q.pu) (o := .lst ((r.uses ++ [v]).map vn)) (RowO.inM q).2.2.2 ((O1.more g2).nf _ (RowO.inM q).2.2.2)
  rw [show (r.uses.map vn ++ [vn v]) = (r.uses ++ [v]).map vn by rw [List.map_append]; rfl]
  obtain ⟨W3, e3⟩ : ∃ W : Wd, W = ⟨W2.f, upd W2.h q.pu (.lst ((r.uses ++ [v]).map vn))⟩ := ⟨_, rfl⟩
  have e3h : upd W2.h q.pu (.lst ((r.uses ++ [v]).map vn)) = W3.h := by rw [e3]
  rw [e3h]
  have rt3 : Rep W3.f (dTree K t F true) tv := by rw [e3]; exact Rep.mono (g1.trans g2).ff _ _ rt
  rw [← e3] at O2 G2
  refine m_call (W := W3) rfl O2.ins (rwNames_no (by decide +kernel) _) O2.ok (ea_cons (ev_var rt3 rfl) (ea_cons (ev_var (W := W3) (d := dn v) rfl rfl) ea_nil)) fun us W4 g4 ⟨u1, _, e1, k1, u2, _, e2, k2, k3⟩ => ?_
  have k3 : _ = [] := k3
  have k2 : u2 = vn v := k2
  subst k3 k2 e2 e1
  refine ⟨q, W4.f, t, F, r.marks, r.number, r.first, _, r.uses ++ [v], r.cost, r.moves, v, u1, rfl, k1, O2.more g4, ⟨hw, om, hv⟩, fun W5 G5 O5 => ?_⟩
  have O5 : RowO K q r.number r.first (homeOf t r.marks) (flagsOf (usedMarks t F v r.marks)) (countsOf F (usedMarks t F v r.marks)) (r.uses ++ [v]) r.cost r.moves W5 := O5
  have G6 := G2.trans ((g4.m _).trans G5)
  have rt5 : Rep W5.f (dTree K t F true) tv := Rep.mono (g4.ff.trans G5.ff) _ _ rt3
  dsimp only
  refine s_set (W := W5) (d := dn (homeOf t (usedMarks t F v r.marks))) (EvD.all (ev_call (x := (t, F, usedMarks t F v r.marks)) ⟨hw, om'⟩ (ea_cons (ev_var (W := ⟨W5.h, W5.h⟩) (Rep.mono O5.ok _ _ rt5) rfl) (ea_cons ((ev_fldZ (W := ⟨W5.h, W5.h⟩) 3 (cl_Row T) (na_Row_marks T) (ev_own rfl) O5.ins (by decide +kernel) rfl).raw (d := .l ((flagsOf (usedMarks t F v r.marks)).map D.b)) ⟨_, _, rfl, O5.hm, Reps.bools.mpr rfl⟩) ea_nil))) rfl) O5.ok fun v5 W6 g6 r5 => ?_
  have r5 : v5 = vn (homeOf t (usedMarks t F v r.marks)) := r5
  subst r5
  dsimp only
  have O6 := O5.more g6
  have rt6 : Rep W6.f (dTree K t F true) tv := up g6 rt5
  refine s_if (W := W6) (et_test (ev_op rv_neN (ev_var (d := dn (homeOf t (usedMarks t F v r.marks))) rfl rfl) (O6.fldH T rfl))) O6.ok (fun e W7 g7 => ?_) (fun e W7 g7 => ?_)
  · have e : homeOf t (usedMarks t F v r.marks) ≠ homeOf t r.marks := by simpa using e
    have O7 := O6.more g7
    have rt7 : Rep W7.f (dTree K t F true) tv := up g7 rt6
    refine s_set (W := W7) (d := dn (distance t (homeOf t r.marks) v + F * distance t (homeOf t r.marks) (homeOf t (usedMarks t F v r.marks)))) (ev_op rv_addN (ev_var (d := dn (distance t (homeOf t r.marks) v)) rfl rfl) (ev_op (rv_mulN (by omega)) (fld_factor T (ev_var rt7 rfl)) (ev_meth (x := (t, F, homeOf t r.marks, homeOf t (usedMarks t F v r.marks))) rfl ⟨hh, hh'⟩ (by decide +kernel) (ev_var rt7 rfl) (ea_cons (O7.fldH T rfl) (ea_cons (ev_var (d := dn (homeOf t (usedMarks t F v r.marks))) rfl rfl) ea_nil))))) O7.ok fun v8 W8 g8 r8 => ?_
    have r8 : v8 = vn (distance t (homeOf t r.marks) v + F * distance t (homeOf t r.marks) (homeOf t (usedMarks t F v r.marks))) := r8
    subst r8
    dsimp only
    have O8 := O7.more g8
    refine s_putF (W := W8) (j := 7) (vs := _) rfl O8.ins (cl_Row T) (na_Row_moves T) (by decide +kernel) rfl (by decide) O8.ok (ev_op rv_addN (O8.fldV T rfl) (ev_nat (n := 1))) fun v9 W9 g9 r9 => ?_
    have r9 : v9 = vn (r.moves + 1) := r9
    subst r9
    dsimp only
    have em : (used t F r v).moves = r.moves + 1 := congrArg (r.moves + ·) (if_neg e)
    have O9 := (O8.more g9).setI (homeOf t r.marks) r.cost (r.moves + 1)
    have G9 := ((G6.trans ((((g6.trans g7).trans g8).trans g9).m q.M))).set (p := q.a) (o := .ins (C_Row K) q.dx (rwNames.zip [vn r.number, vn r.first, vn (homeOf t r.marks), .ref q.pm, .ref q.pc, .ref q.pu, vn r.cost, vn (r.moves + 1)])) (RowO.inM q).1 ((O8.more g9).nf _ (RowO.inM q).1)
    refine s_putF (W := ⟨W9.f, upd W9.h q.a (.ins (C_Row K) q.dx (rwNames.zip [vn r.number, vn r.first, vn (homeOf t r.marks), .ref q.pm, .ref q.pc, .ref q.pu, vn r.cost, vn (r.moves + 1)]))⟩) (j := 2) (vs := _) rfl O9.ins (cl_Row T) (na_Row_home T) (by decide +kernel) rfl (by decide) O9.ok (ev_var (d := dn (homeOf t (usedMarks t F v r.marks))) rfl rfl) fun v10 W10 g10 r10 => ?_
    have r10 : v10 = vn (homeOf t (usedMarks t F v r.marks)) := r10
    subst r10
    dsimp only
    have O10 := (O9.more g10).setI (homeOf t (usedMarks t F v r.marks)) r.cost (r.moves + 1)
    have G10 := (G9.trans (g10.m q.M)).set (p := q.a) (o := .ins (C_Row K) q.dx (rwNames.zip [vn r.number, vn r.first, vn (homeOf t (usedMarks t F v r.marks)), .ref q.pm, .ref q.pc, .ref q.pu, vn r.cost, vn (r.moves + 1)])) (RowO.inM q).1 ((O9.more g10).nf _ (RowO.inM q).1)
    rw [← em] at O10 G10
    obtain ⟨W11, e11⟩ : ∃ W : Wd, W = ⟨W10.f, upd W10.h q.a (.ins (C_Row K) q.dx (rwNames.zip [vn r.number, vn r.first, vn (homeOf t (usedMarks t F v r.marks)), .ref q.pm, .ref q.pc, .ref q.pu, vn r.cost, vn (used t F r v).moves]))⟩ := ⟨_, rfl⟩
    rw [← e11] at O10 G10
    have e11h : upd W10.h q.a (.ins (C_Row K) q.dx (rwNames.zip [vn r.number, vn r.first, vn (homeOf t (usedMarks t F v r.marks)), .ref q.pm, .ref q.pc, .ref q.pu, vn r.cost, vn (r.moves + 1)])) = W11.h := by rw [e11, em]
    show tSeq _ _ _ _ (upd W10.h q.a (.ins (C_Row K) q.dx (rwNames.zip [vn r.number, vn r.first, vn (homeOf t (usedMarks t F v r.marks)), .ref q.pm, .ref q.pc, .ref q.pu, vn r.cost, vn (r.moves + 1)])))
    rw [e11h]
    refine s_putF (W := W11) (j := 6) (vs := _) rfl O10.ins (cl_Row T) (na_Row_cost T) (by decide +kernel) rfl (by decide) O10.ok (ev_op rv_addN (O10.fldK T rfl) (ev_var (d := dn (distance t (homeOf t r.marks) v + F * distance t (homeOf t r.marks) (homeOf t (usedMarks t F v r.marks)))) rfl rfl)) fun v6 Wa ga ra => ?_
    have ra : v6 = vn (r.cost + (distance t (homeOf t r.marks) v + F * distance t (homeOf t r.marks) (homeOf t (usedMarks t F v r.marks)))) := ra
    subst ra
    dsimp only
    have Oa := (O10.more ga).setI (homeOf t (usedMarks t F v r.marks)) (r.cost + (distance t (homeOf t r.marks) v + F * distance t (homeOf t r.marks) (homeOf t (usedMarks t F v r.marks)))) (used t F r v).moves
    have Ga := (G10.trans (ga.m q.M)).set (p := q.a) (o := .ins (C_Row K) q.dx (rwNames.zip [vn r.number, vn r.first, vn (homeOf t (usedMarks t F v r.marks)), .ref q.pm, .ref q.pc, .ref q.pu, vn (r.cost + (distance t (homeOf t r.marks) v + F * distance t (homeOf t r.marks) (homeOf t (usedMarks t F v r.marks)))), vn (used t F r v).moves])) (RowO.inM q).1 ((O10.more ga).nf _ (RowO.inM q).1)
    have ec : (used t F r v).cost = r.cost + (distance t (homeOf t r.marks) v + F * distance t (homeOf t r.marks) (homeOf t (usedMarks t F v r.marks))) := Nat.add_assoc _ _ _
    rw [ec, Nat.add_sub_cancel_left] at k
    refine s_ret (W := ⟨Wa.f, upd Wa.h q.a (.ins (C_Row K) q.dx (rwNames.zip [vn r.number, vn r.first, vn (homeOf t (usedMarks t F v r.marks)), .ref q.pm, .ref q.pc, .ref q.pu, vn (r.cost + (distance t (homeOf t r.marks) v + F * distance t (homeOf t r.marks) (homeOf t (usedMarks t F v r.marks)))), vn (used t F r v).moves]))⟩) (d := dn (distance t (homeOf t r.marks) v + F * distance t (homeOf t r.marks) (homeOf t (usedMarks t F v r.marks)))) (ev_var (d := dn (distance t (homeOf t r.marks) v + F * distance t (homeOf t r.marks) (homeOf t (usedMarks t F v r.marks)))) rfl rfl) Oa.ok fun x Wb gb rb => ?_
    have rb : x = vn (distance t (homeOf t r.marks) v + F * distance t (homeOf t r.marks) (homeOf t (usedMarks t F v r.marks))) := rb
    subst rb
    refine k Wb (Ga.trans (gb.m _)) ?_
    have Ob := Oa.more gb
    show RowO K q r.number r.first (homeOf t (usedMarks t F v r.marks)) (flagsOf (usedMarks t F v r.marks)) (countsOf F (usedMarks t F v r.marks)) (r.uses ++ [v]) (used t F r v).cost (used t F r v).moves Wb
    rw [ec]
    exact Ob
  · have e : homeOf t (usedMarks t F v r.marks) = homeOf t r.marks := by simpa using e
    have em : (used t F r v).moves = r.moves := congrArg (r.moves + ·) (if_pos e)
    have O7 := O6.more g7
    have G7 := G6.trans ((g6.trans g7).m q.M)
    rw [← e, ← em] at O7
    dsimp only
    refine s_putF (W := W7) (j := 6) (vs := _) rfl O7.ins (cl_Row T) (na_Row_cost T) (by decide +kernel) rfl (by decide) O7.ok (ev_op rv_addN (O7.fldK T rfl) (ev_var (d := dn (distance t (homeOf t r.marks) v)) rfl rfl)) fun v6 Wa ga ra => ?_
    have ra : v6 = vn (r.cost + (distance t (homeOf t r.marks) v)) := ra
    subst ra
    dsimp only
    have Oa := (O7.more ga).setI (homeOf t (usedMarks t F v r.marks)) (r.cost + (distance t (homeOf t r.marks) v)) (used t F r v).moves
    have Ga := (G7.trans (ga.m q.M)).set (p := q.a) (o := .ins (C_Row K) q.dx (rwNames.zip [vn r.number, vn r.first, vn (homeOf t (usedMarks t F v r.marks)), .ref q.pm, .ref q.pc, .ref q.pu, vn (r.cost + (distance t (homeOf t r.marks) v)), vn (used t F r v).moves])) (RowO.inM q).1 ((O7.more ga).nf _ (RowO.inM q).1)
    have ec : (used t F r v).cost = r.cost + (distance t (homeOf t r.marks) v) := by
      show r.cost + distance t (homeOf t r.marks) v + F * distance t (homeOf t r.marks) (homeOf t (usedMarks t F v r.marks)) = _
      rw [e, dist_self, Nat.mul_zero, Nat.add_zero]
    rw [ec, Nat.add_sub_cancel_left] at k
    refine s_ret (W := ⟨Wa.f, upd Wa.h q.a (.ins (C_Row K) q.dx (rwNames.zip [vn r.number, vn r.first, vn (homeOf t (usedMarks t F v r.marks)), .ref q.pm, .ref q.pc, .ref q.pu, vn (r.cost + (distance t (homeOf t r.marks) v)), vn (used t F r v).moves]))⟩) (d := dn (distance t (homeOf t r.marks) v)) (ev_var (d := dn (distance t (homeOf t r.marks) v)) rfl rfl) Oa.ok fun x Wb gb rb => ?_
    have rb : x = vn (distance t (homeOf t r.marks) v) := rb
    subst rb
    refine k Wb (Ga.trans (gb.m _)) ?_
    have Ob := Oa.more gb
    show RowO K q r.number r.first (homeOf t (usedMarks t F v r.marks)) (flagsOf (usedMarks t F v r.marks)) (countsOf F (usedMarks t F v r.marks)) (r.uses ++ [v]) (used t F r v).cost (used t F r v).moves Wb
    rw [ec]
    exact Ob
end
end Hm
end
section
set_option Elab.async false
set_option linter.all false
set_option maxRecDepth 100000
set_option maxHeartbeats 4000000
namespace Hm
open PySem PySem.Spec PyProof.Rows L2
open C8 (Cal Met Mak pe_c pe_mt pe_mt0 pe_mk pe_gc)
open Vbjtah (versionCount edgesOf isBelow distance)
/-! ### a row's making -/
open Vbjtah (Mark homeOf usedMarks usedMark startMarks startMark newRow used)
section
variable {P : Program} {w : World} {K : PySem.W.Frag} {mg : Str → Option Value} {base : Heap}
abbrev sp_Row_init (K : PySem.W.Frag) : Sp := MkSp (ι := Tr × Nat × Nat × Nat) (C_Row K) (fun (t, F, num, v) => [dTree K t F true, dn num, dn v]) (fun (t, F, num, v) => Wf t ∧ 1 ≤ F ∧ v < versionCount t)
  (fun (t, F, num, v) E W a => Grow E W ∧ ∃ q : RA, q.a = a ∧ RowAt K q t F (newRow t F num v) W ∧ ∀ x ∈ q.M, E.h x = none)
theorem mak_Row (T : Top K mg) : Mak P w K mg base 2 "Row" (C_Row K) (sp_Row_init K) [] :=
  makOf (mk_Row T) (gc_Row T) (F_Row_init T) sc_Row_init (fun _ _ _ _ _ _ us hl => match us, hl with | [_, _, _, _], _ => rfl) (fun _ _ _ _ h => h.len fun _ => rfl) fun cdv A outer s H vs Q E hr h => by
  obtain ⟨⟨t, F, num, v⟩, Hf, H0, a, dx, us, rfl, q1, q2, q3, rfl, ok, ⟨v1, _, rfl, r1, v2, _, rfl, r2, v3, _, rfl, r3, rfl⟩, hp, k⟩ := h
  dsimp only at hp k
  obtain ⟨hw, hF, hv⟩ := hp
  have r2 : v2 = vn num := r2
  have r3 : v3 = vn v := r3
  subst r2 r3
  have hc := vc_le hw
  refine ⟨_, (pss_cons (ps_fld (pv 0) (pv 2) rfl)
        (pss_cons (ps_fld (pv 0) (pv 3) rfl)
        (pss_cons (ps_fld (pv 0) (pv 3) rfl)
        (pss_cons (ps_fld (pv 0) (pe_lc (own := [("edge", 4)]) (g := gName 4) (tt := tYes) rfl sc_Row_init.nd (pi_range1 rfl (T_range T) (pa_cons (pe_fldK K rfl (pv 1) rfl) pa_nil)) (blkOk_by (own := [("edge", 4)]) (N := N_Row_init) (sc := defScope s_Row_init) (by decide +kernel)) (fun _ _ _ _ _ => (pg_name (i := 4) sc_Row_init.nd rfl (Or.inl rfl) (hf := Or.inr rfl))) (fun _ _ _ _ _ => pts_nil) (fun _ _ _ _ _ => (pe_mt (met_Tree_is_lower T) hr (by decide) (pv 1) (pa_cons (pv 4) (pa_cons (pv 3) pa_nil))))) rfl)
        (pss_cons (ps_fld (pv 0) (pe_lc (own := [("mark", 5)]) (g := gName 5) (tt := tYes) rfl sc_Row_init.nd (pi_listK K rfl (pe_fldK K rfl (pv 0) rfl)) (blkOk_by (own := [("mark", 5)]) (N := N_Row_init) (sc := defScope s_Row_init) (by decide +kernel)) (fun _ _ _ _ _ => (pg_name (i := 5) sc_Row_init.nd rfl (Or.inl rfl) (hf := Or.inr rfl))) (fun _ _ _ _ _ => pts_nil) (fun _ _ _ _ _ => (pe_ifExp (pt_val (pv 5)) (pe_fldK K rfl (pv 1) rfl) (pe_op op_sub pe_int (pe_fldK K rfl (pv 1) rfl))))) rfl)
        (pss_cons (ps_fld (pv 0) (pe_lst pa_nil) rfl)
        (pss_cons (ps_fld (pv 0) pe_int rfl)
        (pss_one (ps_fld (pv 0) pe_int rfl))))))))), ?_⟩
  have o0 := OwnO.start (C := C_Row K) ok q1 q2 q3
  refine s_newF o0 q1 rfl (cl_Row T) (na_Row_number T) rfl rfl (by decide) (ev_var (d := dn num) rfl rfl) fun W1 o1 x1 => ?_
  dsimp only
  refine s_newF o1 q1 rfl (cl_Row T) (na_Row_first T) rfl (by decide +kernel) (by decide) (ev_var (d := dn v) rfl rfl) fun W2 o2 x2 => ?_
  dsimp only
  refine s_newF o2 q1 rfl (cl_Row T) (na_Row_home T) rfl (by decide +kernel) (by decide) (ev_var (d := dn v) rfl rfl) fun W3 o3 x3 => ?_
  dsimp only
  have g3 := o3.gr
  refine s_newVF o3 q1 rfl (cl_Row T) (na_Row_marks T) rfl (by decide +kernel) (by decide) (ef_lcR (versionCount t) (fun _ => true) (fun e => .b (isBelow t e v)) (ea_cons (fld_count T (ev_var (up g3 r1) rfl)) ea_nil) (by omega) fun e W9 g9 he => ⟨et_yes, fun _ => ev_meth (x := (t, F, true, e, v)) rfl ⟨hw, hv⟩ (by decide +kernel) (ev_var (up (g3.trans g9) r1) rfl) (ea_cons (ev_var (W := W9) (d := dn e) rfl rfl) (ea_cons (ev_var (W := W9) (d := dn v) rfl rfl) ea_nil))⟩) fun pm W4 o4 rm z4 x4 y4 => ?_
  dsimp only
  have g4 := o4.gr
  have rm : Rep W4.f (.l ((flagsOf (startMarks t F v)).map D.b)) (.ref pm) := by
    rw [flags_start hw hv, List.map_map]
    rw [List.filter_eq_self.mpr fun _ _ => rfl] at rm
    exact rm
  refine s_newVF o4 q1 rfl (cl_Row T) (na_Row_counters T) rfl (by decide +kernel) (by decide) (ef_lcL (flagsOf (startMarks t F v)) D.b (fun _ => true) (fun b => .i (if b = true then (F : Int) else 0 - (F : Int))) (o4.fld (j := 3) (d := .v (.ref pm)) rfl (cl_Row T) (na_Row_marks T) (by decide +kernel) rfl |>.raw rm) (by rw [flags_len (start_ok hw hF hv)]; omega) fun i b x W9 g9 hx rx => ⟨et_yes, fun _ => ev_if (et_B (ev_var rx rfl)) (fun e => EvD.is (fld_factor T (ev_var (up (g4.trans g9) r1) rfl)) (by rw [if_pos e])) (fun e => EvD.is (ev_op rv_sub ev_int (fld_factor T (ev_var (up (g4.trans g9) r1) rfl))) (by rw [if_neg (by rw [e]; decide)]))⟩) fun pc W5 o5 rc z5 x5 y5 => ?_
  dsimp only
  have rc : Rep W5.f (.l ((countsOf F (startMarks t F v)).map D.i)) (.ref pc) := by
    rw [counts_start, List.map_map]
    rw [List.filter_eq_self.mpr fun _ _ => rfl] at rc
    exact rc
  refine s_newVF o5 q1 rfl (cl_Row T) (na_Row_uses T) rfl (by decide +kernel) (by decide) ef_nil fun pu W6 o6 ru z6 x6 y6 => ?_
  dsimp only
  refine s_newF o6 q1 rfl (cl_Row T) (na_Row_cost T) rfl (by decide +kernel) (by decide) (d := dn 0) ev_int fun W7 o7 x7 => ?_
  dsimp only
  refine s_newF o7 q1 rfl (cl_Row T) (na_Row_moves T) rfl (by decide +kernel) (by decide) (d := dn 0) ev_int fun W8 o8 x8 => ?_
  obtain ⟨ws, i1, i2⟩ := o8.ex
  have hws : ws = [vn num, vn v, vn v, .ref pm, .ref pc, .ref pu, vn 0, vn 0] := by
    obtain ⟨u1, _, rfl, j1, u2, _, rfl, j2, u3, _, rfl, j3, u4, _, rfl, j4, u5, _, rfl, j5, u6, _, rfl, j6, u7, _, rfl, j7, u8, _, rfl, j8, j9⟩ := i2
    have j9 : _ = [] := j9
    subst j9
    rw [show u1 = _ from j1, show u2 = _ from j2, show u3 = _ from j3, show u4 = _ from j4, show u5 = _ from j5, show u6 = _ from j6, show u7 = _ from j7, show u8 = _ from j8]
  subst hws
  obtain ⟨_, vs, es, f4, f4'⟩ := rm
  cases es
  obtain ⟨_, va, ea, f5, f5'⟩ := rc
  cases ea
  obtain ⟨_, vr, er, f6, f6'⟩ := ru
  cases er
  have f48 : W8.f pm = some (.lst vs) := x8 _ _ (x7 _ _ (x6 _ _ (x5 _ _ f4)))
  have f58 : W8.f pc = some (.lst va) := x8 _ _ (x7 _ _ (x6 _ _ f5))
  have f68 : W8.f pu = some (.lst vr) := x8 _ _ (x7 _ _ f6)
  have n8 := o8.nf
  have c4 : W4.f pc = none := none_of o4.gr.fh z5
  have u5 : W5.f pu = none := none_of o5.gr.fh z6
  have u4 : W4.f pu = none := none_of x5 u5
  have d1 : a ≠ pm := fun e => by rw [e, f48] at n8; cases n8
  have d2 : a ≠ pc := fun e => by rw [e, f58] at n8; cases n8
  have d3 : a ≠ pu := fun e => by rw [e, f68] at n8; cases n8
  have d4 : pm ≠ pc := fun e => by rw [← e, f4] at c4; cases c4
  have d5 : pm ≠ pu := fun e => by rw [← e, f4] at u4; cases u4
  have d6 : pc ≠ pu := fun e => by rw [← e, f5] at u5; cases u5
  have em : H0 pm = none := none_of o3.gr.hh z4
  have ec : H0 pc = none := none_of o4.gr.hh z5
  have eu : H0 pu = none := none_of o5.gr.hh z6
  have fresh : ∀ x ∈ (RA.mk a dx pm pc pu).M, H0 x = none := by
    intro x hx
    rcases List.mem_cons.mp hx with e | hx
    · subst e; exact q1
    rcases List.mem_cons.mp hx with e | hx
    · subst e; exact em
    rcases List.mem_cons.mp hx with e | hx
    · subst e; exact ec
    rcases List.mem_cons.mp hx with e | hx
    · subst e; exact eu
    · cases hx
  refine k ⟨Hf, W8.h⟩ ⟨⟨.refl _, o8.gr.ff.trans o8.gr.fh, o8.gr.hh, fun _ h _ => h⟩, ⟨a, dx, pm, pc, pu⟩, rfl, ⟨?_, ?_, ?_, ?_, fun x hx => none_of ok (fresh x hx), ?_, o8.gr.ff.trans o8.gr.fh⟩, fresh⟩
  · show W8.h a = some (.ins (C_Row K) dx (rwNames.zip [vn num, vn v, vn (homeOf t (startMarks t F v)), .ref pm, .ref pc, .ref pu, vn 0, vn 0]))
    rw [home_start hw hF hv]
    exact i1
  · show W8.h pm = _
    rw [o8.gr.fh _ _ f48, Reps.bools.mp f4']
    rfl
  · show W8.h pc = _
    rw [o8.gr.fh _ _ f58, Reps.ints.mp f5']
    rfl
  · show W8.h pu = _
    rw [o8.gr.fh _ _ f68, show vr = [] from f6']
    rfl
  · show [a, pm, pc, pu].Nodup
    simp only [List.nodup_cons, List.mem_cons, List.not_mem_nil, or_false, not_or, not_false_eq_true, List.nodup_nil, and_true]
    exact ⟨⟨d1, d2, d3⟩, ⟨d4, d5⟩, d6⟩
end
end Hm
end
section
set_option Elab.async false
set_option linter.all false
set_option maxRecDepth 100000
set_option maxHeartbeats 4000000
namespace Hm
open PySem PySem.Spec PyProof.Rows L2
open C8 (Cal Met Mak pe_c pe_mt pe_mt0 pe_mk pe_gc)
open Vbjtah (versionCount edgesOf isBelow distance)
/-! ### the desk, looked at -/
open Vbjtah (House pathOf)
structure RowOk (t : Tr) (F : Nat) (r : VRow) : Prop where
  first : r.first < versionCount t
  uses : ∀ u ∈ r.uses, u < versionCount t
  few : r.uses.length ≤ 60
  marks : MarksOk t F r.marks
structure HOk (h : House) : Prop where
  wf : Wf h.tree
  f1 : 1 ≤ h.factor
  f2 : h.factor ≤ 20
  rows : ∀ r ∈ h.rows, RowOk h.tree h.factor r
  many : h.rows.length ≤ 12
  srt : h.rows.Pairwise fun a b => a.number < b.number
def dkNames : List Str := ["tree", "rows"]
def dDesk (K : PySem.W.Frag) (h : House) : D := .o (C_Desk K) dkNames [dTree K h.tree h.factor true, .l (h.rows.map (dRow K h.tree h.factor))]
section
variable {K : PySem.W.Frag} {mg : Str → Option Value} {σ : L2.St} {W : Wd} {te : TE} {h : House}
theorem desk_tree (T : Top K mg) (e : EvD te σ W (dDesk K h)) : EvD (tFld K te "tree") σ W (dTree K h.tree h.factor true) := ev_fld 0 (cl_Desk T) (na_Desk_tree T) e (by decide +kernel) rfl
theorem desk_rows (T : Top K mg) (e : EvD te σ W (dDesk K h)) : EvD (tFld K te "rows") σ W (.l (h.rows.map (dRow K h.tree h.factor))) := ev_fld 1 (cl_Desk T) (na_Desk_rows T) e (by decide +kernel) rfl
end
def countedOf (l : List Int) : List Int := (l.length : Int) :: l
def areThere (h : House) (l : List Int) : Bool := l.all fun z => decide (z < (versionCount h.tree : Int))
def dInts (l : List Int) : D := .l (l.map D.i)
def nI (l : List Nat) : List Int := l.map fun (n : Nat) => (n : Int)
theorem dn_nI (l : List Nat) : l.map dn = (nI l).map D.i := dn_int l
section
variable {P : Program} {w : World} {K : PySem.W.Frag} {mg : Str → Option Value} {base : Heap}
abbrev sp_counted (K : PySem.W.Frag) : Sp := PuSp (ι := List Int) (fun l => [.l (l.map D.i)]) (fun l => l.length ≤ 100000) (fun l => .l ((countedOf l).map D.i))
theorem cal_counted (T : Top K mg) : Cal P w K mg base 1 "counted" (sp_counted K) [] :=
  calOf (F_counted T) (gf_counted T) sc_counted (fun _ _ _ _ _ _ us hl => match us, hl with | [_], _ => rfl) (fun _ _ _ _ h => h.len fun _ => rfl) fun cdv A outer s H vs Q E hr h => by
  obtain ⟨l, Hf, ok, ⟨v0, _, rfl, r0, rfl⟩, hp, k⟩ := h
  try dsimp only at hp k
  refine ⟨_, (pss_one (ps_ret (pe_op op_cat (pe_lst (pa_cons (pe_callB (lenK K rfl) rfl (T_len T) b_len (pa_cons (pv 0) pa_nil)) pa_nil)) (pv 0)))), ?_⟩
  exact s_ret (W := ⟨Hf, H⟩) (EvD.is (ev_op (rv_cat (xs := [dn l.length]) (by rw [List.length_map]; simp only [List.length_cons, List.length_nil]; omega)) (ev_lst (ea_cons ((ev_lenK (ev_var r0 rfl)).is (by rw [List.length_map])) ea_nil) (by show 1 ≤ 10000000; decide)) (ev_var r0 rfl)) rfl) ok k
abbrev sp_Desk_are_there (K : PySem.W.Frag) : Sp := PuSp (ι := House × List Int) (fun (h, l) => [dDesk K h, .l (l.map D.i)]) (fun (h, l) => l.length ≤ 1200) (fun (h, l) => .b (areThere h l))
theorem met_Desk_are_there (T : Top K mg) : Met P w K mg base 1 (C_Desk K) "are_there" (sp_Desk_are_there K) [] :=
  metOf (cl_Desk T) (me_Desk_are_there T) (F_Desk_are_there T) sc_Desk_are_there (fun _ _ _ _ _ _ us hl => match us, hl with | [_, _], _ => rfl) (fun _ _ _ _ h => h.len fun _ => rfl) fun cdv A outer s H vs Q E hr h => by
  obtain ⟨⟨h, l⟩, Hf, ok, ⟨v0, _, rfl, r0, v1, _, rfl, r1, rfl⟩, hp, k⟩ := h
  try dsimp only at hp k
  refine ⟨_, (pss_one (ps_ret (pe_callB (allK K rfl rfl) rfl (T_all T) b_all (pa_cons (pe_lc (own := [("version", 2)]) (g := gName 2) (tt := tYes) rfl sc_Desk_are_there.nd (pi_listK K rfl (pv 1)) (blkOk_by (own := [("version", 2)]) (N := N_Desk_are_there) (sc := defScope s_Desk_are_there) (by decide +kernel)) (fun _ _ _ _ _ => (pg_name (i := 2) sc_Desk_are_there.nd rfl (Or.inl rfl) (hf := Or.inr rfl))) (fun _ _ _ _ _ => pts_nil) (fun _ _ _ _ _ => (pe_cmpR op_lt (pv 2) (pe_fldK K rfl (pe_fldK K rfl (pv 0) rfl) rfl) (nomark _)))) pa_nil)))), ?_⟩
  exact s_ret (W := ⟨Hf, H⟩) (ev_allL (ev_mapL l D.i (fun z => .b (decide (z < (versionCount h.tree : Int)))) (ev_var r1 rfl) (by omega) fun i z x W1 g hx rx => ev_op rv_lt (ev_var rx rfl) (fld_count (full := true) T (desk_tree T (ev_var (up g r0) rfl))))) ok k
abbrev sp_Desk_told_median (K : PySem.W.Frag) : Sp := PuSp (ι := House × List Nat) (fun (h, ws) => [dDesk K h, .l (ws.map dn)]) (fun (h, ws) => HOk h ∧ ws.length ≤ 1200 ∧ ∀ x ∈ ws, x ≤ 1000) (fun (h, ws) => dInts (if ws.length ≠ versionCount h.tree then [-5] else 0 :: nI [Vbjtah.medianOf h.tree ws, Vbjtah.fixedCost h.tree ws (Vbjtah.medianOf h.tree ws)]))
theorem met_Desk_told_median (T : Top K mg) : Met P w K mg base 4 (C_Desk K) "told_median" (sp_Desk_told_median K) [] :=
  metOf (cl_Desk T) (me_Desk_told_median T) (F_Desk_told_median T) sc_Desk_told_median (fun _ _ _ _ _ _ us hl => match us, hl with | [_, _], _ => rfl) (fun _ _ _ _ h => h.len fun _ => rfl) fun cdv A outer s H vs Q E hr h => by
  obtain ⟨⟨h, ws⟩, Hf, ok, ⟨v0, _, rfl, r0, v1, _, rfl, r1, rfl⟩, hp, k⟩ := h
  try dsimp only at hp k
  refine ⟨_, (pss_cons (ps_if (pt_cmpR op_ne (pe_callB (lenK K rfl) rfl (T_len T) b_len (pa_cons (pv 1) pa_nil)) (pe_fldK K rfl (pe_fldK K rfl (pv 0) rfl) rfl) (nomark _))
      (pss_one (ps_ret (pe_callTy (listK K rfl) rfl (T_list T) b_list (pa_cons (pe_gc rfl (g_WRONG_COUNT T)) pa_nil))))
      pss_nil)
      (pss_cons (ps_asg (pe_c (cal_median T) hr (by decide) rfl (pa_cons (pe_fldK K rfl (pv 0) rfl) (pa_cons (pv 1) pa_nil))) (pg_tupK K rfl rfl (pgs_cons (pg_name (i := 2) sc_Desk_told_median.nd rfl (Or.inl rfl)) (pgs_cons (pg_name (i := 3) sc_Desk_told_median.nd rfl (Or.inl rfl)) pgs_nil))))
      (pss_one (ps_ret (pe_lst (pa_cons pe_int (pa_cons (pv 2) (pa_cons (pv 3) pa_nil)))))))), ?_⟩
  obtain ⟨ho, h1, h2⟩ := hp
  refine s_ifs (W := ⟨Hf, H⟩) (et_test (ev_op rv_neN ((ev_lenK (ev_var r1 rfl)).is (by rw [List.length_map])) (fld_count (full := true) T (desk_tree T (ev_var r0 rfl))))) ok (fun e W1 g => ?_) (fun e W1 g => ?_)
  · have e : ws.length ≠ versionCount h.tree := by simpa using e
    rw [if_pos e] at k
    exact s_end g (ev_listTop (ns := [-5]) (fun H => lst_of T (xt_parts T).2.2.2.2.2.2.2.1 H)) k
  have e : ws.length = versionCount h.tree := by simpa using e
  rw [if_neg (fun q => q e)] at k
  dsimp only
  refine s_two (ev_call (x := (h.tree, h.factor, ws)) ⟨e, h2, ho.wf⟩ (ea_cons (desk_tree T (ev_var (up g r0) rfl)) (ea_cons (ev_var (up g r1) rfl) ea_nil))) g.fh fun va vb W2 g2 ra rb => ?_
  dsimp only
  exact s_end (g.trans g2) (EvD.is (ev_lst (ea_cons ev_int (ea_cons (ev_var ra rfl) (ea_cons (ev_var rb rfl) ea_nil))) (by show 3 ≤ 10000000; decide)) rfl) k
end
end Hm
end
section
set_option Elab.async false
set_option linter.all false
set_option maxRecDepth 100000
set_option maxHeartbeats 4000000
namespace Hm
open PySem PySem.Spec PyProof.Rows L2
open C8 (Cal Met Mak pe_c pe_mt pe_mt0 pe_mk pe_gc)
open Vbjtah (versionCount edgesOf isBelow distance)
/-! ### the desk, looked at: what it tells -/
open Vbjtah (House pathOf bestCost bestSchedule scheduleCost homeOf boundValues valueFields firstAssignment pricesOf assignmentCost)
theorem RowOk.home {t : Tr} {F : Nat} {r : VRow} (w : Wf t) (o : RowOk t F r) : homeOf t r.marks < versionCount t := (home_head w o.marks).2
theorem dLst_ne {o : Option (Nat × Nat × Nat)} : PyData.eqv (toPy (dFault o)) (toPy (.l [])) = o.isNone := by cases o <;> rfl
theorem dFault_ok (o : Option (Nat × Nat × Nat)) : noObj (dFault o) = true ∧ SeqAt.shaped (toPy (dFault o)) = true := by
  cases o with
  | none => exact ⟨rfl, by decide⟩
  | some x =>
    refine ⟨rfl, ?_⟩
    unfold SeqAt.shaped
    rw [Bool.and_eq_true]
    exact ⟨rfl, rfl⟩
theorem dHeavy_ok (o : Option (Nat × Nat)) : noObj (dHeavy o) = true ∧ SeqAt.shaped (toPy (dHeavy o)) = true ∧ PyData.eqv (toPy (dHeavy o)) (toPy (.l [])) = o.isNone := by
  cases o with
  | none => exact ⟨rfl, by decide, rfl⟩
  | some x =>
    refine ⟨rfl, ?_, rfl⟩
    unfold SeqAt.shaped
    rw [Bool.and_eq_true]
    exact ⟨rfl, rfl⟩
section
variable {P : Program} {w : World} {K : PySem.W.Frag} {mg : Str → Option Value} {base : Heap}
abbrev sp_Desk_distance (K : PySem.W.Frag) : Sp := PuSp (ι := House × Nat × Nat) (fun (h, v, u) => [dDesk K h, dn v, dn u]) (fun (h, v, u) => HOk h) (fun (h, v, u) => dInts (if areThere h [(v : Int), (u : Int)] = false then [-4] else 0 :: (distance h.tree v u : Int) :: countedOf (nI (way h.tree v u))))
theorem met_Desk_distance (T : Top K mg) : Met P w K mg base 2 (C_Desk K) "distance" (sp_Desk_distance K) [] :=
  metOf (cl_Desk T) (me_Desk_distance T) (F_Desk_distance T) sc_Desk_distance (fun _ _ _ _ _ _ us hl => match us, hl with | [_, _, _], _ => rfl) (fun _ _ _ _ h => h.len fun _ => rfl) fun cdv A outer s H vs Q E hr h => by
  obtain ⟨⟨h, v, u⟩, Hf, ok, ⟨v0, _, rfl, r0, v1, _, rfl, r1, v2, _, rfl, r2, rfl⟩, hp, k⟩ := h
  try dsimp only at hp k
  refine ⟨_, (pss_cons (ps_if (pt_not (pt_val (pe_mt (met_Desk_are_there T) hr (by decide) (pv 0) (pa_cons (pe_lst (pa_cons (pv 1) (pa_cons (pv 2) pa_nil))) pa_nil))))
      (pss_one (ps_ret (pe_callTy (listK K rfl) rfl (T_list T) b_list (pa_cons (pe_gc rfl (g_NO_VERSION T)) pa_nil))))
      pss_nil)
      (pss_one (ps_ret (pe_op op_cat (pe_lst (pa_cons pe_int (pa_cons (pe_mt (met_Tree_distance T) hr (by decide) (pe_fldK K rfl (pv 0) rfl) (pa_cons (pv 1) (pa_cons (pv 2) pa_nil))) pa_nil))) (pe_c (cal_counted T) hr (by decide) rfl (pa_cons (pe_mt (met_Tree_way T) hr (by decide) (pe_fldK K rfl (pv 0) rfl) (pa_cons (pv 1) (pa_cons (pv 2) pa_nil))) pa_nil)))))), ?_⟩
  refine s_ifs (W := ⟨Hf, H⟩) (et_not (et_B (ev_meth (x := (h, [(v : Int), (u : Int)])) rfl (by show 2 ≤ 1200; decide) (by decide +kernel) (ev_var r0 rfl) (ea_cons (ev_lst (ea_cons (ev_var r1 rfl) (ea_cons (ev_var r2 rfl) ea_nil)) (by show 2 ≤ 10000000; decide)) ea_nil)))) ok (fun e W1 g => ?_) (fun e W1 g => ?_)
  · have e : areThere h [(v : Int), (u : Int)] = false := by simpa using e
    rw [if_pos e] at k
    exact s_end g (ev_listTop (ns := [-4]) (fun H => lst_of T (xt_parts T).2.2.2.2.2.2.1 H)) k
  have e : areThere h [(v : Int), (u : Int)] = true := by simpa using e
  rw [if_neg (by rw [e]; decide)] at k
  have hv : v < versionCount h.tree ∧ u < versionCount h.tree := by
    unfold areThere at e
    simp only [List.all_cons, List.all_nil, Bool.and_true, Bool.and_eq_true, decide_eq_true_iff, Int.ofNat_lt] at e
    exact e
  have hl : (way h.tree v u).length ≤ 1000 := by
    have a := ups_len hp.wf hv.1
    have b := ups_len hp.wf hv.2
    unfold way
    rw [List.length_append, List.length_append, List.length_reverse, List.length_take]
    have c := List.length_filter_le (fun x => !(decide (x ∈ ups h.tree u))) (ups h.tree v)
    have d := List.length_filter_le (fun x => !(decide (x ∈ ups h.tree v))) (ups h.tree u)
    omega
  dsimp only
  exact s_end g (EvD.is (ev_op (rv_cat (xs := [.i 0, dn (distance h.tree v u)]) (ys := (countedOf (nI (way h.tree v u))).map D.i) (by unfold countedOf nI; simp only [List.length_map, List.length_cons, List.length_nil]; omega)) (ev_lst (ea_cons ev_int (ea_cons (ev_meth (x := (h.tree, h.factor, v, u)) rfl hv (by decide +kernel) (desk_tree T (ev_var (up g r0) rfl)) (ea_cons (ev_var (up g r1) rfl) (ea_cons (ev_var (up g r2) rfl) ea_nil))) ea_nil)) (by show 2 ≤ 10000000; decide)) (ev_call (x := nI (way h.tree v u)) (by unfold nI; rw [List.length_map]; omega) (ea_cons (EvD.is (ev_meth (x := (h.tree, h.factor, v, u)) rfl ⟨hp.wf, hv.1, hv.2⟩ (by decide +kernel) (desk_tree T (ev_var (up g r0) rfl)) (ea_cons (ev_var (up g r1) rfl) (ea_cons (ev_var (up g r2) rfl) ea_nil))) (congrArg D.l (dn_nI _))) ea_nil))) rfl) k
abbrev sp_Desk_fixed_costs (K : PySem.W.Frag) : Sp := PuSp (ι := House) (fun h => [dDesk K h]) (fun h => HOk h) (fun h => dCosts (h.rows.map fun r => fixedRow h.tree r.uses))
theorem met_Desk_fixed_costs (T : Top K mg) : Met P w K mg base 4 (C_Desk K) "fixed_costs" (sp_Desk_fixed_costs K) [] :=
  metOf (cl_Desk T) (me_Desk_fixed_costs T) (F_Desk_fixed_costs T) sc_Desk_fixed_costs (fun _ _ _ _ _ _ us hl => match us, hl with | [_], _ => rfl) (fun _ _ _ _ h => h.len fun _ => rfl) fun cdv A outer s H vs Q E hr h => by
  obtain ⟨h, Hf, ok, ⟨v0, _, rfl, r0, rfl⟩, hp, k⟩ := h
  try dsimp only at hp k
  refine ⟨_, (pss_one (ps_ret (pe_c (cal_costs_of T) hr (by decide) rfl (pa_cons (pe_fldK K rfl (pv 0) rfl) (pa_cons (pe_lc (own := [("row", 1)]) (g := gName 1) (tt := tYes) rfl sc_Desk_fixed_costs.nd (pi_listK K rfl (pe_fldK K rfl (pv 0) rfl)) (blkOk_by (own := [("row", 1)]) (N := N_Desk_fixed_costs) (sc := defScope s_Desk_fixed_costs) (by decide +kernel)) (fun _ _ _ _ _ => (pg_name (i := 1) sc_Desk_fixed_costs.nd rfl (Or.inl rfl) (hf := Or.inr rfl))) (fun _ _ _ _ _ => pts_nil) (fun _ _ _ _ _ => (pe_fldK K rfl (pv 1) rfl))) pa_nil))))), ?_⟩
  exact s_ret (W := ⟨Hf, H⟩) (EvD.is (ev_call (x := (h.tree, h.factor, h.rows.map fun r => r.uses)) ⟨hp.wf, by show (List.map _ _).length ≤ 1000; rw [List.length_map]; have := hp.many; omega, fun us hu => by
      obtain ⟨r, hr, rfl⟩ := List.mem_map.mp hu
      have := (hp.rows r hr).few
      exact ⟨(hp.rows r hr).uses, by omega⟩⟩ (ea_cons (desk_tree T (ev_var r0 rfl)) (ea_cons (EvD.is (ev_mapL h.rows (dRow K h.tree h.factor) (fun r => .l (r.uses.map dn)) (desk_rows T (ev_var r0 rfl)) (by have := hp.many; omega) fun i r x W1 g hx rx => row_uses T (ev_var rx rfl)) (by rw [List.map_map]; rfl)) ea_nil))) (by show dCosts ((h.rows.map fun r => r.uses).map (fixedRow h.tree)) = _; rw [List.map_map]; rfl)) ok k
abbrev sp_Desk_told_row (K : PySem.W.Frag) : Sp := PuSp (ι := House × VRow) (fun (h, r) => [dDesk K h, dRow K h.tree h.factor r]) (fun (h, r) => HOk h ∧ r ∈ h.rows) (fun (h, r) => dInts (nI [0, homeOf h.tree r.marks, r.first, r.cost, r.moves, bestCost h.tree h.factor r.first r.uses] ++ countedOf (nI r.uses)))
theorem met_Desk_told_row (T : Top K mg) : Met P w K mg base 6 (C_Desk K) "told_row" (sp_Desk_told_row K) [] :=
  metOf (cl_Desk T) (me_Desk_told_row T) (F_Desk_told_row T) sc_Desk_told_row (fun _ _ _ _ _ _ us hl => match us, hl with | [_, _], _ => rfl) (fun _ _ _ _ h => h.len fun _ => rfl) fun cdv A outer s H vs Q E hr h => by
  obtain ⟨⟨h, r⟩, Hf, ok, ⟨v0, _, rfl, r0, v1, _, rfl, r1, rfl⟩, hp, k⟩ := h
  try dsimp only at hp k
  refine ⟨_, (pss_cons (ps_asg (pe_c (cal_best_schedule T) hr (by decide) rfl (pa_cons (pe_fldK K rfl (pv 0) rfl) (pa_cons (pe_fldK K rfl (pv 1) rfl) (pa_cons (pe_fldK K rfl (pv 1) rfl) pa_nil)))) (pg_tupK K rfl rfl (pgs_cons (pg_name (i := 2) sc_Desk_told_row.nd rfl (Or.inl rfl)) (pgs_cons (pg_name (i := 3) sc_Desk_told_row.nd rfl (Or.inl rfl)) pgs_nil))))
      (pss_one (ps_ret (pe_op op_cat (pe_lst (pa_cons pe_int (pa_cons (pe_fldK K rfl (pv 1) rfl) (pa_cons (pe_fldK K rfl (pv 1) rfl) (pa_cons (pe_fldK K rfl (pv 1) rfl) (pa_cons (pe_fldK K rfl (pv 1) rfl) (pa_cons (pv 2) pa_nil))))))) (pe_c (cal_counted T) hr (by decide) rfl (pa_cons (pe_fldK K rfl (pv 1) rfl) pa_nil)))))), ?_⟩
  obtain ⟨ho, hr'⟩ := hp
  have ro := ho.rows r hr'
  have few := ro.few
  refine s_two (W := ⟨Hf, H⟩) (ev_call (x := (h.tree, h.factor, r.first, r.uses)) ⟨ho.wf, ho.f2, ro.first, ro.uses, by omega⟩ (ea_cons (desk_tree T (ev_var r0 rfl)) (ea_cons (row_first T (ev_var r1 rfl)) (ea_cons (row_uses T (ev_var r1 rfl)) ea_nil)))) ok fun va vb W1 g ra rb => ?_
  dsimp only
  exact s_end g (EvD.is (ev_op (rv_cat (xs := (nI [0, homeOf h.tree r.marks, r.first, r.cost, r.moves, bestCost h.tree h.factor r.first r.uses]).map D.i) (ys := (countedOf (nI r.uses)).map D.i) (by unfold countedOf nI; simp only [List.length_map, List.length_cons, List.length_nil]; omega)) (ev_lst (ea_cons ev_int (ea_cons (row_home T (ev_var (up g r1) rfl)) (ea_cons (row_first T (ev_var (up g r1) rfl)) (ea_cons (row_cost T (ev_var (up g r1) rfl)) (ea_cons (row_moves T (ev_var (up g r1) rfl)) (ea_cons (ev_var ra rfl) ea_nil)))))) (by show 6 ≤ 10000000; decide)) (ev_call (x := nI r.uses) (by unfold nI; rw [List.length_map]; omega) (ea_cons (EvD.is (row_uses T (ev_var (up g r1) rfl)) (congrArg D.l (dn_nI _))) ea_nil))) (by unfold dInts; rw [List.map_append])) k
abbrev sp_Desk_told_schedule_cost (K : PySem.W.Frag) : Sp := PuSp (ι := House × VRow × List Nat) (fun (h, r, hs) => [dDesk K h, dRow K h.tree h.factor r, .l (hs.map dn)]) (fun (h, r, hs) => HOk h ∧ r ∈ h.rows ∧ hs.length ≤ 1200) (fun (h, r, hs) => dInts (if areThere h (nI hs) = false then [-4] else if hs.length ≠ r.uses.length then [-5] else [0, (scheduleCost h.tree h.factor r.first hs r.uses : Int)]))
theorem met_Desk_told_schedule_cost (T : Top K mg) : Met P w K mg base 3 (C_Desk K) "told_schedule_cost" (sp_Desk_told_schedule_cost K) [] :=
  metOf (cl_Desk T) (me_Desk_told_schedule_cost T) (F_Desk_told_schedule_cost T) sc_Desk_told_schedule_cost (fun _ _ _ _ _ _ us hl => match us, hl with | [_, _, _], _ => rfl) (fun _ _ _ _ h => h.len fun _ => rfl) fun cdv A outer s H vs Q E hr h => by
  obtain ⟨⟨h, r, hs⟩, Hf, ok, ⟨v0, _, rfl, r0, v1, _, rfl, r1, v2, _, rfl, r2, rfl⟩, hp, k⟩ := h
  try dsimp only at hp k
  refine ⟨_, (pss_cons (ps_if (pt_not (pt_val (pe_mt (met_Desk_are_there T) hr (by decide) (pv 0) (pa_cons (pv 2) pa_nil))))
      (pss_one (ps_ret (pe_callTy (listK K rfl) rfl (T_list T) b_list (pa_cons (pe_gc rfl (g_NO_VERSION T)) pa_nil))))
      pss_nil)
      (pss_cons (ps_if (pt_cmpR op_ne (pe_callB (lenK K rfl) rfl (T_len T) b_len (pa_cons (pv 2) pa_nil)) (pe_callB (lenK K rfl) rfl (T_len T) b_len (pa_cons (pe_fldK K rfl (pv 1) rfl) pa_nil)) (nomark _))
      (pss_one (ps_ret (pe_callTy (listK K rfl) rfl (T_list T) b_list (pa_cons (pe_gc rfl (g_WRONG_COUNT T)) pa_nil))))
      pss_nil)
      (pss_one (ps_ret (pe_lst (pa_cons pe_int (pa_cons (pe_c (cal_schedule_cost T) hr (by decide) rfl (pa_cons (pe_fldK K rfl (pv 0) rfl) (pa_cons (pe_fldK K rfl (pv 1) rfl) (pa_cons (pe_fldK K rfl (pv 1) rfl) (pa_cons (pv 2) pa_nil))))) pa_nil))))))), ?_⟩
  obtain ⟨ho, hr', hl⟩ := hp
  have ro := ho.rows r hr'
  refine s_ifs (W := ⟨Hf, H⟩) (et_not (et_B (ev_meth (x := (h, nI hs)) rfl (by show (nI hs).length ≤ 1200; unfold nI; rw [List.length_map]; exact hl) (by decide +kernel) (ev_var r0 rfl) (ea_cons (EvD.is (ev_var r2 rfl) (congrArg D.l (dn_nI _))) ea_nil)))) ok (fun e W1 g => ?_) (fun e W1 g => ?_)
  · have e : areThere h (nI hs) = false := by simpa using e
    rw [if_pos e] at k
    exact s_end g (ev_listTop (ns := [-4]) (fun H => lst_of T (xt_parts T).2.2.2.2.2.2.1 H)) k
  have e : areThere h (nI hs) = true := by simpa using e
  rw [if_neg (by rw [e]; decide)] at k
  have hv : ∀ u ∈ hs, u < versionCount h.tree := by
    intro u hu
    unfold areThere nI at e
    rw [List.all_map, List.all_eq_true] at e
    have := of_decide_eq_true (e u hu)
    exact Int.ofNat_lt.mp this
  dsimp only
  refine s_ifs (et_test (ev_op rv_neN ((ev_lenK (ev_var (up g r2) rfl)).is (by rw [List.length_map])) ((ev_lenK (row_uses T (ev_var (up g r1) rfl))).is (by rw [List.length_map])))) g.fh (fun e2 W2 g2 => ?_) (fun e2 W2 g2 => ?_)
  · have e2 : hs.length ≠ r.uses.length := by simpa using e2
    rw [if_pos e2] at k
    exact s_end (g.trans g2) (ev_listTop (ns := [-5]) (fun H => lst_of T (xt_parts T).2.2.2.2.2.2.2.1 H)) k
  have e2 : hs.length = r.uses.length := by simpa using e2
  rw [if_neg (fun q => q e2)] at k
  dsimp only
  exact s_end (g.trans g2) (EvD.is (ev_lst (ea_cons ev_int (ea_cons (ev_call (x := (h.tree, h.factor, r.first, r.uses, hs)) ⟨ho.f2, ro.first, ro.uses, hv, e2.symm⟩ (ea_cons (desk_tree T (ev_var (up (g.trans g2) r0) rfl)) (ea_cons (row_first T (ev_var (up (g.trans g2) r1) rfl)) (ea_cons (row_uses T (ev_var (up (g.trans g2) r1) rfl)) (ea_cons (ev_var (up (g.trans g2) r2) rfl) ea_nil))))) ea_nil)) (by show 2 ≤ 10000000; decide)) rfl) k
end
end Hm
end
section
set_option Elab.async false
set_option linter.all false
set_option maxRecDepth 100000
set_option maxHeartbeats 4000000
namespace Hm
open PySem PySem.Spec PyProof.Rows L2
open C8 (Cal Met Mak pe_c pe_mt pe_mt0 pe_mk pe_gc)
open Vbjtah (versionCount edgesOf isBelow distance)
/-! ### the desk, looked at: bounds, medians -/
open Vbjtah (House boundValues valueFields)
theorem fields_size (t : Tr) (F first : Nat) (uses : List Nat) : (valueFields (boundValues t F first uses)).length = 2 * (edgesOf t).length * (uses.length + 1) := by
  unfold valueFields boundValues
  rw [List.flatMap_map]
  have key : ∀ l : List Nat, (l.flatMap fun e => (Vbjtah.edgeCosts F (Vbjtah.lengthOf t e) (Vbjtah.firstCosts t F first e) (uses.map (isBelow t e))).flatMap fun x => [x.1, x.2]).length = 2 * l.length * (uses.length + 1) := by
    intro l
    induction l with
    | nil => simp
    | cons a l ih =>
      have h : (fieldsOf (pairsOf t F first uses a)).length = 2 * (uses.length + 1) := by rw [fieldsOf_len]; unfold pairsOf; rw [edgeCosts_len, List.length_map]
      have h' : ((Vbjtah.edgeCosts F (Vbjtah.lengthOf t a) (Vbjtah.firstCosts t F first a) (uses.map (isBelow t a))).flatMap fun x => [x.1, x.2]).length = 2 * (uses.length + 1) := h
      rw [List.flatMap_cons, List.length_append, ih, h', List.length_cons, show 2 * (l.length + 1) = 2 * l.length + 2 from rfl, Nat.add_mul]
      omega
  exact key (edgesOf t)
section
variable {P : Program} {w : World} {K : PySem.W.Frag} {mg : Str → Option Value} {base : Heap}
abbrev sp_Desk_bound (K : PySem.W.Frag) : Sp := PuSp (ι := House × VRow) (fun (h, r) => [dDesk K h, dRow K h.tree h.factor r]) (fun (h, r) => HOk h ∧ r ∈ h.rows) (fun (h, r) => dInts (0 :: boundSum h.tree r.uses.length (valueFields (boundValues h.tree h.factor r.first r.uses)) :: countedOf (valueFields (boundValues h.tree h.factor r.first r.uses))))
theorem met_Desk_bound (T : Top K mg) : Met P w K mg base 5 (C_Desk K) "bound" (sp_Desk_bound K) [] :=
  metOf (cl_Desk T) (me_Desk_bound T) (F_Desk_bound T) sc_Desk_bound (fun _ _ _ _ _ _ us hl => match us, hl with | [_, _], _ => rfl) (fun _ _ _ _ h => h.len fun _ => rfl) fun cdv A outer s H vs Q E hr h => by
  obtain ⟨⟨h, r⟩, Hf, ok, ⟨v0, _, rfl, r0, v1, _, rfl, r1, rfl⟩, hp, k⟩ := h
  try dsimp only at hp k
  refine ⟨_, (pss_cons (ps_set (i := 2) sc_Desk_bound.nd rfl (Or.inl rfl) (pe_c (cal_reported T) hr (by decide) rfl (pa_cons (pe_fldK K rfl (pv 0) rfl) (pa_cons (pe_fldK K rfl (pv 1) rfl) (pa_cons (pe_fldK K rfl (pv 1) rfl) pa_nil)))))
      (pss_one (ps_ret (pe_op op_cat (pe_lst (pa_cons pe_int (pa_cons (pe_c (cal_bound_of T) hr (by decide) rfl (pa_cons (pe_fldK K rfl (pv 0) rfl) (pa_cons (pe_fldK K rfl (pv 1) rfl) (pa_cons (pv 2) pa_nil)))) pa_nil))) (pe_c (cal_counted T) hr (by decide) rfl (pa_cons (pv 2) pa_nil)))))), ?_⟩
  obtain ⟨ho, hr'⟩ := hp
  have ro := ho.rows r hr'
  have few := ro.few
  have sz := fields_size h.tree h.factor r.first r.uses
  have sz2 : (valueFields (boundValues h.tree h.factor r.first r.uses)).length ≤ 100000 := by
    have a : (edgesOf h.tree).length ≤ 9 := by rw [edges_len]; exact ho.wf.pn
    have b := Nat.mul_le_mul (Nat.mul_le_mul (Nat.le_refl 2) a) (show r.uses.length + 1 ≤ 61 by omega)
    omega
  refine s_set (W := ⟨Hf, H⟩) (ev_call (x := (h.tree, h.factor, r.first, r.uses)) ⟨ho.wf, ho.f2, ro.first, ro.uses, by omega⟩ (ea_cons (desk_tree T (ev_var r0 rfl)) (ea_cons (row_first T (ev_var r1 rfl)) (ea_cons (row_uses T (ev_var r1 rfl)) ea_nil)))) ok fun v2 W1 g r2 => ?_
  dsimp only
  exact s_end g (EvD.is (ev_op (rv_cat (xs := [.i 0, .i (boundSum h.tree r.uses.length (valueFields (boundValues h.tree h.factor r.first r.uses)))]) (ys := (countedOf (valueFields (boundValues h.tree h.factor r.first r.uses))).map D.i) (by unfold countedOf; simp only [List.length_map, List.length_cons, List.length_nil]; omega)) (ev_lst (ea_cons ev_int (ea_cons (ev_call (x := (h.tree, h.factor, r.uses, valueFields (boundValues h.tree h.factor r.first r.uses))) ⟨ho.wf, sz⟩ (ea_cons (desk_tree T (ev_var (up g r0) rfl)) (ea_cons (row_uses T (ev_var (up g r1) rfl)) (ea_cons (ev_var r2 rfl) ea_nil)))) ea_nil)) (by show 2 ≤ 10000000; decide)) (ev_call (x := valueFields (boundValues h.tree h.factor r.first r.uses)) sz2 (ea_cons (ev_var r2 rfl) ea_nil))) rfl) k
abbrev sp_Desk_check_bound (K : PySem.W.Frag) : Sp := PuSp (ι := House × VRow × List Int) (fun (h, r, vs) => [dDesk K h, dRow K h.tree h.factor r, .l (vs.map D.i)]) (fun (h, r, vs) => HOk h ∧ r ∈ h.rows ∧ vs.length ≤ 1200) (fun (h, r, vs) => dInts (if vs.length ≠ 2 * (versionCount h.tree - 1) * (r.uses.length + 1) then [-5] else match faultFind h.tree h.factor r.first r.uses vs with | some x => [0, 0, (x.1 : Int), (x.2.1 : Int), (x.2.2 : Int)] | none => [0, 1, boundSum h.tree r.uses.length vs]))
theorem met_Desk_check_bound (T : Top K mg) : Met P w K mg base 6 (C_Desk K) "check_bound" (sp_Desk_check_bound K) [] :=
  metOf (cl_Desk T) (me_Desk_check_bound T) (F_Desk_check_bound T) sc_Desk_check_bound (fun _ _ _ _ _ _ us hl => match us, hl with | [_, _, _], _ => rfl) (fun _ _ _ _ h => h.len fun _ => rfl) fun cdv A outer s H vs Q E hr h => by
  obtain ⟨⟨h, r, vs⟩, Hf, ok, ⟨v0, _, rfl, r0, v1, _, rfl, r1, v2, _, rfl, r2, rfl⟩, hp, k⟩ := h
  try dsimp only at hp k
  refine ⟨_, (pss_cons (ps_if (pt_cmpR op_ne (pe_callB (lenK K rfl) rfl (T_len T) b_len (pa_cons (pv 2) pa_nil)) (pe_op op_mul (pe_op op_mul pe_int (pe_op op_sub (pe_fldK K rfl (pe_fldK K rfl (pv 0) rfl) rfl) pe_int)) (pe_op op_add (pe_callB (lenK K rfl) rfl (T_len T) b_len (pa_cons (pe_fldK K rfl (pv 1) rfl) pa_nil)) pe_int)) (nomark _))
      (pss_one (ps_ret (pe_callTy (listK K rfl) rfl (T_list T) b_list (pa_cons (pe_gc rfl (g_WRONG_COUNT T)) pa_nil))))
      pss_nil)
      (pss_cons (ps_set (i := 3) sc_Desk_check_bound.nd rfl (Or.inl rfl) (pe_c (cal_first_fault T) hr (by decide) rfl (pa_cons (pe_fldK K rfl (pv 0) rfl) (pa_cons (pe_fldK K rfl (pv 1) rfl) (pa_cons (pe_fldK K rfl (pv 1) rfl) (pa_cons (pv 2) pa_nil))))))
      (pss_one (ps_ret (pe_ifExp (pt_cmpR (op_neD hr.units) (pv 3) (pe_lst pa_nil) (nomark _)) (pe_op op_cat (pe_lst (pa_cons pe_int (pa_cons pe_int pa_nil))) (pv 3)) (pe_lst (pa_cons pe_int (pa_cons pe_int (pa_cons (pe_c (cal_bound_of T) hr (by decide) rfl (pa_cons (pe_fldK K rfl (pv 0) rfl) (pa_cons (pe_fldK K rfl (pv 1) rfl) (pa_cons (pv 2) pa_nil)))) pa_nil))))))))), ?_⟩
  obtain ⟨ho, hr', hl⟩ := hp
  have ro := ho.rows r hr'
  have few := ro.few
  have hc := vc_le ho.wf
  have hc0 : 1 ≤ versionCount h.tree := by unfold versionCount; omega
  refine s_ifs (W := ⟨Hf, H⟩) (et_test (ev_op rv_neN ((ev_lenK (ev_var r2 rfl)).is (by rw [List.length_map])) (ev_op (rv_mulN (by omega)) (ev_op (rv_mulN (a := 2) (by omega)) ev_int (ev_op (rv_subN hc0) (fld_count (full := true) T (desk_tree T (ev_var r0 rfl))) (ev_nat (n := 1)))) (ev_op rv_addN ((ev_lenK (row_uses T (ev_var r1 rfl))).is (by rw [List.length_map])) (ev_nat (n := 1)))))) ok (fun e W1 g => ?_) (fun e W1 g => ?_)
  · have e : vs.length ≠ 2 * (versionCount h.tree - 1) * (r.uses.length + 1) := by simpa using e
    rw [if_pos e] at k
    exact s_end g (ev_listTop (ns := [-5]) (fun H => lst_of T (xt_parts T).2.2.2.2.2.2.2.1 H)) k
  have e : vs.length = 2 * (versionCount h.tree - 1) * (r.uses.length + 1) := by simpa using e
  rw [if_neg (fun q => q e)] at k
  have hel : (edgesOf h.tree).length = versionCount h.tree - 1 := by rw [edges_len]; rfl
  rw [← hel] at e
  dsimp only
  refine s_set (ev_call (x := (h.tree, h.factor, r.first, r.uses, vs)) ⟨ho.wf, ho.f2, ro.first, ro.uses, by omega, e⟩ (ea_cons (desk_tree T (ev_var (up g r0) rfl)) (ea_cons (row_first T (ev_var (up g r1) rfl)) (ea_cons (row_uses T (ev_var (up g r1) rfl)) (ea_cons (ev_var (up g r2) rfl) ea_nil))))) g.fh fun v3 W2 g2 r3 => ?_
  dsimp only at r3
  dsimp only
  obtain ⟨f1, f2⟩ := dFault_ok (faultFind h.tree h.factor r.first r.uses vs)
  have a2 := g.trans g2
  cases hf : faultFind h.tree h.factor r.first r.uses vs with
  | none =>
    rw [hf] at k r3 f1 f2
    exact s_end a2 (EvD.is (ev_if (a := false) (et_test (ev_op (rv_neD f1 rfl f2 (by decide)) (ev_var r3 rfl) (ev_lst ea_nil (by show 0 ≤ 10000000; decide)))) (fun q => by cases q) (fun _ => ev_lst (ea_cons ev_int (ea_cons ev_int (ea_cons (ev_call (x := (h.tree, h.factor, r.uses, vs)) ⟨ho.wf, e⟩ (ea_cons (desk_tree T (ev_var (up a2 r0) rfl)) (ea_cons (row_uses T (ev_var (up a2 r1) rfl)) (ea_cons (ev_var (up a2 r2) rfl) ea_nil)))) ea_nil))) (by show 3 ≤ 10000000; decide))) rfl) k
  | some x =>
    rw [hf] at k r3 f1 f2
    exact s_end a2 (EvD.is (ev_if (a := true) (et_test (ev_op (rv_neD f1 rfl f2 (by decide)) (ev_var r3 rfl) (ev_lst ea_nil (by show 0 ≤ 10000000; decide)))) (fun _ => ev_op (rv_cat (xs := [.i 0, .i 0]) (ys := [dn x.1, dn x.2.1, dn x.2.2]) (by show 2 + 3 ≤ 10000000; decide)) (ev_lst (ea_cons ev_int (ea_cons ev_int ea_nil)) (by show 2 ≤ 10000000; decide)) (ev_var r3 rfl)) (fun q => by cases q)) rfl) k
end
end Hm
end
section
set_option Elab.async false
set_option linter.all false
set_option maxRecDepth 100000
set_option maxHeartbeats 4000000
namespace Hm
open PySem PySem.Spec PyProof.Rows L2
open C8 (Cal Met Mak pe_c pe_mt pe_mt0 pe_mk pe_gc)
open Vbjtah (versionCount edgesOf isBelow distance)
/-! ### the desk, looked at: medians, rows, status -/
open Vbjtah (House homeOf)
theorem first_ok_all {n : Nat} : ∀ (cs : List (List Nat)) (L : List Nat), L.length = n → cs.length ≤ roomOf L n → (Vbjtah.firstAssignment n cs L).length = cs.length ∧ ∀ v ∈ Vbjtah.firstAssignment n cs L, v < n
  | [], _, _, _ => ⟨rfl, fun _ h => by cases h⟩
  | own :: rest, L, hL, hr => by
    obtain ⟨v, hv, lv, _, _, e⟩ := first_step (n := n) hL hr
    have := room_dec hL hv lv
    rw [List.length_cons] at hr
    obtain ⟨i1, i2⟩ := first_ok_all rest (setBy L v (-1)) (by rw [setBy_len, hL]) (by omega)
    rw [e]
    refine ⟨by rw [List.length_cons, List.length_cons, i1], fun u hu => ?_⟩
    rcases List.mem_cons.mp hu with q | q
    · rw [q]; exact hv
    · exact i2 u q
section
variable {P : Program} {w : World} {K : PySem.W.Frag} {mg : Str → Option Value} {base : Heap}
abbrev sp_Desk_check_median (K : PySem.W.Frag) : Sp := PuSp (ι := House × Nat × List Nat) (fun (h, v, ws) => [dDesk K h, dn v, .l (ws.map dn)]) (fun (h, v, ws) => HOk h ∧ ws.length ≤ 1200) (fun (h, v, ws) => dInts (if areThere h [(v : Int)] = false then [-4] else if ws.length ≠ versionCount h.tree then [-5] else match heavySide h.tree ws v with | some x => [0, 0, (x.1 : Int), (x.2 : Int)] | none => [0, 1]))
theorem met_Desk_check_median (T : Top K mg) : Met P w K mg base 5 (C_Desk K) "check_median" (sp_Desk_check_median K) [] :=
  metOf (cl_Desk T) (me_Desk_check_median T) (F_Desk_check_median T) sc_Desk_check_median (fun _ _ _ _ _ _ us hl => match us, hl with | [_, _, _], _ => rfl) (fun _ _ _ _ h => h.len fun _ => rfl) fun cdv A outer s H vs Q E hr h => by
  obtain ⟨⟨h, v, ws⟩, Hf, ok, ⟨v0, _, rfl, r0, v1, _, rfl, r1, v2, _, rfl, r2, rfl⟩, hp, k⟩ := h
  try dsimp only at hp k
  refine ⟨_, (pss_cons (ps_if (pt_not (pt_val (pe_mt (met_Desk_are_there T) hr (by decide) (pv 0) (pa_cons (pe_lst (pa_cons (pv 1) pa_nil)) pa_nil))))
      (pss_one (ps_ret (pe_callTy (listK K rfl) rfl (T_list T) b_list (pa_cons (pe_gc rfl (g_NO_VERSION T)) pa_nil))))
      pss_nil)
      (pss_cons (ps_if (pt_cmpR op_ne (pe_callB (lenK K rfl) rfl (T_len T) b_len (pa_cons (pv 2) pa_nil)) (pe_fldK K rfl (pe_fldK K rfl (pv 0) rfl) rfl) (nomark _))
      (pss_one (ps_ret (pe_callTy (listK K rfl) rfl (T_list T) b_list (pa_cons (pe_gc rfl (g_WRONG_COUNT T)) pa_nil))))
      pss_nil)
      (pss_cons (ps_set (i := 3) sc_Desk_check_median.nd rfl (Or.inl rfl) (pe_c (cal_heavier_side T) hr (by decide) rfl (pa_cons (pe_fldK K rfl (pv 0) rfl) (pa_cons (pv 1) (pa_cons (pv 2) pa_nil)))))
      (pss_one (ps_ret (pe_ifExp (pt_cmpR (op_neD hr.units) (pv 3) (pe_lst pa_nil) (nomark _)) (pe_op op_cat (pe_lst (pa_cons pe_int (pa_cons pe_int pa_nil))) (pv 3)) (pe_lst (pa_cons pe_int (pa_cons pe_int pa_nil))))))))), ?_⟩
  obtain ⟨ho, hl⟩ := hp
  refine s_ifs (W := ⟨Hf, H⟩) (et_not (et_B (ev_meth (x := (h, [(v : Int)])) rfl (by show 1 ≤ 1200; decide) (by decide +kernel) (ev_var r0 rfl) (ea_cons (ev_lst (ea_cons (ev_var r1 rfl) ea_nil) (by show 1 ≤ 10000000; decide)) ea_nil)))) ok (fun e W1 g => ?_) (fun e W1 g => ?_)
  · have e : areThere h [(v : Int)] = false := by simpa using e
    rw [if_pos e] at k
    exact s_end g (ev_listTop (ns := [-4]) (fun H => lst_of T (xt_parts T).2.2.2.2.2.2.1 H)) k
  have e : areThere h [(v : Int)] = true := by simpa using e
  rw [if_neg (by rw [e]; decide)] at k
  have hv : v < versionCount h.tree := by
    unfold areThere at e
    simp only [List.all_cons, List.all_nil, Bool.and_true, decide_eq_true_iff, Int.ofNat_lt] at e
    exact e
  dsimp only
  refine s_ifs (et_test (ev_op rv_neN ((ev_lenK (ev_var (up g r2) rfl)).is (by rw [List.length_map])) (fld_count (full := true) T (desk_tree T (ev_var (up g r0) rfl))))) g.fh (fun e2 W2 g2 => ?_) (fun e2 W2 g2 => ?_)
  · have e2 : ws.length ≠ versionCount h.tree := by simpa using e2
    rw [if_pos e2] at k
    exact s_end (g.trans g2) (ev_listTop (ns := [-5]) (fun H => lst_of T (xt_parts T).2.2.2.2.2.2.2.1 H)) k
  have e2 : ws.length = versionCount h.tree := by simpa using e2
  rw [if_neg (fun q => q e2)] at k
  dsimp only
  have a2 := g.trans g2
  refine s_set (ev_call (x := (h.tree, h.factor, v, ws)) ⟨ho.wf, hv, e2⟩ (ea_cons (desk_tree T (ev_var (up a2 r0) rfl)) (ea_cons (ev_var (up a2 r1) rfl) (ea_cons (ev_var (up a2 r2) rfl) ea_nil)))) g2.fh fun v3 W3 g3 r3 => ?_
  dsimp only at r3
  dsimp only
  have a3 := a2.trans g3
  obtain ⟨f1, f2, _⟩ := dHeavy_ok (heavySide h.tree ws v)
  cases hf : heavySide h.tree ws v with
  | none =>
    rw [hf] at k r3 f1 f2
    exact s_end a3 (EvD.is (ev_if (a := false) (et_test (ev_op (rv_neD f1 rfl f2 (by decide)) (ev_var r3 rfl) (ev_lst ea_nil (by show 0 ≤ 10000000; decide)))) (fun q => by cases q) (fun _ => ev_lst (ea_cons ev_int (ea_cons ev_int ea_nil)) (by show 2 ≤ 10000000; decide))) rfl) k
  | some x =>
    rw [hf] at k r3 f1 f2
    exact s_end a3 (EvD.is (ev_if (a := true) (et_test (ev_op (rv_neD f1 rfl f2 (by decide)) (ev_var r3 rfl) (ev_lst ea_nil (by show 0 ≤ 10000000; decide)))) (fun _ => ev_op (rv_cat (xs := [.i 0, .i 0]) (ys := [dn x.1, dn x.2]) (by show 2 + 2 ≤ 10000000; decide)) (ev_lst (ea_cons ev_int (ea_cons ev_int ea_nil)) (by show 2 ≤ 10000000; decide)) (ev_var r3 rfl)) (fun q => by cases q)) rfl) k
abbrev sp_Desk_assign (K : PySem.W.Frag) : Sp := PuSp (ι := House × List Nat) (fun (h, L) => [dDesk K h, .l (L.map dn)]) (fun (h, L) => HOk h ∧ L.length ≤ 1200) (fun (h, L) => dInts (if L.length ≠ versionCount h.tree then [-5] else if L.sum < h.rows.length then [-8] else 0 :: Vbjtah.assignmentCost (h.rows.map fun r => fixedRow h.tree r.uses) (Vbjtah.firstAssignment (versionCount h.tree) (h.rows.map fun r => fixedRow h.tree r.uses) L) :: (countedOf (nI (Vbjtah.firstAssignment (versionCount h.tree) (h.rows.map fun r => fixedRow h.tree r.uses) L)) ++ countedOf (Vbjtah.pricesOf (versionCount h.tree) (h.rows.map fun r => fixedRow h.tree r.uses) L))))
theorem met_Desk_assign (T : Top K mg) : Met P w K mg base 10 (C_Desk K) "assign" (sp_Desk_assign K) [] :=
  metOf (cl_Desk T) (me_Desk_assign T) (F_Desk_assign T) sc_Desk_assign (fun _ _ _ _ _ _ us hl => match us, hl with | [_, _], _ => rfl) (fun _ _ _ _ h => h.len fun _ => rfl) fun cdv A outer s H vs Q E hr h => by
  obtain ⟨⟨h, L⟩, Hf, ok, ⟨v0, _, rfl, r0, v1, _, rfl, r1, rfl⟩, hp, k⟩ := h
  try dsimp only at hp k
  refine ⟨_, (pss_cons (ps_if (pt_cmpR op_ne (pe_callB (lenK K rfl) rfl (T_len T) b_len (pa_cons (pv 1) pa_nil)) (pe_fldK K rfl (pe_fldK K rfl (pv 0) rfl) rfl) (nomark _))
      (pss_one (ps_ret (pe_callTy (listK K rfl) rfl (T_list T) b_list (pa_cons (pe_gc rfl (g_WRONG_COUNT T)) pa_nil))))
      pss_nil)
      (pss_cons (ps_if (pt_cmpR op_lt (pe_callB (sumK K rfl rfl) rfl (T_sum T) b_sum (pa_cons (pv 1) pa_nil)) (pe_callB (lenK K rfl) rfl (T_len T) b_len (pa_cons (pe_fldK K rfl (pv 0) rfl) pa_nil)) (nomark _))
      (pss_one (ps_ret (pe_callTy (listK K rfl) rfl (T_list T) b_list (pa_cons (pe_gc rfl (g_NO_ROOM T)) pa_nil))))
      pss_nil)
      (pss_cons (ps_set (i := 2) sc_Desk_assign.nd rfl (Or.inl rfl) (pe_mt0 (met_Desk_fixed_costs T) hr (by decide) (pv 0)))
      (pss_cons (ps_set (i := 3) sc_Desk_assign.nd rfl (Or.inl rfl) (pe_c (cal_best_homes T) hr (by decide) rfl (pa_cons (pv 2) (pa_cons (pv 1) pa_nil))))
      (pss_one (ps_ret (pe_op op_cat (pe_op op_cat (pe_lst (pa_cons pe_int (pa_cons (pe_c (cal_homes_cost T) hr (by decide) rfl (pa_cons (pv 2) (pa_cons (pv 3) pa_nil))) pa_nil))) (pe_c (cal_counted T) hr (by decide) rfl (pa_cons (pv 3) pa_nil))) (pe_c (cal_counted T) hr (by decide) rfl (pa_cons (pe_c (cal_prices_of T) hr (by decide) rfl (pa_cons (pv 2) (pa_cons (pv 1) pa_nil))) pa_nil))))))))), ?_⟩
  obtain ⟨ho, hl⟩ := hp
  refine s_ifs (W := ⟨Hf, H⟩) (et_test (ev_op rv_neN ((ev_lenK (ev_var r1 rfl)).is (by rw [List.length_map])) (fld_count (full := true) T (desk_tree T (ev_var r0 rfl))))) ok (fun e W1 g => ?_) (fun e W1 g => ?_)
  · have e : L.length ≠ versionCount h.tree := by simpa using e
    rw [if_pos e] at k
    exact s_end g (ev_listTop (ns := [-5]) (fun H => lst_of T (xt_parts T).2.2.2.2.2.2.2.1 H)) k
  have e : L.length = versionCount h.tree := by simpa using e
  rw [if_neg (fun q => q e)] at k
  dsimp only
  refine s_ifs (et_test (ev_op rv_ltN (ev_sumN (ev_var (up g r1) rfl)) ((ev_lenK (desk_rows T (ev_var (up g r0) rfl))).is (by rw [List.length_map])))) g.fh (fun e2 W2 g2 => ?_) (fun e2 W2 g2 => ?_)
  · have e2 := of_decide_eq_true e2
    rw [if_pos e2] at k
    exact s_end (g.trans g2) (ev_listTop (ns := [-8]) (fun H => lst_of T (xt_parts T).2.2.2.2.2.2.2.2.2.2 H)) k
  have e2 := of_decide_eq_false e2
  rw [if_neg e2] at k
  dsimp only
  have a2 := g.trans g2
  have hn := vc_le ho.wf
  obtain ⟨n, en⟩ : ∃ n, versionCount h.tree = n := ⟨_, rfl⟩
  obtain ⟨cs, ecs⟩ : ∃ cs, (h.rows.map fun r => fixedRow h.tree r.uses) = cs := ⟨_, rfl⟩
  have hsq : Sq cs n := fun l hl => by
    rw [← ecs] at hl
    obtain ⟨r, _, rfl⟩ := List.mem_map.mp hl
    rw [← en]
    unfold fixedRow
    rw [List.length_map, List.length_range]
  have hcl : cs.length = h.rows.length := by rw [← ecs, List.length_map]
  have hmany := ho.many
  have hroom : cs.length ≤ roomOf L n := by rw [room_sum (by rw [e, en]), hcl]; omega
  rw [en, ecs] at k
  have hpre : Sq cs n ∧ cs.length ≤ 1000 ∧ n ≤ 1000 ∧ L.length = n ∧ cs.length ≤ roomOf L n := ⟨hsq, by omega, by omega, by rw [e, en], hroom⟩
  refine s_set (EvD.is (ev_meth (x := h) rfl ho (by decide +kernel) (ev_var (up a2 r0) rfl) ea_nil) (d' := dCosts cs) (by rw [ecs])) g2.fh fun v2 W3 g3 r2 => ?_
  dsimp only
  have a3 := a2.trans g3
  refine s_set (ev_call (x := (cs, n, L)) hpre (ea_cons (ev_var r2 rfl) (ea_cons (ev_var (up a3 r1) rfl) ea_nil))) g3.fh fun v3 W4 g4 r3 => ?_
  dsimp only at r3
  dsimp only
  have a4 := a3.trans g4
  obtain ⟨fl, fv⟩ := first_ok_all (n := n) cs L (by rw [e, en]) hroom
  have pl : (Vbjtah.pricesOf n cs L).length = n := by unfold Vbjtah.pricesOf; rw [List.length_map, List.length_range]
  exact s_end a4 (EvD.is (ev_op (rv_cat (xs := [.i 0, .i (Vbjtah.assignmentCost cs (Vbjtah.firstAssignment n cs L))] ++ (countedOf (nI (Vbjtah.firstAssignment n cs L))).map D.i) (ys := (countedOf (Vbjtah.pricesOf n cs L)).map D.i) (by unfold countedOf nI; simp only [List.length_append, List.length_map, List.length_cons, List.length_nil]; omega)) (ev_op (rv_cat (xs := [.i 0, .i (Vbjtah.assignmentCost cs (Vbjtah.firstAssignment n cs L))]) (ys := (countedOf (nI (Vbjtah.firstAssignment n cs L))).map D.i) (by unfold countedOf nI; simp only [List.length_map, List.length_cons, List.length_nil]; omega)) (ev_lst (ea_cons ev_int (ea_cons (ev_call (x := (cs, n, Vbjtah.firstAssignment n cs L)) ⟨hsq, by show List.length _ ≤ cs.length; omega, by show List.length _ ≤ 1000; omega, fv⟩ (ea_cons (ev_var (up g4 r2) rfl) (ea_cons (ev_var r3 rfl) ea_nil))) ea_nil)) (by show 2 ≤ 10000000; decide)) (ev_call (x := nI (Vbjtah.firstAssignment n cs L)) (by unfold nI; rw [List.length_map]; omega) (ea_cons (EvD.is (ev_var r3 rfl) (congrArg D.l (dn_nI _))) ea_nil))) (ev_call (x := Vbjtah.pricesOf n cs L) (by rw [pl]; omega) (ea_cons (ev_call (x := (cs, n, L)) hpre (ea_cons (ev_var (up g4 r2) rfl) (ea_cons (ev_var (up a4 r1) rfl) ea_nil))) ea_nil))) (by unfold dInts; simp only [List.map_cons, List.map_append, List.cons_append, List.nil_append])) k
end
end Hm
end
section
set_option Elab.async false
set_option linter.all false
set_option maxRecDepth 100000
set_option maxHeartbeats 4000000
namespace Hm
open PySem PySem.Spec PyProof.Rows L2
open C8 (Cal Met Mak pe_c pe_mt pe_mt0 pe_mk pe_gc)
open Vbjtah (versionCount edgesOf isBelow distance)
/-! ### the desk, looked at: assignments checked, status, a row -/
open Vbjtah (House homeOf)
theorem dAF_ok (a b c : Int) : noObj (dAF a b c) = true ∧ SeqAt.shaped (toPy (dAF a b c)) = true := by
  unfold dAF
  split
  · split
    · split
      · exact ⟨rfl, by decide⟩
      · refine ⟨rfl, ?_⟩
        unfold SeqAt.shaped
        rw [Bool.and_eq_true]
        exact ⟨rfl, rfl⟩
    · refine ⟨rfl, ?_⟩
      unfold SeqAt.shaped
      rw [Bool.and_eq_true]
      exact ⟨rfl, rfl⟩
  · refine ⟨rfl, ?_⟩
    unfold SeqAt.shaped
    rw [Bool.and_eq_true]
    exact ⟨rfl, rfl⟩
/-- the fault as a list of numbers -/
def lAF (a b c : Int) : List Int := if a = -1 then (if b = -1 then (if c = -1 then [] else [3, c]) else [2, b]) else [1, a]
theorem dAF_l (a b c : Int) : dAF a b c = .l ((lAF a b c).map D.i) := by
  unfold dAF lAF
  split
  · split
    · split <;> rfl
    · rfl
  · rfl
section
variable {P : Program} {w : World} {K : PySem.W.Frag} {mg : Str → Option Value} {base : Heap}
abbrev sp_Desk_check_assignment (K : PySem.W.Frag) : Sp := PuSp (ι := House × List Nat × List Nat × List Int) (fun (h, L, hs, pr) => [dDesk K h, .l (L.map dn), .l (hs.map dn), .l (pr.map D.i)]) (fun (h, L, hs, pr) => HOk h ∧ L.length ≤ 1200 ∧ hs.length ≤ 1200 ∧ pr.length ≤ 1200) (fun (h, L, hs, pr) => dInts (if areThere h (nI hs) = false then [-4] else if L.length ≠ versionCount h.tree ∨ pr.length ≠ versionCount h.tree ∨ hs.length ≠ h.rows.length then [-5] else if lAF (crowdedAt L hs) (pricedAt L hs pr) (unhappyAt (h.rows.map fun r => fixedRow h.tree r.uses) hs pr) = [] then [0, 1, Vbjtah.assignmentCost (h.rows.map fun r => fixedRow h.tree r.uses) hs] else 0 :: 0 :: lAF (crowdedAt L hs) (pricedAt L hs pr) (unhappyAt (h.rows.map fun r => fixedRow h.tree r.uses) hs pr)))
theorem met_Desk_check_assignment (T : Top K mg) : Met P w K mg base 5 (C_Desk K) "check_assignment" (sp_Desk_check_assignment K) [] :=
  metOf (cl_Desk T) (me_Desk_check_assignment T) (F_Desk_check_assignment T) sc_Desk_check_assignment (fun _ _ _ _ _ _ us hl => match us, hl with | [_, _, _, _], _ => rfl) (fun _ _ _ _ h => h.len fun _ => rfl) fun cdv A outer s H vs Q E hr h => by
  obtain ⟨⟨h, L, hs, pr⟩, Hf, ok, ⟨v0, _, rfl, r0, v1, _, rfl, r1, v2, _, rfl, r2, v3, _, rfl, r3, rfl⟩, hp, k⟩ := h
  try dsimp only at hp k
  refine ⟨_, (pss_cons (ps_if (pt_not (pt_val (pe_mt (met_Desk_are_there T) hr (by decide) (pv 0) (pa_cons (pv 2) pa_nil))))
      (pss_one (ps_ret (pe_callTy (listK K rfl) rfl (T_list T) b_list (pa_cons (pe_gc rfl (g_NO_VERSION T)) pa_nil))))
      pss_nil)
      (pss_cons (ps_if (PW.pt (pw_or (pt_cmpR op_ne (pe_callB (lenK K rfl) rfl (T_len T) b_len (pa_cons (pv 1) pa_nil)) (pe_fldK K rfl (pe_fldK K rfl (pv 0) rfl) rfl) (nomark _)) (pw_or (pt_cmpR op_ne (pe_callB (lenK K rfl) rfl (T_len T) b_len (pa_cons (pv 3) pa_nil)) (pe_fldK K rfl (pe_fldK K rfl (pv 0) rfl) rfl) (nomark _)) (pw_or1 (pt_cmpR op_ne (pe_callB (lenK K rfl) rfl (T_len T) b_len (pa_cons (pv 2) pa_nil)) (pe_callB (lenK K rfl) rfl (T_len T) b_len (pa_cons (pe_fldK K rfl (pv 0) rfl) pa_nil)) (nomark _))))))
      (pss_one (ps_ret (pe_callTy (listK K rfl) rfl (T_list T) b_list (pa_cons (pe_gc rfl (g_WRONG_COUNT T)) pa_nil))))
      pss_nil)
      (pss_cons (ps_set (i := 4) sc_Desk_check_assignment.nd rfl (Or.inl rfl) (pe_mt0 (met_Desk_fixed_costs T) hr (by decide) (pv 0)))
      (pss_cons (ps_set (i := 5) sc_Desk_check_assignment.nd rfl (Or.inl rfl) (pe_c (cal_assignment_fault T) hr (by decide) rfl (pa_cons (pv 4) (pa_cons (pv 1) (pa_cons (pv 2) (pa_cons (pv 3) pa_nil))))))
      (pss_one (ps_ret (pe_ifExp (pt_cmpR (op_neD hr.units) (pv 5) (pe_lst pa_nil) (nomark _)) (pe_op op_cat (pe_lst (pa_cons pe_int (pa_cons pe_int pa_nil))) (pv 5)) (pe_lst (pa_cons pe_int (pa_cons pe_int (pa_cons (pe_c (cal_homes_cost T) hr (by decide) rfl (pa_cons (pv 4) (pa_cons (pv 2) pa_nil))) pa_nil))))))))))), ?_⟩
  obtain ⟨ho, hl1, hl2, hl3⟩ := hp
  refine s_ifs (W := ⟨Hf, H⟩) (et_not (et_B (ev_meth (x := (h, nI hs)) rfl (by show (nI hs).length ≤ 1200; unfold nI; rw [List.length_map]; exact hl2) (by decide +kernel) (ev_var r0 rfl) (ea_cons (EvD.is (ev_var r2 rfl) (congrArg D.l (dn_nI _))) ea_nil)))) ok (fun e W1 g => ?_) (fun e W1 g => ?_)
  · have e : areThere h (nI hs) = false := by simpa using e
    rw [if_pos e] at k
    exact s_end g (ev_listTop (ns := [-4]) (fun H => lst_of T (xt_parts T).2.2.2.2.2.2.1 H)) k
  have e : areThere h (nI hs) = true := by simpa using e
  rw [if_neg (by rw [e]; decide)] at k
  have hv : ∀ u ∈ hs, u < versionCount h.tree := by
    intro u hu
    unfold areThere nI at e
    rw [List.all_map, List.all_eq_true] at e
    have := of_decide_eq_true (e u hu)
    exact Int.ofNat_lt.mp this
  dsimp only
  refine s_ifs (et_or (et_test (ev_op rv_neN ((ev_lenK (ev_var (up g r1) rfl)).is (by rw [List.length_map])) (fld_count (full := true) T (desk_tree T (ev_var (up g r0) rfl))))) fun _ => et_or (et_test (ev_op rv_neN ((ev_lenK (ev_var (up g r3) rfl)).is (by rw [List.length_map])) (fld_count (full := true) T (desk_tree T (ev_var (up g r0) rfl))))) fun _ => et_test (ev_op rv_neN ((ev_lenK (ev_var (up g r2) rfl)).is (by rw [List.length_map])) ((ev_lenK (desk_rows T (ev_var (up g r0) rfl))).is (by rw [List.length_map])))) g.fh (fun e2 W2 g2 => ?_) (fun e2 W2 g2 => ?_)
  · have e2 : L.length ≠ versionCount h.tree ∨ pr.length ≠ versionCount h.tree ∨ hs.length ≠ h.rows.length := by simpa using e2
    rw [if_pos e2] at k
    exact s_end (g.trans g2) (ev_listTop (ns := [-5]) (fun H => lst_of T (xt_parts T).2.2.2.2.2.2.2.1 H)) k
  have e2 : L.length = versionCount h.tree ∧ pr.length = versionCount h.tree ∧ hs.length = h.rows.length := by simpa using e2
  rw [if_neg (fun q => by rcases q with q | q | q; exact q e2.1; exact q e2.2.1; exact q e2.2.2)] at k
  obtain ⟨e3, e4, e5⟩ := e2
  dsimp only
  have a2 := g.trans g2
  have hn := vc_le ho.wf
  have hmany := ho.many
  obtain ⟨cs, ecs⟩ : ∃ cs, (h.rows.map fun r => fixedRow h.tree r.uses) = cs := ⟨_, rfl⟩
  have hsq : Sq cs (versionCount h.tree) := fun l hl => by
    rw [← ecs] at hl
    obtain ⟨r, _, rfl⟩ := List.mem_map.mp hl
    unfold fixedRow
    rw [List.length_map, List.length_range]
  have hcl : cs.length = h.rows.length := by rw [← ecs, List.length_map]
  rw [ecs] at k
  refine s_set (EvD.is (ev_meth (x := h) rfl ho (by decide +kernel) (ev_var (up a2 r0) rfl) ea_nil) (d' := dCosts cs) (by rw [ecs])) g2.fh fun v4 W3 g3 r4 => ?_
  dsimp only
  have a3 := a2.trans g3
  refine s_set (EvD.is (ev_call (x := (cs, versionCount h.tree, L, hs, pr)) ⟨hsq, by omega, by omega, by omega, e4, e3, hv⟩ (ea_cons (ev_var r4 rfl) (ea_cons (ev_var (up a3 r1) rfl) (ea_cons (ev_var (up a3 r2) rfl) (ea_cons (ev_var (up a3 r3) rfl) ea_nil))))) rfl) g3.fh fun v5 W4 g4 r5 => ?_
  dsimp only at r5
  dsimp only
  have a4 := a3.trans g4
  obtain ⟨f1, f2⟩ := dAF_ok (crowdedAt L hs) (pricedAt L hs pr) (unhappyAt cs hs pr)
  rw [dAF_l] at r5 f1 f2
  cases hf : lAF (crowdedAt L hs) (pricedAt L hs pr) (unhappyAt cs hs pr) with
  | nil =>
    rw [hf] at k r5 f1 f2
    rw [if_pos rfl] at k
    exact s_end a4 (EvD.is (ev_if (a := false) (et_test (ev_op (rv_neD f1 rfl f2 (by decide)) (ev_var r5 rfl) (ev_lst ea_nil (by show 0 ≤ 10000000; decide)))) (fun q => by cases q) (fun _ => ev_lst (ea_cons ev_int (ea_cons ev_int (ea_cons (ev_call (x := (cs, versionCount h.tree, hs)) ⟨hsq, by omega, by omega, hv⟩ (ea_cons (ev_var (up g4 r4) rfl) (ea_cons (ev_var (up a4 r2) rfl) ea_nil))) ea_nil))) (by show 3 ≤ 10000000; decide))) rfl) k
  | cons x xs =>
    have hx : xs.length ≤ 1 := by
      have : (lAF (crowdedAt L hs) (pricedAt L hs pr) (unhappyAt cs hs pr)).length ≤ 2 := by
        unfold lAF
        split
        · split
          · split <;> simp
          · simp
        · simp
      rw [hf, List.length_cons] at this
      omega
    rw [hf] at k r5 f1 f2
    rw [if_neg (fun q => by cases q)] at k
    exact s_end a4 (EvD.is (ev_if (a := true) (et_test (ev_op (rv_neD f1 rfl f2 (by decide)) (ev_var r5 rfl) (ev_lst ea_nil (by show 0 ≤ 10000000; decide)))) (fun _ => ev_op (rv_cat (xs := [.i 0, .i 0]) (ys := (x :: xs).map D.i) (by rw [List.length_map, List.length_cons]; simp only [List.length_cons, List.length_nil]; omega)) (ev_lst (ea_cons ev_int (ea_cons ev_int ea_nil)) (by show 2 ≤ 10000000; decide)) (ev_var r5 rfl)) (fun q => by cases q)) rfl) k
end
end Hm
end
section
set_option Elab.async false
set_option linter.all false
set_option maxRecDepth 100000
set_option maxHeartbeats 4000000
namespace Hm
open PySem PySem.Spec PyProof.Rows L2
open C8 (Cal Met Mak pe_c pe_mt pe_mt0 pe_mk pe_gc)
open Vbjtah (versionCount edgesOf isBelow distance)
/-! ### the desk, looked at: status -/
open Vbjtah (House homeOf)
/-- a desk in either state -/
def dState (K : PySem.W.Frag) : Option House → D
  | none => .o (C_Desk K) dkNames [.n, .l []]
  | some h => dDesk K h
def rowsTold (t : Tr) (rows : List VRow) : List Int := rows.flatMap fun r => nI [r.number, homeOf t r.marks, r.uses.length]
def statusOf : Option House → List Int
  | none => [0, 0]
  | some h => nI [0, versionCount h.tree, h.factor, h.rows.length] ++ rowsTold h.tree h.rows
theorem rowsTold_len (t : Tr) : ∀ l : List VRow, (rowsTold t l).length = 3 * l.length
  | [] => rfl
  | a :: l => by
    show (nI [a.number, homeOf t a.marks, a.uses.length] ++ rowsTold t l).length = _
    rw [List.length_append, rowsTold_len t l, List.length_cons]
    show 3 + 3 * l.length = _
    omega
theorem rv_isN_o {W : Wd} {C : Addr} {ns : List Str} {ds : List D} : RvD (fun x y H Q => y = V.non ∧ Q (V.bl (decide (x = V.non))) H) W (.o C ns ds) .n (.b false) := fun W1 y z g ⟨a, dx, vs, e, _⟩ rz Q q => by
  subst e
  cases rz
  exact ⟨rfl, q _ W1 g.rf (by rw [decide_eq_false (fun h => nomatch h)]; rfl)⟩
theorem rv_isN_n {W : Wd} : RvD (fun x y H Q => y = V.non ∧ Q (V.bl (decide (x = V.non))) H) W .n .n (.b true) := fun W1 y z g ry rz Q q => by
  cases ry
  cases rz
  exact ⟨rfl, q _ W1 g.rf rfl⟩
section
variable {P : Program} {w : World} {K : PySem.W.Frag} {mg : Str → Option Value} {base : Heap}
abbrev sp_Desk_status (K : PySem.W.Frag) : Sp := PuSp (ι := Option House) (fun s => [dState K s]) (fun s => ∀ h, s = some h → HOk h) (fun s => dInts (statusOf s))
theorem met_Desk_status (T : Top K mg) : Met P w K mg base 1 (C_Desk K) "status" (sp_Desk_status K) [] :=
  metOf (cl_Desk T) (me_Desk_status T) (F_Desk_status T) sc_Desk_status (fun _ _ _ _ _ _ us hl => match us, hl with | [_], _ => rfl) (fun _ _ _ _ h => h.len fun _ => rfl) fun cdv A outer s H vs Q E hr h => by
  obtain ⟨s, Hf, ok, ⟨v0, _, rfl, r0, rfl⟩, hp, k⟩ := h
  try dsimp only at hp k
  refine ⟨_, (pss_cons (ps_if (pt_cmpR op_isN (pe_fldK K rfl (pv 0) rfl) pe_non (nomark _))
      (pss_one (ps_ret (pe_lst (pa_cons pe_int (pa_cons pe_int pa_nil)))))
      pss_nil)
      (pss_cons (ps_set (i := 1) sc_Desk_status.nd rfl (Or.inl rfl) (pe_lst (pa_cons pe_int (pa_cons (pe_fldK K rfl (pe_fldK K rfl (pv 0) rfl) rfl) (pa_cons (pe_fldK K rfl (pe_fldK K rfl (pv 0) rfl) rfl) (pa_cons (pe_callB (lenK K rfl) rfl (T_len T) b_len (pa_cons (pe_fldK K rfl (pv 0) rfl) pa_nil)) pa_nil))))))
      (pss_cons (ps_for PassesOwn.never rfl (pi_listK K rfl (pe_fldK K rfl (pv 0) rfl)) (pg_name (i := 2) sc_Desk_status.nd rfl (Or.inl rfl))
      (pss_one (ps_expr (pe_bm PySem.F.plainAttrs_list PySem.F.slot_list_extend PySem.F.type_list_extend mt_extend (pv 1) (pa_cons (pe_lst (pa_cons (pe_fldK K rfl (pv 2) rfl) (pa_cons (pe_fldK K rfl (pv 2) rfl) (pa_cons (pe_callB (lenK K rfl) rfl (T_len T) b_len (pa_cons (pe_fldK K rfl (pv 2) rfl) pa_nil)) pa_nil)))) pa_nil)))))
      (pss_one (ps_ret (pv 1)))))), ?_⟩
  cases s with
  | none =>
    refine s_ifs (W := ⟨Hf, H⟩) (b := true) (et_test (ev_op rv_isN_n (ev_fld 0 (cl_Desk T) (na_Desk_tree T) (ev_var r0 rfl) (by decide +kernel) rfl) ev_non)) ok (fun e W1 g => ?_) (fun e W1 g => by cases e)
    exact s_end g (EvD.is (ev_lst (ea_cons ev_int (ea_cons ev_int ea_nil)) (by show 2 ≤ 10000000; decide)) rfl) k
  | some h =>
    have ho := hp h rfl
    have r0 : Rep Hf (dDesk K h) v0 := r0
    have hm := ho.many
    refine s_ifs (W := ⟨Hf, H⟩) (b := false) (et_test (ev_op rv_isN_o (desk_tree T (ev_var r0 rfl)) ev_non)) ok (fun e W1 g => by cases e) (fun e W1 g => ?_)
    dsimp only
    refine s_lst (W := W1) (ds := (nI [0, versionCount h.tree, h.factor, h.rows.length]).map D.i) (ea_cons ev_int (ea_cons (fld_count (full := true) T (desk_tree T (ev_var (up g r0) rfl))) (ea_cons (fld_factor (full := true) T (desk_tree T (ev_var (up g r0) rfl))) (ea_cons ((ev_lenK (desk_rows T (ev_var (up g r0) rfl))).is (by rw [List.length_map])) ea_nil)))) g.fh (by show 4 ≤ 10000000; decide) fun p W2 o2 hn => ?_
    dsimp only
    have a2 := g.trans o2.gr
    refine s_forL h.rows (dRow K h.tree h.factor) (desk_rows T (ev_var (up a2 r0) rfl)) o2.gr.fh fun W3 g3 => ⟨fun m σ' W' => ∃ x, σ' = [some v0, some (.ref p), x] ∧ Ex W3.f W'.f ∧ Own W1 p ((nI [0, versionCount h.tree, h.factor, h.rows.length] ++ rowsTold h.tree (h.rows.take m)).map D.i) W', ⟨none, rfl, .refl _, by rw [List.take_zero]; show Own W1 p ((nI [0, versionCount h.tree, h.factor, h.rows.length] ++ []).map D.i) W3; rw [List.append_nil]; exact o2.more g3⟩, fun m σ' W' ⟨_, _, q, o⟩ => ⟨q, o.gr.fh⟩, ?_, ?_⟩
    · rintro m r xv σ' W' hr ⟨x, rfl, xf, o3⟩ rx
      refine s_extO o3 hn rfl (es := (nI [r.number, homeOf h.tree r.marks, r.uses.length]).map D.i) (ev_lst (ea_cons (row_number T (ev_var rx rfl)) (ea_cons (row_home T (ev_var rx rfl)) (ea_cons ((ev_lenK (row_uses T (ev_var rx rfl))).is (by rw [List.length_map])) ea_nil))) (by show 3 ≤ 10000000; decide)) (by
        rw [List.length_map, List.length_append, rowsTold_len, List.length_take]
        show 4 + 3 * min m h.rows.length + 3 ≤ 10000000
        omega) fun W5 o5 x5 => ?_
      refine ⟨W5, rfl, _, rfl, xf.trans x5, ?_⟩
      have e : nI [0, versionCount h.tree, h.factor, h.rows.length] ++ rowsTold h.tree (h.rows.take (m + 1)) = (nI [0, versionCount h.tree, h.factor, h.rows.length] ++ rowsTold h.tree (h.rows.take m)) ++ nI [r.number, homeOf h.tree r.marks, r.uses.length] := by
        unfold rowsTold
        rw [List.take_add_one, hr, List.flatMap_append, List.append_assoc]
        rfl
      rw [e, List.map_append]
      exact o5
    · rintro σ' W' ⟨x, rfl, xf, o3⟩
      rw [List.take_length] at o3
      exact s_retO o3 hn rfl fun r W4 g4 r4 => k r W4 (g.trans g4) r4
end
end Hm
end
section
set_option Elab.async false
set_option linter.all false
set_option maxRecDepth 100000
set_option maxHeartbeats 4000000
namespace Hm
open Vbjtah (versionCount edgesOf isBelow distance costIn assignmentCost sumInts minimumOf edgeCosts firstCosts boundValues valueFields lengthOf fixedCost medianOf House homeOf sumOf Mark loadOf inRange argumentsInRange callOf)
/-! ### plain: the limits -/
theorem isVer_eq (n : Int) : isVer n = Vbjtah.isVersion n := by
  show (decide (0 ≤ n) && decide (n < 10)) = (decide (0 ≤ n) && decide (n ≤ 9))
  rw [show decide (n < 10) = decide (n ≤ 9) from decide_eq_decide.mpr (by omega)]
theorem isRowNo_eq (n : Int) : isRowNo n = Vbjtah.isNumber n := rfl
theorem within_eq (ns : List Int) (lo hi : Int) (most : Nat) : areWithin ns lo hi most = (decide (ns.length ≤ most) && ns.all (inRange lo hi)) := rfl
theorem parents_eq (ns : List Int) : areParents ns = (decide (ns.length < 10) && Vbjtah.areParents ns) := by
  unfold areParents Vbjtah.areParents
  congr 2
  funext x
  rw [Bool.decide_and]
theorem areRight_eq {call : Int} {ns : List Int} {ls : List (List Int)} {c : Vbjtah.Call} (h : callOf ((call :: ns) :: ls) = some c) : areRight call ns ls = argumentsInRange c := by
  unfold callOf at h
  split at h <;> try (simp at h; done)
  all_goals (rename_i e; injection e with e1 e2; injection e1 with e3 e4; subst e2 e4 e3; injection h with h; subst h)
  · rename_i f ps ls'
    show isTreeArgs f ps ls' = _
    unfold isTreeArgs argumentsInRange
    rw [parents_eq, within_eq]
    show _ = (inRange 1 20 f && (decide (ps.length < 10 ∧ ps.length = ls'.length) && (Vbjtah.areParents ps && ls'.all (inRange 1 100))))
    rw [Bool.eq_iff_iff]
    simp only [Bool.and_eq_true, decide_eq_true_eq, inRange]
    constructor
    · rintro ⟨⟨⟨a, b, c⟩, d⟩, _, e⟩
      exact ⟨a, ⟨b, d.symm⟩, c, e⟩
    · rintro ⟨a, ⟨b, d⟩, c, e⟩
      exact ⟨⟨⟨a, b, c⟩, d.symm⟩, by omega, e⟩
  · rename_i a b
    show (if ([a, b].all isVer) = false then false else true) = (Vbjtah.isVersion a && Vbjtah.isVersion b)
    rw [← isVer_eq, ← isVer_eq]
    simp only [List.all_cons, List.all_nil, Bool.and_true]
    cases isVer a && isVer b <;> rfl
  · rename_i a b
    show (if (isRowNo a && isVer b) = false then false else true) = (Vbjtah.isNumber a && Vbjtah.isVersion b)
    rw [← isVer_eq, ← isRowNo_eq]
    cases isRowNo a && isVer b <;> rfl
  · rename_i a b
    show (if ([a].all isRowNo) = false then false else [b].all (isListRight 3)) = (Vbjtah.isNumber a && (decide (b.length ≤ 60) && b.all Vbjtah.isVersion))
    rw [← isRowNo_eq]
    show (if ([a].all isRowNo) = false then false else [b].all (isListRight 3)) = (isRowNo a && areWithin b 0 9 60)
    simp only [List.all_cons, List.all_nil, Bool.and_true]
    show (if isRowNo a = false then false else areWithin b 0 9 60) = _
    cases isRowNo a <;> rfl
  · rename_i a
    show (if ([a].all isRowNo) = false then false else true) = isRowNo a
    simp only [List.all_cons, List.all_nil, Bool.and_true]
    cases isRowNo a <;> rfl
  · rename_i a
    show (if ([a].all isRowNo) = false then false else true) = isRowNo a
    simp only [List.all_cons, List.all_nil, Bool.and_true]
    cases isRowNo a <;> rfl
  · rename_i a b
    show (if ([a].all isRowNo) = false then false else [b].all (isListRight 6)) = (isRowNo a && areWithin b 0 9 60)
    simp only [List.all_cons, List.all_nil, Bool.and_true]
    show (if isRowNo a = false then false else areWithin b 0 9 60) = _
    cases isRowNo a <;> rfl
  · rename_i a
    show (if ([a].all isRowNo) = false then false else true) = isRowNo a
    simp only [List.all_cons, List.all_nil, Bool.and_true]
    cases isRowNo a <;> rfl
  · rename_i a
    show (if ([a].all isRowNo) = false then false else true) = isRowNo a
    simp only [List.all_cons, List.all_nil, Bool.and_true]
    cases isRowNo a <;> rfl
  · rename_i a b
    show (if ([a].all isRowNo) = false then false else [b].all (isListRight 9)) = (isRowNo a && areWithin b (-1000000000) 1000000000 1200)
    simp only [List.all_cons, List.all_nil, Bool.and_true]
    show (if isRowNo a = false then false else areWithin b (-1000000000) 1000000000 1200) = _
    cases isRowNo a <;> rfl
  · rename_i b
    show (if (([] : List Int).all isRowNo) = false then false else [b].all (isListRight 10)) = areWithin b 0 1000 10
    simp only [List.all_cons, List.all_nil, Bool.and_true]
    rfl
  · rename_i a b
    show (if ([a].all isVer) = false then false else [b].all (isListRight 11)) = (Vbjtah.isVersion a && areWithin b 0 1000 10)
    rw [← isVer_eq]
    simp only [List.all_cons, List.all_nil, Bool.and_true]
    show (if isVer a = false then false else areWithin b 0 1000 10) = _
    cases isVer a <;> rfl
  · rename_i b
    show (if (([] : List Int).all isRowNo) = false then false else [b].all (isListRight 12)) = areWithin b 0 12 10
    simp only [List.all_cons, List.all_nil, Bool.and_true]
    rfl
  · rename_i a b d
    show (areWithin a 0 12 10 && areWithin b 0 9 12 && areWithin d 0 1000000000 10) = (decide (a.length ≤ 10 ∧ b.length ≤ 12 ∧ d.length ≤ 10) && (a.all (inRange 0 12) && (b.all (inRange 0 9) && d.all (inRange 0 1000000000))))
    rw [within_eq, within_eq, within_eq, Bool.eq_iff_iff]
    simp only [Bool.and_eq_true, decide_eq_true_eq]
    constructor
    · rintro ⟨⟨⟨a1, a2⟩, b1, b2⟩, c1, c2⟩
      exact ⟨⟨a1, b1, c1⟩, a2, b2, c2⟩
    · rintro ⟨⟨a1, b1, c1⟩, a2, b2, c2⟩
      exact ⟨⟨⟨a1, a2⟩, b1, b2⟩, c1, c2⟩
  · rename_i a
    show (if ([a].all isRowNo) = false then false else true) = isRowNo a
    simp only [List.all_cons, List.all_nil, Bool.and_true]
    cases isRowNo a <;> rfl
  · rfl
end Hm
end
section
set_option Elab.async false
set_option linter.all false
set_option maxRecDepth 100000
set_option maxHeartbeats 4000000
namespace Hm
open Vbjtah (versionCount edgesOf isBelow distance costIn assignmentCost sumInts minimumOf edgeCosts firstCosts boundValues valueFields lengthOf fixedCost medianOf House homeOf sumOf Mark loadOf inRange argumentsInRange callOf)
/-! ### plain: the heavier side -/
theorem find_map_some {α β γ : Type} (g : α → β) (p : β → Bool) (f : β → γ) : ∀ l : List α, ((l.map g).find? p).map f = l.findSome? fun u => if p (g u) = true then some (f (g u)) else none
  | [] => rfl
  | a :: l => by
    rw [List.map_cons, List.find?_cons, List.findSome?_cons]
    cases q : p (g a) with
    | true => rfl
    | false =>
      have ih := find_map_some g p f l
      rw [if_neg (by decide)]
      exact ih
theorem findSome_congr {α β : Type} {f g : α → Option β} : ∀ {l : List α}, (∀ x ∈ l, f x = g x) → l.findSome? f = l.findSome? g
  | [], _ => rfl
  | a :: l, h => by rw [List.findSome?_cons, List.findSome?_cons, h a List.mem_cons_self, findSome_congr fun x hx => h x (List.mem_cons_of_mem _ hx)]
theorem sum_if_filter {f : Nat → Nat} {p : Nat → Bool} : ∀ l : List Nat, ((l.filter p).map f).sum = (l.map fun x => if p x = true then f x else 0).sum
  | [] => rfl
  | a :: l => by
    rw [List.map_cons, List.sum_cons, ← sum_if_filter l, List.filter_cons]
    by_cases q : p a = true
    · rw [if_pos q, if_pos q, List.map_cons, List.sum_cons]
    · rw [if_neg q, if_neg q, Nat.zero_add]
def nearOf (t : Tr) (v : Nat) : List Nat := (if v = 0 then [] else [parOf t v]) ++ (edgesOf t).filter fun e => parOf t e == v
theorem edges_sorted (t : Tr) : (edgesOf t).Pairwise (fun a b => a < b) := by
  unfold Vbjtah.edgesOf
  rw [List.pairwise_map]
  exact List.pairwise_lt_range.imp fun h => by omega
theorem nearOf_lt {t : Tr} (h : Wf t) {v e : Nat} (he : e ∈ (edgesOf t).filter fun e => parOf t e == v) : v < e ∧ e < versionCount t ∧ parOf t e = v := by
  obtain ⟨h1, h2⟩ := List.mem_filter.mp he
  obtain ⟨h3, h4⟩ := mem_edges.mp h1
  have h5 := beq_iff_eq.mp h2
  have := h.parLt (v := e) (by omega) h4
  exact ⟨by omega, h4, h5⟩
theorem neighbours_near {t : Tr} (h : Wf t) {v : Nat} (hv : v < versionCount t) : Vbjtah.neighboursOf t v = (nearOf t v).map fun u => (u, max v u) := by
  unfold Vbjtah.neighboursOf nearOf
  rw [List.map_append]
  congr 1
  · by_cases q : v = 0
    · rw [if_pos q, if_pos q]; rfl
    · rw [if_neg q, if_neg q]
      have := h.parLt (v := v) (by omega) hv
      show [(parOf t v, v)] = [(parOf t v, max v (parOf t v))]
      rw [Nat.max_eq_left (by omega)]
  · refine List.map_congr_left fun e he => ?_
    have := nearOf_lt h he
    rw [Nat.max_eq_right (by omega)]
theorem near_eq {t : Tr} (h : Wf t) {v : Nat} (hv : v < versionCount t) : nearOf t v = (List.range (versionCount t)).filter (isJoined t v) := by
  refine sorted_one (k := id) _ _ ?_ ?_ ?_
  · unfold nearOf
    rw [List.pairwise_append]
    refine ⟨?_, (edges_sorted t).filter _, fun a ha b hb => ?_⟩
    · split
      · exact .nil
      · exact List.pairwise_singleton _ _
    · have h1 := nearOf_lt h hb
      by_cases q : v = 0
      · rw [if_pos q] at ha; cases ha
      · rw [if_neg q] at ha
        have ha := List.mem_singleton.mp ha
        have := h.parLt (v := v) (by omega) hv
        show a < b
        omega
  · exact List.pairwise_lt_range.filter _
  · intro z
    unfold nearOf
    rw [List.mem_append, List.mem_filter (p := isJoined t v), List.mem_range]
    unfold isJoined
    constructor
    · rintro (hz | hz)
      · by_cases q : v = 0
        · rw [if_pos q] at hz; cases hz
        · rw [if_neg q] at hz
          have hz := List.mem_singleton.mp hz
          have := h.parLt (v := v) (by omega) hv
          refine ⟨by omega, ?_⟩
          rw [if_neg (by omega)]
          simp only [Bool.or_eq_true, Bool.and_eq_true, decide_eq_true_eq]
          exact .inr ⟨by omega, hz.symm⟩
      · have h1 := nearOf_lt h hz
        refine ⟨h1.2.1, ?_⟩
        rw [if_neg (by omega)]
        simp only [Bool.or_eq_true, Bool.and_eq_true, decide_eq_true_eq]
        exact .inl ⟨by omega, h1.2.2⟩
    · rintro ⟨h1, h2⟩
      by_cases q : v = z
      · rw [if_pos q] at h2; cases h2
      · rw [if_neg q] at h2
        simp only [Bool.or_eq_true, Bool.and_eq_true, decide_eq_true_eq] at h2
        rcases h2 with ⟨a, b⟩ | ⟨a, b⟩
        · right
          exact List.mem_filter.mpr ⟨mem_edges.mpr ⟨by omega, h1⟩, beq_iff_eq.mpr b⟩
        · left
          rw [if_neg (by omega)]
          exact List.mem_singleton.mpr b.symm
theorem beyond_eq {t : Tr} (h : Wf t) {ws : List Nat} {v u : Nat} (hv : v < versionCount t) (hu : u < versionCount t) (hj : isJoined t v u = true) : Vbjtah.weightBeyond t ws v (max v u) = wbProg t ws v u := by
  have key : isBelow t (max v u) u ≠ isBelow t (max v u) v := by
    unfold isJoined at hj
    by_cases q : v = u
    · rw [if_pos q] at hj; cases hj
    · rw [if_neg q] at hj
      simp only [Bool.or_eq_true, Bool.and_eq_true, decide_eq_true_eq] at hj
      rcases hj with ⟨a, b⟩ | ⟨a, b⟩
      · have := h.parLt a hu
        rw [Nat.max_eq_right (by omega), (isBelow_iff h hu).mpr (ups_self h hu)]
        intro e
        have := ups_le h hv u ((isBelow_iff h hv).mp e.symm)
        omega
      · have := h.parLt a hv
        rw [Nat.max_eq_left (by omega), (isBelow_iff h hv).mpr (ups_self h hv)]
        intro e
        have := ups_le h hu v ((isBelow_iff h hu).mp e)
        omega
  unfold Vbjtah.weightBeyond wbProg
  rw [sumOf_eq, sum_if_filter]
  refine congrArg List.sum (List.map_congr_left fun x _ => ?_)
  cases a : isBelow t (max v u) x <;> cases b : isBelow t (max v u) u <;> cases c : isBelow t (max v u) v <;> simp_all
theorem heavy_eq {t : Tr} (h : Wf t) {ws : List Nat} {v : Nat} (hv : v < versionCount t) : heavySide t ws v = Vbjtah.medianFault t ws v := by
  unfold heavySide Vbjtah.medianFault
  rw [neighbours_near h hv, find_map_some, near_eq h hv]
  refine findSome_congr fun u hu => ?_
  obtain ⟨h1, h2⟩ := List.mem_filter.mp hu
  rw [List.mem_range] at h1
  dsimp only
  rw [beyond_eq h hv h1 h2, sumOf_eq]
  simp only [decide_eq_true_eq]
end Hm
end
section
set_option Elab.async false
set_option linter.all false
set_option maxRecDepth 100000
set_option maxHeartbeats 4000000
namespace Hm
open Vbjtah (versionCount edgesOf isBelow distance costIn assignmentCost sumInts minimumOf edgeCosts firstCosts boundValues valueFields lengthOf fixedCost medianOf House homeOf sumOf Mark loadOf inRange argumentsInRange callOf pairsFrom valuesFrom boundOf edgeFault boundFault)
/-! ### plain: bounds -/
theorem findSome_map {α β γ : Type} (f : α → Option β) (g : β → γ) : ∀ l : List α, (l.findSome? f).map g = l.findSome? fun x => (f x).map g
  | [] => rfl
  | a :: l => by
    rw [List.findSome?_cons, List.findSome?_cons]
    cases f a with
    | some b => rfl
    | none => exact findSome_map f g l
theorem findSome_comp {α β γ : Type} (f : β → Option γ) (g : α → β) : ∀ l : List α, (l.map g).findSome? f = l.findSome? fun x => f (g x)
  | [] => rfl
  | a :: l => by
    rw [List.map_cons, List.findSome?_cons, List.findSome?_cons, findSome_comp f g l]
theorem pairs_len : ∀ (n : Nat) (l : List Int), l.length = 2 * n → (pairsFrom l).length = n
  | 0, [], _ => rfl
  | 0, _ :: _, h => by simp at h
  | n + 1, [], h => by simp at h
  | n + 1, [_], h => by simp at h; omega
  | n + 1, a :: b :: r, h => by
    show (pairsFrom r).length + 1 = n + 1
    rw [pairs_len n r (by simp only [List.length_cons] at h; omega)]
theorem pairs_at : ∀ (n : Nat) (l : List Int) (j : Nat), l.length = 2 * n → j < n → (pairsFrom l).getD j (0, 0) = (l.getD (2 * j) 0, l.getD (2 * j + 1) 0)
  | 0, _, _, _, hj => by omega
  | n + 1, [], _, h, _ => by simp at h
  | n + 1, [_], _, h, _ => by simp at h; omega
  | n + 1, a :: b :: r, 0, h, _ => rfl
  | n + 1, a :: b :: r, j + 1, h, hj => by
    have ih := pairs_at n r j (by simp only [List.length_cons] at h; omega) (by omega)
    show (pairsFrom r).getD j (0, 0) = _
    rw [ih]
    rfl
theorem pairs_fields : ∀ l : List (Int × Int), pairsFrom (fieldsOf l) = l
  | [] => rfl
  | x :: l => by
    show (x.1, x.2) :: pairsFrom (fieldsOf l) = _
    rw [pairs_fields l]
theorem values_fields (p : Nat) : ∀ vs : List (List (Int × Int)), (∀ l ∈ vs, l.length = p) → valuesFrom vs.length p (valueFields vs) = vs
  | [], _ => rfl
  | l :: vs, h => by
    have ih := values_fields p vs fun x hx => h x (List.mem_cons_of_mem _ hx)
    have e : valueFields (l :: vs) = fieldsOf l ++ valueFields vs := rfl
    have hl : (fieldsOf l).length = 2 * p := by rw [fieldsOf_len, h l List.mem_cons_self]
    unfold valuesFrom
    rw [List.length_cons, List.range_succ_eq_map, List.map_cons, List.map_map, e]
    congr 1
    · rw [Nat.mul_zero, List.drop_zero, List.take_append_of_le_length (by omega), List.take_of_length_le (by omega), pairs_fields]
    · refine Eq.trans (List.map_congr_left fun i _ => ?_) ih
      show pairsFrom (List.take (2 * p) (List.drop (2 * p * (i + 1)) (fieldsOf l ++ valueFields vs))) = _
      rw [Nat.mul_succ, Nat.add_comm, ← List.drop_drop, List.drop_append_of_le_length (by omega), show List.drop (2 * p) (fieldsOf l) = [] from List.drop_of_length_le (by omega), List.nil_append]
def valsAt (l : List Int) (p i : Nat) : List (Int × Int) := pairsFrom ((l.drop (2 * p * i)).take (2 * p))
section
variable {l : List Int} {n q i j : Nat}
theorem cut_at (hl : l.length = 2 * (n * (q + 1))) (hi : i < n) : ((l.drop (2 * (q + 1) * i)).take (2 * (q + 1))).length = 2 * (q + 1) := by
  rw [List.length_take, List.length_drop, hl]
  have h1 : (q + 1) * i + (q + 1) ≤ n * (q + 1) := by
    rw [← Nat.mul_succ, Nat.mul_comm n]
    exact Nat.mul_le_mul_left _ hi
  have h2 : 2 * (q + 1) * i = 2 * ((q + 1) * i) := Nat.mul_assoc _ _ _
  omega
theorem valsAt_len (hl : l.length = 2 * (n * (q + 1))) (hi : i < n) : (valsAt l (q + 1) i).length = q + 1 := pairs_len _ _ (cut_at hl hi)
theorem valsAt_at (hl : l.length = 2 * (n * (q + 1))) (hi : i < n) (hj : j ≤ q) : (valsAt l (q + 1) i).getD j (0, 0) = pairAt l q (i + 1) j := by
  unfold valsAt
  rw [pairs_at _ _ j (cut_at hl hi) (by omega)]
  unfold pairAt placeOf
  have e : 2 * ((i + 1 - 1) * (q + 1) + j) = 2 * (q + 1) * i + 2 * j := by
    rw [Nat.add_sub_cancel, Nat.mul_add, Nat.mul_comm i, Nat.mul_assoc]
  rw [e]
  have g : ∀ k, k < 2 * (q + 1) → ((l.drop (2 * (q + 1) * i)).take (2 * (q + 1))).getD k 0 = l.getD (2 * (q + 1) * i + k) 0 := fun k hk => by
    rw [List.getD_eq_getElem?_getD, List.getElem?_take, if_pos hk, List.getElem?_drop, ← List.getD_eq_getElem?_getD]
  rw [g _ (by omega), g _ (by omega), Nat.add_assoc]
end
theorem zip_edges {t : Tr} {α : Type} (f : Nat → α) : (edgesOf t).zip ((List.range t.parents.length).map f) = (List.range t.parents.length).map fun i => (i + 1, f i) := by
  unfold Vbjtah.edgesOf
  rw [List.zip_map]
  have : ∀ l : List Nat, (l.zip l).map (Prod.map (fun i => i + 1) f) = l.map fun i => (i + 1, f i) := by
    intro l
    induction l with
    | nil => rfl
    | cons a l ih => rw [List.zip_cons_cons, List.map_cons, List.map_cons, ih]; rfl
  exact this _
theorem fault_at_eq {t : Tr} {F first : Nat} {uses : List Nat} {l : List Int} {i j : Nat} (hl : l.length = 2 * (t.parents.length * (uses.length + 1))) (hi : i < t.parents.length) (hj : j ≤ uses.length) :
    faultHere t F first uses l (i + 1) j = (if j = 0 ∧ ((firstCosts t F first (i + 1)).1 < ((valsAt l (uses.length + 1) i).getD j (0, 0)).1 ∨ (firstCosts t F first (i + 1)).2 < ((valsAt l (uses.length + 1) i).getD j (0, 0)).2) then some (j, 1)
      else if 0 < j ∧ ((valsAt l (uses.length + 1) i).getD (j - 1) (0, 0)).1 + (if isBelow t (i + 1) (uses.getD (j - 1) 0) = true then 0 else (lengthOf t (i + 1) : Int)) < ((valsAt l (uses.length + 1) i).getD j (0, 0)).1 then some (j, 2)
      else if 0 < j ∧ ((valsAt l (uses.length + 1) i).getD (j - 1) (0, 0)).2 + (if isBelow t (i + 1) (uses.getD (j - 1) 0) = true then (lengthOf t (i + 1) : Int) else 0) < ((valsAt l (uses.length + 1) i).getD j (0, 0)).2 then some (j, 3)
      else if ((valsAt l (uses.length + 1) i).getD j (0, 0)).2 + (F : Int) * (lengthOf t (i + 1) : Int) < ((valsAt l (uses.length + 1) i).getD j (0, 0)).1 ∨ ((valsAt l (uses.length + 1) i).getD j (0, 0)).1 + (F : Int) * (lengthOf t (i + 1) : Int) < ((valsAt l (uses.length + 1) i).getD j (0, 0)).2 then some (j, 4) else none : Option (Nat × Nat)).map fun y => (i + 1, y.1, y.2) := by
  rw [valsAt_at hl hi hj, valsAt_at hl hi (by omega)]
  unfold faultHere faultCode firstBad
  dsimp only
  generalize pairAt l uses.length (i + 1) j = x
  generalize pairAt l uses.length (i + 1) (j - 1) = y
  generalize firstCosts t F first (i + 1) = c
  generalize isBelow t (i + 1) (uses.getD (j - 1) 0) = b
  generalize (lengthOf t (i + 1) : Int) = le
  simp only [Bool.or_eq_true, decide_eq_true_eq]
  by_cases h1 : j = 0 ∧ (c.1 < x.1 ∨ c.2 < x.2)
  · rw [if_pos h1, if_pos h1]; rfl
  rw [if_neg h1, if_neg h1]
  by_cases h2 : 0 < j ∧ y.1 + (if b = true then 0 else le) < x.1
  · rw [if_pos h2, if_pos h2]; rfl
  rw [if_neg h2, if_neg h2]
  by_cases h3 : 0 < j ∧ y.2 + (if b = true then le else 0) < x.2
  · rw [if_pos h3, if_pos h3]; rfl
  rw [if_neg h3, if_neg h3]
  by_cases h4 : x.2 + (F : Int) * le < x.1 ∨ x.1 + (F : Int) * le < x.2
  · rw [if_pos h4, if_pos (show (F : Int) * le < ((x.1 - x.2).natAbs : Int) by omega)]; rfl
  · rw [if_neg h4, if_neg (show ¬ (F : Int) * le < ((x.1 - x.2).natAbs : Int) by omega)]; rfl
theorem fault_eq {t : Tr} {F first : Nat} {uses : List Nat} {l : List Int} (hl : l.length = 2 * (t.parents.length * (uses.length + 1))) : faultFind t F first uses l = boundFault t F first uses (valuesFrom t.parents.length (uses.length + 1) l) := by
  unfold faultFind boundFault valuesFrom
  rw [zip_edges, findSome_comp]
  unfold Vbjtah.edgesOf
  rw [findSome_comp]
  refine findSome_congr fun i hi => ?_
  have hi := List.mem_range.mp hi
  unfold faultEdge edgeFault
  dsimp only
  rw [show (pairsFrom (List.take (2 * (uses.length + 1)) (List.drop (2 * (uses.length + 1) * i) l))) = valsAt l (uses.length + 1) i from rfl, valsAt_len hl hi, findSome_map]
  refine findSome_congr fun j hj => ?_
  have hj := List.mem_range.mp hj
  exact fault_at_eq hl hi (by omega)
theorem bound_eq {t : Tr} {q : Nat} {l : List Int} (hl : l.length = 2 * (t.parents.length * (q + 1))) : boundSum t q l = boundOf (valuesFrom t.parents.length (q + 1) l) := by
  unfold boundSum boundOf valuesFrom Vbjtah.edgesOf
  rw [sumInts_eq, List.map_map, List.map_map]
  refine congrArg List.sum (List.map_congr_left fun i hi => ?_)
  have hi := List.mem_range.mp hi
  show _ = match (valsAt l (q + 1) i).getLast? with | some x => min x.1 x.2 | none => 0
  have h1 := valsAt_len hl hi
  have h2 : (valsAt l (q + 1) i).getLast? = some (pairAt l q (i + 1) q) := by
    rw [List.getLast?_eq_getElem?, h1, Nat.add_sub_cancel, ← valsAt_at hl hi (Nat.le_refl q), List.getD_eq_getElem?_getD, List.getElem?_eq_getElem (by omega)]
    rfl
  rw [h2]
  rfl
theorem bound_own {t : Tr} {F first : Nat} {uses : List Nat} : boundSum t uses.length (valueFields (boundValues t F first uses)) = boundOf (boundValues t F first uses) := by
  have hl : (boundValues t F first uses).length = t.parents.length := by
    unfold boundValues
    rw [List.length_map, edges_len]
  have hh : ∀ x ∈ boundValues t F first uses, x.length = uses.length + 1 := by
    intro x hx
    unfold boundValues at hx
    obtain ⟨e, _, rfl⟩ := List.mem_map.mp hx
    rw [edgeCosts_len, List.length_map]
  have hf : ∀ vs : List (List (Int × Int)), (∀ x ∈ vs, x.length = uses.length + 1) → (valueFields vs).length = 2 * (vs.length * (uses.length + 1)) := by
    intro vs
    induction vs with
    | nil => intro _; simp [valueFields]
    | cons a vs ih =>
      intro h
      show (fieldsOf a ++ valueFields vs).length = _
      rw [List.length_append, fieldsOf_len, h a List.mem_cons_self, ih fun x hx => h x (List.mem_cons_of_mem _ hx), List.length_cons, Nat.add_mul]
      omega
  rw [bound_eq (by rw [hf _ hh, hl]), ← hl, values_fields _ _ hh]
end Hm
end
section
set_option Elab.async false
set_option linter.all false
set_option maxRecDepth 100000
set_option maxHeartbeats 4000000
namespace Hm
open Vbjtah (versionCount edgesOf isBelow distance costIn assignmentCost sumInts minimumOf edgeCosts firstCosts boundValues valueFields lengthOf fixedCost medianOf House homeOf sumOf Mark loadOf inRange argumentsInRange callOf leastTotal firstAssignment pricesOf)
/-! ### plain: assigning -/
theorem costs_eq (t : Tr) (rows : List VRow) : Vbjtah.costsOf t rows = rows.map fun r => fixedRow t r.uses := by
  unfold Vbjtah.costsOf fixedRow
  refine List.map_congr_left fun r _ => List.map_congr_left fun v _ => ?_
  rw [sumOf_eq]
theorem find_congr {α : Type} {f g : α → Bool} : ∀ {l : List α}, (∀ x ∈ l, f x = g x) → l.find? f = l.find? g
  | [], _ => rfl
  | a :: l, h => by rw [List.find?_cons, List.find?_cons, h a List.mem_cons_self, find_congr fun x hx => h x (List.mem_cons_of_mem _ hx)]
theorem any_congr {α : Type} {f g : α → Bool} : ∀ {l : List α}, (∀ x ∈ l, f x = g x) → l.any f = l.any g
  | [], _ => rfl
  | a :: l, h => by rw [List.any_cons, List.any_cons, h a List.mem_cons_self, any_congr fun x hx => h x (List.mem_cons_of_mem _ hx)]
theorem firstIx_find {p : Nat → Bool} {n : Nat} : (∀ v, (List.range n).find? p = some v → firstIx p n = (v : Int)) ∧ ((List.range n).find? p = none → firstIx p n = -1) := by
  unfold firstIx
  exact ⟨fun v h => by rw [h], fun h => by rw [h]⟩
theorem afault_eq {n : Nat} {cs : List (List Nat)} {L hs : List Nat} {pr : List Int} (hL : L.length = n) (hc : ∀ l ∈ cs, l.length = n) (hh : hs.length ≤ cs.length) :
    lAF (crowdedAt L hs) (pricedAt L hs pr) (unhappyAt cs hs pr) = match Vbjtah.assignmentFault n cs L hs pr with
      | some x => [(x.1 : Int), (x.2 : Int)]
      | none => [] := by
  have e1 : (List.range n).find? (fun v => decide (L.getD v 0 < loadOf hs v)) = (List.range n).find? (fun v => decide (L.getD v 0 < (rowsAt hs v).length)) := find_congr fun v _ => by rw [loadOf_eq, rowsAt_load]
  have e2 : (List.range n).find? (fun v => decide (0 < pr.getD v 0) && decide (loadOf hs v < L.getD v 0)) = (List.range n).find? (fun v => decide (0 < pr.getD v 0) && decide ((rowsAt hs v).length < L.getD v 0)) := find_congr fun v _ => by rw [loadOf_eq, rowsAt_load]
  have e3 : (List.range hs.length).find? (fun row => (List.range n).any fun v => decide (costIn cs row v + pr.getD v 0 < costIn cs row (hs.getD row 0) + pr.getD (hs.getD row 0) 0)) = (List.range hs.length).find? (fun r => cheaperAt (cs.getD r []) (hs.getD r 0) pr) := find_congr fun r hr => by
    have hr := List.mem_range.mp hr
    have hl : (cs.getD r []).length = n := by
      rw [List.getD_eq_getElem?_getD, List.getElem?_eq_getElem (by omega)]
      exact hc _ (List.getElem_mem _)
    unfold cheaperAt
    rw [hl]
    rfl
  unfold Vbjtah.assignmentFault lAF crowdedAt pricedAt unhappyAt
  rw [e1, e2, e3, hL]
  cases q1 : (List.range n).find? (fun v => decide (L.getD v 0 < (rowsAt hs v).length)) with
  | some v =>
    rw [firstIx_find.1 v q1, if_neg (by omega)]
    rfl
  | none =>
    rw [firstIx_find.2 q1, if_pos rfl]
    dsimp only
    cases q2 : (List.range n).find? (fun v => decide (0 < pr.getD v 0) && decide ((rowsAt hs v).length < L.getD v 0)) with
    | some v =>
      rw [firstIx_find.1 v q2, if_neg (by omega)]
      rfl
    | none =>
      rw [firstIx_find.2 q2, if_pos rfl]
      dsimp only
      cases q3 : (List.range hs.length).find? (fun r => cheaperAt (cs.getD r []) (hs.getD r 0) pr) with
      | some v =>
        rw [firstIx_find.1 v q3, if_neg (by omega)]
        rfl
      | none =>
        rw [firstIx_find.2 q3, if_pos rfl]
        rfl
theorem cost_cons (own : List Nat) (rest : List (List Nat)) (v : Nat) (r : List Nat) : assignmentCost (own :: rest) (v :: r) = costIn (own :: rest) 0 v + assignmentCost rest r := by
  rw [assignmentCost_eq, assignmentCost_eq]
  show costIn (own :: rest) 0 v + costFrom (costIn (own :: rest)) 1 r = _
  rw [costFrom_shift]
theorem least_first {n : Nat} : ∀ (cs : List (List Nat)) (L : List Nat), L.length = n → cs.length ≤ roomOf L n → leastC n cs L = assignmentCost cs (firstAssignment n cs L)
  | [], L, hL, _ => rfl
  | own :: rest, L, hL, hr => by
    obtain ⟨v, hv, lv, _, e1, e2⟩ := first_step (n := n) hL hr
    have h1 := room_dec hL hv lv
    rw [List.length_cons] at hr
    rw [e2, cost_cons, ← least_first rest (setBy L v (-1)) (by rw [setBy_len, hL]) (by omega)]
    omega
end Hm
end
section
set_option Elab.async false
set_option linter.all false
set_option maxRecDepth 100000
set_option maxHeartbeats 4000000
namespace Hm
open Vbjtah (versionCount edgesOf isBelow distance costIn assignmentCost sumInts minimumOf edgeCosts firstCosts boundValues valueFields lengthOf fixedCost medianOf House homeOf sumOf Mark loadOf inRange argumentsInRange callOf leastTotal firstAssignment pricesOf toNats insertRow setRow rowIn used newRow stepInRange)
/-! ### plain: rows -/
theorem pw_get {l : List VRow} (h : l.Pairwise fun a b => a.number < b.number) {i j : Nat} {a b : VRow} (hi : l[i]? = some a) (hj : l[j]? = some b) (e : a.number = b.number) : i = j := by
  obtain ⟨h1, h2⟩ := List.getElem?_eq_some_iff.mp hi
  obtain ⟨h3, h4⟩ := List.getElem?_eq_some_iff.mp hj
  rw [List.pairwise_iff_getElem] at h
  by_cases q : i < j
  · have := h i j h1 h3 q
    rw [h2, h4] at this
    omega
  · by_cases q2 : j < i
    · have := h j i h3 h1 q2
      rw [h2, h4] at this
      omega
    · omega
theorem setRow_eq {h : House} (hs : h.rows.Pairwise fun a b => a.number < b.number) {i : Nat} {r r' : VRow} (hi : h.rows[i]? = some r) (e : r'.number = r.number) : setRow h r' = { h with rows := h.rows.set i r' } := by
  unfold setRow
  congr 1
  refine List.ext_getElem? fun j => ?_
  rw [List.getElem?_map, List.getElem?_set]
  have hl := (List.getElem?_eq_some_iff.mp hi).1
  by_cases q : i = j
  · subst q
    rw [if_pos rfl, if_pos hl, hi, Option.map_some, if_pos e.symm]
  · rw [if_neg q]
    cases hj : h.rows[j]? with
    | none => rfl
    | some x =>
      rw [Option.map_some, if_neg]
      intro e2
      exact q (pw_get hs hi hj (by rw [← e, e2]))
theorem ahead_take {num : Nat} : ∀ {l : List VRow}, l.Pairwise (fun a b => a.number < b.number) → l.filter (fun x => decide (x.number < num)) = l.take (l.filter (fun x => decide (x.number < num))).length
  | [], _ => rfl
  | x :: l, h => by
    obtain ⟨h1, h2⟩ := List.pairwise_cons.mp h
    by_cases q : x.number < num
    · have e : (x :: l).filter (fun x => decide (x.number < num)) = x :: l.filter (fun x => decide (x.number < num)) := by rw [List.filter_cons, if_pos (decide_eq_true q)]
      rw [e, List.length_cons, List.take_succ_cons, ← ahead_take h2]
    · have e : (x :: l).filter (fun x => decide (x.number < num)) = [] := by
        rw [List.filter_eq_nil_iff]
        intro y hy
        rcases List.mem_cons.mp hy with e | hy
        · rw [e]; simpa using q
        · have := h1 y hy
          simp
          omega
      rw [e]
      rfl
theorem insert_eq {r : VRow} : ∀ {l : List VRow}, l.Pairwise (fun a b => a.number < b.number) → (∀ x ∈ l, x.number ≠ r.number) → insertRow r l = l.take (l.filter (fun x => decide (x.number < r.number))).length ++ [r] ++ l.drop (l.filter (fun x => decide (x.number < r.number))).length
  | [], _, _ => rfl
  | x :: l, h, hn => by
    obtain ⟨h1, h2⟩ := List.pairwise_cons.mp h
    have hx := hn x List.mem_cons_self
    show (if r.number < x.number then r :: x :: l else x :: insertRow r l) = _
    by_cases q : r.number < x.number
    · have e : (x :: l).filter (fun x => decide (x.number < r.number)) = [] := by
        rw [List.filter_eq_nil_iff]
        intro y hy
        rcases List.mem_cons.mp hy with e | hy
        · rw [e]; simp; omega
        · have := h1 y hy
          simp
          omega
      rw [if_pos q, e]
      rfl
    · have e : (x :: l).filter (fun x => decide (x.number < r.number)) = x :: l.filter (fun x => decide (x.number < r.number)) := by rw [List.filter_cons, if_pos (decide_eq_true (by omega))]
      rw [if_neg q, e, List.length_cons, List.take_succ_cons, List.drop_succ_cons, insert_eq h2 fun y hy => hn y (List.mem_cons_of_mem _ hy)]
      rfl
theorem insert_sorted {r : VRow} {l : List VRow} (h : l.Pairwise fun a b => a.number < b.number) (hn : ∀ x ∈ l, x.number ≠ r.number) : (insertRow r l).Pairwise fun a b => a.number < b.number := by
  have mem : ∀ {l : List VRow} {z : VRow}, z ∈ insertRow r l → z = r ∨ z ∈ l := by
    intro l
    induction l with
    | nil => intro z hz; exact .inl (List.mem_singleton.mp hz)
    | cons x l ih =>
      intro z hz
      have hz : z ∈ (if r.number < x.number then r :: x :: l else x :: insertRow r l) := hz
      split at hz
      · rcases List.mem_cons.mp hz with e | e
        · exact .inl e
        · exact .inr e
      · rcases List.mem_cons.mp hz with e | e
        · exact .inr (by rw [e]; exact List.mem_cons_self)
        · rcases ih e with e | e
          · exact .inl e
          · exact .inr (List.mem_cons_of_mem _ e)
  induction l with
  | nil => exact List.pairwise_singleton _ _
  | cons x l ih =>
    obtain ⟨h1, h2⟩ := List.pairwise_cons.mp h
    have hx := hn x List.mem_cons_self
    show (if r.number < x.number then r :: x :: l else x :: insertRow r l).Pairwise _
    by_cases q : r.number < x.number
    · rw [if_pos q]
      refine List.pairwise_cons.mpr ⟨fun y hy => ?_, h⟩
      rcases List.mem_cons.mp hy with e | hy
      · rw [e]; exact q
      · exact Nat.lt_trans q (h1 y hy)
    · rw [if_neg q]
      refine List.pairwise_cons.mpr ⟨fun y hy => ?_, ih h2 fun y hy => hn y (List.mem_cons_of_mem _ hy)⟩
      rcases mem hy with e | hy
      · rw [e]; omega
      · exact h1 y hy
theorem insert_len (r : VRow) : ∀ l : List VRow, (insertRow r l).length = l.length + 1
  | [] => rfl
  | x :: l => by
    show (if r.number < x.number then r :: x :: l else x :: insertRow r l).length = _
    split
    · rfl
    · rw [List.length_cons, insert_len r l, List.length_cons]
/-! what a row is behind its uses -/
section
variable {t : Tr} {F : Nat}
theorem used_num (r : VRow) (v : Nat) : (used t F r v).number = r.number ∧ (used t F r v).first = r.first ∧ (used t F r v).uses = r.uses ++ [v] := ⟨rfl, rfl, rfl⟩
theorem used_ge (r : VRow) (v : Nat) : r.cost ≤ (used t F r v).cost ∧ r.moves ≤ (used t F r v).moves := by
  constructor
  · show r.cost ≤ r.cost + _ + _
    omega
  · show r.moves ≤ r.moves + _
    omega
theorem fold_num : ∀ (l : List Nat) (r : VRow), (l.foldl (used t F) r).number = r.number ∧ (l.foldl (used t F) r).first = r.first ∧ (l.foldl (used t F) r).uses = r.uses ++ l ∧ r.cost ≤ (l.foldl (used t F) r).cost ∧ r.moves ≤ (l.foldl (used t F) r).moves
  | [], r => ⟨rfl, rfl, (List.append_nil _).symm, Nat.le_refl _, Nat.le_refl _⟩
  | v :: l, r => by
    obtain ⟨a, b, c, d, e⟩ := fold_num l (used t F r v)
    obtain ⟨a', b', c'⟩ := used_num (t := t) (F := F) r v
    obtain ⟨d', e'⟩ := used_ge (t := t) (F := F) r v
    refine ⟨a.trans a', b.trans b', ?_, Nat.le_trans d' d, Nat.le_trans e' e⟩
    show (l.foldl (used t F) (used t F r v)).uses = _
    rw [c, c', List.append_assoc]
    rfl
theorem used_okR (hw : Wf t) (hF : 1 ≤ F) {r : VRow} {v : Nat} (ok : RowOk t F r) (hv : v < versionCount t) (hl : r.uses.length < 60) : RowOk t F (used t F r v) :=
  ⟨ok.first, fun u hu => by
    rcases List.mem_append.mp hu with h | h
    · exact ok.uses u h
    · rw [List.mem_singleton.mp h]; exact hv, by show (r.uses ++ [v]).length ≤ 60; rw [List.length_append]; show r.uses.length + 1 ≤ 60; omega, used_ok hw hF hv ok.marks⟩
theorem fold_okR (hw : Wf t) (hF : 1 ≤ F) : ∀ (l : List Nat) {r : VRow}, RowOk t F r → (∀ v ∈ l, v < versionCount t) → r.uses.length + l.length ≤ 60 → RowOk t F (l.foldl (used t F) r)
  | [], _, ok, _, _ => ok
  | v :: l, r, ok, hv, hl => fold_okR hw hF l (used_okR hw hF ok (hv v List.mem_cons_self) (by rw [List.length_cons] at hl; omega)) (fun u hu => hv u (List.mem_cons_of_mem _ hu)) (by
    show (r.uses ++ [v]).length + l.length ≤ 60
    rw [List.length_append]
    rw [List.length_cons] at hl
    show r.uses.length + 1 + l.length ≤ 60
    omega)
end
/-! whole numbers from 0 on -/
theorem nI_toNats : ∀ {l : List Int}, (∀ x ∈ l, 0 ≤ x) → nI (toNats l) = l
  | [], _ => rfl
  | x :: l, h => by
    show ((x.toNat : Nat) : Int) :: nI (toNats l) = x :: l
    rw [nI_toNats fun y hy => h y (List.mem_cons_of_mem _ hy), Int.toNat_of_nonneg (h x List.mem_cons_self)]
theorem toNats_len (l : List Int) : (toNats l).length = l.length := by unfold toNats; rw [List.length_map]
theorem all_in {l : List Int} {lo hi : Int} (h : l.all (inRange lo hi) = true) : ∀ x ∈ l, lo ≤ x ∧ x ≤ hi := fun x hx => by
  have := List.all_eq_true.mp h x hx
  unfold Vbjtah.inRange at this
  rw [Bool.and_eq_true] at this
  exact ⟨of_decide_eq_true this.1, of_decide_eq_true this.2⟩
theorem toNats_at {l : List Int} (h : ∀ x ∈ l, 0 ≤ x) (i : Nat) : (((toNats l).getD i 0 : Nat) : Int) = l.getD i 0 := by
  unfold toNats
  rw [List.getD_eq_getElem?_getD, List.getD_eq_getElem?_getD, List.getElem?_map]
  cases q : l[i]? with
  | none => rfl
  | some x =>
    show ((x.toNat : Nat) : Int) = x
    exact Int.toNat_of_nonneg (h x (List.mem_of_getElem? q))
theorem tree_wf {f : Int} {ps ls : List Int} (h : argumentsInRange (.tree f ps ls) = true) : Wf ⟨toNats ps, toNats ls⟩ ∧ (1 ≤ f ∧ f ≤ 20) ∧ (∀ x ∈ ps, 0 ≤ x) ∧ ∀ x ∈ ls, 0 ≤ x := by
  have h : (inRange 1 20 f && (decide (ps.length < 10 ∧ ps.length = ls.length) && (Vbjtah.areParents ps && ls.all (inRange 1 100)))) = true := h
  simp only [Bool.and_eq_true] at h
  obtain ⟨h1, h2, h3, h4⟩ := h
  have h2 := of_decide_eq_true h2
  have h1 := all_in (l := [f]) (by simpa using h1) f List.mem_cons_self
  have h4 := all_in h4
  have hp : ∀ (i : Nat) (x : Int), ps[i]? = some x → 0 ≤ x ∧ x ≤ (i : Int) := fun i x hx => by
    unfold Vbjtah.areParents at h3
    have := List.all_eq_true.mp h3 (x, i) (List.mem_of_getElem? (i := i) (by rw [List.getElem?_zipIdx, hx, Nat.zero_add]; rfl))
    exact of_decide_eq_true this
  have hp0 : ∀ x ∈ ps, 0 ≤ x := fun x hx => by
    obtain ⟨i, hi⟩ := List.mem_iff_getElem?.mp hx
    exact (hp i x hi).1
  have hl0 : ∀ x ∈ ls, 0 ≤ x := fun x hx => by have := (h4 x hx).1; omega
  refine ⟨⟨fun i hi => ?_, ?_, fun i hi => ?_, ?_, fun i hi => ?_⟩, h1, hp0, hl0⟩
  · have := toNats_at hp0 i
    have hi : i < (toNats ps).length := hi
    rw [toNats_len] at hi
    have e := hp i _ (List.getElem?_eq_getElem hi)
    rw [List.getD_eq_getElem?_getD (l := ps), List.getElem?_eq_getElem hi] at this
    have this : (((toNats ps).getD i 0 : Nat) : Int) = ps[i] := this
    show (toNats ps).getD i 0 ≤ i
    omega
  · show (toNats ls).length = (toNats ps).length
    rw [toNats_len, toNats_len]
    exact h2.2.symm
  · have := toNats_at hl0 i
    have hi : i < (toNats ls).length := hi
    rw [toNats_len] at hi
    have e := h4 _ (List.getElem_mem hi)
    rw [List.getD_eq_getElem?_getD (l := ls), List.getElem?_eq_getElem hi] at this
    have this : (((toNats ls).getD i 0 : Nat) : Int) = ls[i] := this
    show 1 ≤ (toNats ls).getD i 0
    omega
  · show (toNats ps).length ≤ 9
    rw [toNats_len]
    omega
  · have := toNats_at hl0 i
    have hi : i < (toNats ls).length := hi
    rw [toNats_len] at hi
    have e := h4 _ (List.getElem_mem hi)
    rw [List.getD_eq_getElem?_getD (l := ls), List.getElem?_eq_getElem hi] at this
    have this : (((toNats ls).getD i 0 : Nat) : Int) = ls[i] := this
    show (toNats ls).getD i 0 ≤ 100
    omega
end Hm
end
section
set_option Elab.async false
set_option linter.all false
set_option maxRecDepth 100000
set_option maxHeartbeats 4000000
namespace Hm
open PySem PySem.Spec PyProof.Rows L2
open Vbjtah (House homeOf)
/-! ### the desk as it changes -/
structure DA where
  a : Addr
  dx : Addr
  tv : V
  rl : Addr
  qs : List RA
def DA.M (d : DA) : List Addr := d.a :: d.qs.flatMap RA.M
def refs (qs : List RA) : List V := qs.map fun q => .ref q.a
structure DeskO (K : PySem.W.Frag) (d : DA) (s : Option House) (W : Wd) : Prop where
  ins : W.h d.a = some (.ins (C_Desk K) d.dx (dkNames.zip [d.tv, .ref d.rl]))
  rows : W.f d.rl = some (.lst (refs d.qs))
  no : s = none → d.tv = .non ∧ d.qs = []
  yes : ∀ h, s = some h → HOk h ∧ Rep W.f (dTree K h.tree h.factor true) d.tv ∧ d.qs.length = h.rows.length ∧ ∀ (i : Nat) q r, d.qs[i]? = some q → h.rows[i]? = some r → RowAt K q h.tree h.factor r W
  nd : d.M.Nodup
  nf : W.f d.a = none
  ok : Ex W.f W.h
section
variable {K : PySem.W.Frag} {mg : Str → Option Value} {d : DA} {s : Option House} {h : House} {W W' W2 : Wd}
theorem DeskO.rowAt (O : DeskO K d (some h) W) {q : RA} (hq : q ∈ d.qs) : ∃ r, r ∈ h.rows ∧ RowAt K q h.tree h.factor r W := by
  obtain ⟨i, hi⟩ := List.mem_iff_getElem?.mp hq
  obtain ⟨_, _, hl, hr⟩ := O.yes h rfl
  have hi' := (List.getElem?_eq_some_iff.mp hi).1
  exact ⟨_, List.getElem_mem (by omega), hr i q _ hi (List.getElem?_eq_getElem (by omega))⟩
theorem DeskO.nfM (O : DeskO K d s W) : ∀ x ∈ d.M, W.f x = none := by
  intro x hx
  rcases List.mem_cons.mp hx with e | hx
  · rw [e]; exact O.nf
  · obtain ⟨q, hq, hx⟩ := List.mem_flatMap.mp hx
    cases s with
    | none => rw [(O.no rfl).2] at hq; cases hq
    | some h =>
      obtain ⟨r, _, A⟩ := O.rowAt hq
      exact A.nf x hx
theorem DeskO.inM (O : DeskO K d s W) : ∀ x ∈ d.M, W.h x ≠ none := by
  intro x hx
  rcases List.mem_cons.mp hx with e | hx
  · rw [e, O.ins]; exact fun e => nomatch e
  · obtain ⟨q, hq, hx⟩ := List.mem_flatMap.mp hx
    cases s with
    | none => rw [(O.no rfl).2] at hq; cases hq
    | some h =>
      obtain ⟨r, _, A⟩ := O.rowAt hq
      rcases List.mem_cons.mp hx with e | hx
      · rw [e, A.ins]; exact fun e => nomatch e
      rcases List.mem_cons.mp hx with e | hx
      · rw [e, A.hm]; exact fun e => nomatch e
      rcases List.mem_cons.mp hx with e | hx
      · rw [e, A.hc]; exact fun e => nomatch e
      rcases List.mem_cons.mp hx with e | hx
      · rw [e, A.hu]; exact fun e => nomatch e
      · cases hx
/-- all of the desk, as something to look at -/
def view (W : Wd) (M : List Addr) : Wd := ⟨fun x => if x ∈ M then W.h x else W.f x, W.h⟩
theorem view_in {W : Wd} {M : List Addr} {x : Addr} (h : x ∈ M) : (view W M).f x = W.h x := if_pos h
theorem view_no {W : Wd} {M : List Addr} {x : Addr} (h : x ∉ M) : (view W M).f x = W.f x := if_neg h
theorem view_fh {M : List Addr} (ok : Ex W.f W.h) : Ex (view W M).f W.h := fun x o hx => by
  by_cases q : x ∈ M
  · rw [view_in q] at hx; exact hx
  · rw [view_no q] at hx; exact ok x o hx
theorem view_ff {M : List Addr} (nf : ∀ x ∈ M, W.f x = none) : Ex W.f (view W M).f := fun x o hx => by
  rw [view_no (fun q => by rw [nf x q] at hx; cases hx)]
  exact hx
theorem RowO.view {q : RA} {num first home : Nat} {bs : List Bool} {cn : List Int} {us : List Nat} {cost moves : Nat} {M : List Addr} (O : RowO K q num first home bs cn us cost moves W) (hM : ∀ x ∈ q.M, x ∈ M) :
    Rep (view W M).f (.o (C_Row K) rwNames [dn num, dn first, dn home, .l (bs.map D.b), .l (cn.map D.i), .l (us.map dn), dn cost, dn moves]) (.ref q.a) := by
  obtain ⟨m1, m2, m3, m4⟩ := RowO.inM q
  refine ⟨q.a, q.dx, _, rfl, by rw [view_in (hM _ m1)]; exact O.ins, _, _, rfl, rfl, _, _, rfl, rfl, _, _, rfl, rfl, _, _, rfl, ⟨_, _, rfl, by rw [view_in (hM _ m2)]; exact O.hm, Reps.bools.mpr rfl⟩, _, _, rfl, ⟨_, _, rfl, by rw [view_in (hM _ m3)]; exact O.hc, Reps.ints.mpr rfl⟩, _, _, rfl, ⟨_, _, rfl, by rw [view_in (hM _ m4)]; exact O.hu, Reps.nats.mpr rfl⟩, _, _, rfl, rfl, _, _, rfl, rfl, rfl⟩
theorem DeskO.rowsRep (O : DeskO K d (some h) W) : Reps (view W d.M).f (h.rows.map (dRow K h.tree h.factor)) (refs d.qs) := by
  obtain ⟨_, _, hl, hr⟩ := O.yes h rfl
  have key : ∀ (rows : List VRow) (qs : List RA), qs.length = rows.length → (∀ q ∈ qs, ∀ x ∈ q.M, x ∈ d.M) → (∀ (i : Nat) q r, qs[i]? = some q → rows[i]? = some r → RowAt K q h.tree h.factor r W) → Reps (view W d.M).f (rows.map (dRow K h.tree h.factor)) (refs qs) := by
    intro rows
    induction rows with
    | nil =>
      intro qs hl _ _
      cases qs with
      | nil => rfl
      | cons q qs => cases hl
    | cons r rows ih =>
      intro qs hl hM hr
      cases qs with
      | nil => cases hl
      | cons q qs => exact ⟨.ref q.a, refs qs, rfl, RowO.view (hr 0 q r rfl rfl) (hM q List.mem_cons_self), ih qs (by simpa using hl) (fun q hq => hM q (List.mem_cons_of_mem _ hq)) fun i q r h1 h2 => hr (i + 1) q r h1 h2⟩
  exact key h.rows d.qs hl (fun q hq x hx => List.mem_cons_of_mem _ (List.mem_flatMap.mpr ⟨q, hq, hx⟩)) hr
theorem DeskO.rl_no (O : DeskO K d s W) : d.rl ∉ d.M := fun q => by
  have := O.nfM _ q
  rw [O.rows] at this
  cases this
theorem DeskO.state (O : DeskO K d s W) : Rep (view W d.M).f (dState K s) (.ref d.a) := by
  have rl := view_no (W := W) O.rl_no
  rw [O.rows] at rl
  cases s with
  | none =>
    obtain ⟨e1, e2⟩ := O.no rfl
    have i := O.ins
    rw [e1] at i
    rw [e2] at rl
    exact ⟨d.a, d.dx, _, rfl, by rw [view_in (show d.a ∈ d.M from List.mem_cons_self)]; exact i, _, _, rfl, rfl, _, _, rfl, ⟨_, _, rfl, rl, rfl⟩, rfl⟩
  | some h =>
    obtain ⟨_, rt, _, _⟩ := O.yes h rfl
    exact ⟨d.a, d.dx, _, rfl, by rw [view_in (show d.a ∈ d.M from List.mem_cons_self)]; exact O.ins, _, _, rfl, Rep.mono (view_ff O.nfM) _ _ rt, _, _, rfl, ⟨_, _, rfl, rl, O.rowsRep⟩, rfl⟩
theorem DeskO.desk (O : DeskO K d (some h) W) : Rep (view W d.M).f (dDesk K h) (.ref d.a) := O.state
/-- what is handed back: numbers, in a list that is none of the caller's own -/
def GoodRes (E W' : Wd) (M : List Addr) (res : List Int) (r : V) : Prop := ∃ p, r = .ref p ∧ W'.h p = some (.lst (res.map V.int)) ∧ ∀ x, E.f x = none → E.h x ≠ none → x ∉ M → p ≠ x
theorem RowO.grow {q : RA} {num first home : Nat} {bs : List Bool} {cn : List Int} {us : List Nat} {cost moves : Nat} (O : RowO K q num first home bs cn us cost moves W) (hh : Ex W.h W'.h) (nf : ∀ x ∈ q.M, W'.f x = none) (ok : Ex W'.f W'.h) : RowO K q num first home bs cn us cost moves W' :=
  ⟨hh _ _ O.ins, hh _ _ O.hm, hh _ _ O.hc, hh _ _ O.hu, nf, O.nd, ok⟩
/-- behind a look the desk is as it was -/
theorem DeskO.look (O : DeskO K d s W) (g : Grow (view W d.M) W2) : ∃ W', W'.h = W2.h ∧ GrowM d.M W W' ∧ DeskO K d s W' ∧ (∀ x, x ∉ d.M → W'.f x = W2.f x) ∧ (∀ x ∈ d.M, W'.f x = none) ∧ ∀ v res, Rep W2.f (dInts res) v → GoodRes W W' d.M res v := by
  obtain ⟨W', e⟩ : ∃ W' : Wd, W' = ⟨fun x => if x ∈ d.M then none else W2.f x, W2.h⟩ := ⟨_, rfl⟩
  have f1 : ∀ x ∈ d.M, W'.f x = none := fun x hx => by rw [e]; exact if_pos hx
  have f2 : ∀ x, x ∉ d.M → W'.f x = W2.f x := fun x hx => by rw [e]; exact if_neg hx
  have eh : W'.h = W2.h := by rw [e]
  have hh : Ex W.h W'.h := by rw [eh]; exact g.hh
  have ff : Ex W.f W'.f := fun x o hx => by
    rw [f2 x (fun q => by rw [O.nfM x q] at hx; cases hx)]
    exact g.ff x o (view_ff O.nfM x o hx)
  have fh : Ex W'.f W'.h := fun x o hx => by
    by_cases q : x ∈ d.M
    · rw [f1 x q] at hx; cases hx
    · rw [f2 x q] at hx; rw [eh]; exact g.fh x o hx
  have fr : ∀ x, W.f x = none → W.h x ≠ none → W'.f x = none := fun x h1 h2 => by
    by_cases q : x ∈ d.M
    · exact f1 x q
    · rw [f2 x q]; exact g.fr x (by rw [view_no q]; exact h1) h2
  refine ⟨W', eh, ⟨ff, fh, fun x o _ hx => hh x o hx, fr, fun x hx => ?_⟩, ⟨hh _ _ O.ins, ff _ _ O.rows, O.no, fun h eh => ?_, O.nd, f1 _ List.mem_cons_self, fh⟩, f2, f1, fun v res r => ?_⟩
  · cases q : W.h x with
    | none => exact absurd q hx
    | some o => rw [hh x o q]; exact fun e => nomatch e
  · obtain ⟨y1, y2, y3, y4⟩ := O.yes h eh
    exact ⟨y1, Rep.mono ff _ _ y2, y3, fun i q r h1 h2 => (y4 i q r h1 h2).grow hh (fun x hx => f1 x (List.mem_cons_of_mem _ (List.mem_flatMap.mpr ⟨q, List.mem_of_getElem? h1, hx⟩))) fh⟩
  · obtain ⟨p, vs, r1, r2, r3⟩ := r
    refine ⟨p, r1, ?_, fun x h1 h2 h3 e => ?_⟩
    · rw [eh, g.fh _ _ r2, Reps.ints.mp r3]
    · have := g.fr x (by rw [view_no h3]; exact h1) h2
      rw [← e, r2] at this
      cases this
end
end Hm
end
section
set_option Elab.async false
set_option linter.all false
set_option maxRecDepth 100000
set_option maxHeartbeats 4000000
namespace Hm
open PySem PySem.Spec PyProof.Rows L2
open Vbjtah (House homeOf versionCount)
/-! ### the desk as it changes: what its calls leave behind -/
theorem GoodRes.at {E W W' : Wd} {M : List Addr} {res : List Int} {r : V} (h : GoodRes W W' M res r) (g : GrowM M E W) : GoodRes E W' M res r := by
  obtain ⟨p, e, hp, hn⟩ := h
  exact ⟨p, e, hp, fun x h1 h2 h3 => hn x (g.fr x h1 h2) (g.al x h2) h3⟩
def Post (K : PySem.W.Frag) (d : DA) (E : Wd) (res : Option House × List Int) (Q : VK) : Prop := ∀ r W' d', GrowM d.M E W' → d'.a = d.a → DeskO K d' res.1 W' → (∀ x ∈ d'.M, x ∈ d.M ∨ E.h x = none) → GoodRes E W' d.M res.2 r → Q r W'.h
section
variable {K : PySem.W.Frag} {mg : Str → Option Value} {d : DA} {s : Option House} {h : House} {E W W' W1 W2 : Wd} {res : Option House × List Int} {Q : VK} {σ : L2.St} {te : TE} {D0 : Ends}
theorem GrowM.none {M : List Addr} (g : GrowM M E W) {x : Addr} (h : W.h x = none) : E.h x = none := by
  cases q : E.h x with
  | none => rfl
  | some o => exact absurd h (g.al x (by rw [q]; exact fun e => nomatch e))
theorem Post.at (p : Post K d E res Q) (g : GrowM d.M E W) : Post K d W res Q := fun r W' d' g' e O f gr =>
  p r W' d' (g.trans g') e O (fun x hx => (f x hx).imp id g.none) (gr.at g)
theorem DeskO.grow (O : DeskO K d s W) (g : Grow W W') : DeskO K d s W' :=
  ⟨g.hh _ _ O.ins, g.ff _ _ O.rows, O.no, fun h e => by
    obtain ⟨y1, y2, y3, y4⟩ := O.yes h e
    exact ⟨y1, Rep.mono g.ff _ _ y2, y3, fun i q r h1 h2 => (y4 i q r h1 h2).more g⟩, O.nd, g.fr _ O.nf (by rw [O.ins]; exact fun e => nomatch e), g.fh⟩
/-- a look ends: what is handed back is what was seen -/
theorem s_endLook {l : List Int} (O : DeskO K d s W) (g : Grow (view W d.M) W1) (h : EvD te σ W1 (dInts l)) (k : Post K d W (s, l) Q) (e : D0.rt = Q := by rfl) : tRet te D0 σ W1.h := by
  refine s_ret h g.fh fun v W2 g2 r => ?_
  obtain ⟨W', e1, g3, O3, _, _, gr⟩ := O.look (g.trans g2)
  rw [e, ← e1]
  exact k v W' d g3 rfl O3 (fun x hx => .inl hx) (gr v l r)
/-- numbers in a list that stays: a good answer -/
theorem goodRes {M : List Addr} {l : List Int} {v : V} (G : GrowM M E W) (r : Rep W.f (dInts l) v) : GoodRes E W M l v := by
  obtain ⟨p, vs, e, h1, h2⟩ := r
  refine ⟨p, e, ?_, fun x h3 h4 _ e2 => ?_⟩
  · rw [G.fh _ _ h1, Reps.ints.mp h2]
  · have := G.fr x h3 h4
    rw [← e2, h1] at this
    cases this
theorem DA.ne_a (nd : d.M.Nodup) {q : RA} (hq : q ∈ d.qs) : d.a ∉ q.M := fun hx => by
  have := (List.nodup_cons.mp nd).1
  exact this (List.mem_flatMap.mpr ⟨q, hq, hx⟩)
theorem DA.disj (nd : d.M.Nodup) {i j : Nat} {q q2 : RA} (hij : i ≠ j) (hi : d.qs[i]? = some q) (hj : d.qs[j]? = some q2) : ∀ x ∈ q.M, x ∉ q2.M := by
  have h := (List.pairwise_flatMap.mp (List.nodup_cons.mp nd).2).2
  rw [List.pairwise_iff_getElem] at h
  obtain ⟨h1, h2⟩ := List.getElem?_eq_some_iff.mp hi
  obtain ⟨h3, h4⟩ := List.getElem?_eq_some_iff.mp hj
  intro x hx hx2
  by_cases c : i < j
  · exact h i j h1 h3 c x (by rw [h2]; exact hx) x (by rw [h4]; exact hx2) rfl
  · exact h j i h3 h1 (by omega) x (by rw [h4]; exact hx2) x (by rw [h2]; exact hx) rfl
theorem DA.subM {q : RA} (hq : q ∈ d.qs) : ∀ x ∈ q.M, x ∈ d.M := fun x hx => List.mem_cons_of_mem _ (List.mem_flatMap.mpr ⟨q, hq, hx⟩)
theorem RowO.inH {q : RA} {num first home : Nat} {bs : List Bool} {cn : List Int} {us : List Nat} {cost moves : Nat} (O : RowO K q num first home bs cn us cost moves W) : ∀ x ∈ q.M, W.h x ≠ none := by
  have nz : ∀ {p : Addr} {o : HO}, W.h p = some o → W.h p ≠ none := fun e => by rw [e]; exact fun e => nomatch e
  intro x hx
  rcases List.mem_cons.mp hx with e | hx
  · subst e; exact nz O.ins
  rcases List.mem_cons.mp hx with e | hx
  · subst e; exact nz O.hm
  rcases List.mem_cons.mp hx with e | hx
  · subst e; exact nz O.hc
  rcases List.mem_cons.mp hx with e | hx
  · subst e; exact nz O.hu
  · cases hx
/-- other addresses change: a row stays -/
theorem RowO.away {q : RA} {num first home : Nat} {bs : List Bool} {cn : List Int} {us : List Nat} {cost moves : Nat} {M : List Addr} (O : RowO K q num first home bs cn us cost moves W) (g : GrowM M W W') (hM : ∀ x ∈ q.M, x ∉ M) : RowO K q num first home bs cn us cost moves W' := by
  obtain ⟨m1, m2, m3, m4⟩ := RowO.inM q
  exact ⟨g.hm _ _ (hM _ m1) O.ins, g.hm _ _ (hM _ m2) O.hm, g.hm _ _ (hM _ m3) O.hc, g.hm _ _ (hM _ m4) O.hu, fun x hx => g.fr _ (O.nf x hx) (O.inH x hx), O.nd, g.fh⟩
def hAt (h : House) (i : Nat) (r : VRow) : House := { h with rows := h.rows.set i r }
theorem srt_set {l : List VRow} (h : l.Pairwise fun a b => a.number < b.number) {i : Nat} {r r' : VRow} (hi : l[i]? = some r) (e : r'.number = r.number) : (l.set i r').Pairwise fun a b => a.number < b.number := by
  rw [List.pairwise_iff_getElem] at h ⊢
  obtain ⟨h1, h2⟩ := List.getElem?_eq_some_iff.mp hi
  intro a b ha hb hab
  rw [List.length_set] at ha hb
  have := h a b ha hb hab
  rw [List.getElem_set, List.getElem_set]
  split
  · rename_i q
    subst q
    rw [if_neg (by omega), e, ← h2]
    exact this
  · split
    · rename_i q
      subst q
      rw [e, ← h2]
      exact this
    · exact this
/-- one row changes -/
theorem DeskO.put {i : Nat} {q : RA} {r r' : VRow} (O : DeskO K d (some h) W) (hq : d.qs[i]? = some q) (hr : h.rows[i]? = some r) (g : GrowM q.M W W') (A : RowAt K q h.tree h.factor r' W') (ok : RowOk h.tree h.factor r') (en : r'.number = r.number) : DeskO K d (some (hAt h i r')) W' := by
  have hqm := List.mem_of_getElem? hq
  have hl := (List.getElem?_eq_some_iff.mp hr).1
  obtain ⟨y1, y2, y3, y4⟩ := O.yes h rfl
  refine ⟨g.hm _ _ (DA.ne_a O.nd hqm) O.ins, g.ff _ _ O.rows, (fun e => by cases e), fun h' e => ?_, O.nd, g.fr _ O.nf (by rw [O.ins]; exact fun e => nomatch e), g.fh⟩
  cases e
  refine ⟨⟨y1.wf, y1.f1, y1.f2, fun x hx => ?_, by show (h.rows.set i r').length ≤ 12; rw [List.length_set]; exact y1.many, srt_set y1.srt hr en⟩, Rep.mono g.ff _ _ y2, by show d.qs.length = (h.rows.set i r').length; rw [List.length_set]; exact y3, fun j q2 r2 h1 h2 => ?_⟩
  · rcases List.mem_or_eq_of_mem_set hx with e | e
    · exact y1.rows x e
    · rw [e]; exact ok
  · have h2 : (h.rows.set i r')[j]? = some r2 := h2
    rw [List.getElem?_set] at h2
    by_cases c : i = j
    · subst c
      rw [if_pos rfl, if_pos hl] at h2
      cases h2
      rw [hq] at h1
      cases h1
      exact A
    · rw [if_neg c] at h2
      exact (y4 j q2 r2 h1 h2).away g fun x hx hx2 => DA.disj O.nd c hq h1 x hx2 hx
theorem DeskO.rowRep {i : Nat} {q : RA} {r : VRow} (O : DeskO K d (some h) W) (hq : d.qs[i]? = some q) (hr : h.rows[i]? = some r) : Rep (view W d.M).f (dRow K h.tree h.factor r) (.ref q.a) :=
  RowO.view ((O.yes h rfl).2.2.2 i q r hq hr) (DA.subM (List.mem_of_getElem? hq))
theorem dkNames_no {m : Str} (h : decide (m ∈ dkNames) = false) (vs : List V) : (dkNames.zip vs).lookup m = none := zip_none (of_decide_eq_false h)
/-- the field rows, the field tree, by themselves -/
theorem DeskO.fldTree (O : DeskO K d s W) (T : Top K mg) {i : Nat} (hi : σ[i]? = some (some (.ref d.a))) : EvD (tFld K (tVar i) "tree") σ W (.v d.tv) := ev_fldZ 0 (cl_Desk T) (na_Desk_tree T) (ev_own hi) O.ins (by decide +kernel) rfl
theorem DeskO.fldRows (O : DeskO K d s W) (T : Top K mg) {i : Nat} (hi : σ[i]? = some (some (.ref d.a))) : EvD (tFld K (tVar i) "rows") σ W (.v (.ref d.rl)) := ev_fldZ 1 (cl_Desk T) (na_Desk_rows T) (ev_own hi) O.ins (by decide +kernel) rfl
end
end Hm
end
section
set_option Elab.async false
set_option linter.all false
set_option maxRecDepth 100000
set_option maxHeartbeats 4000000
namespace Hm
open PySem PySem.Spec PyProof.Rows L2
open C8 (Cal Met Mak pe_c pe_mt pe_mt0 pe_mk pe_gc)
open Vbjtah (versionCount edgesOf isBelow distance)
/-! ### the desk: a row by its number, a tree, no row any more -/
open Vbjtah (House homeOf)
section
variable {K : PySem.W.Frag} {σ : L2.St} {W : Wd} {ta tb te tl : TE} {tt : TT} {D0 : Ends} {vs : List Nat} {d : D}
theorem ef_cat {xs ys : List D} (hz : xs.length + ys.length ≤ 10000000) (ha : EvD ta σ W (.l xs)) (hb : EvD tb σ W (.l ys)) : EvF (tOp rCat ta tb) σ W (.l (xs ++ ys)) := fun W1 g Q q =>
  ha W1 g _ fun x W2 g2 ⟨p1, vs1, e1, e2, e3⟩ => hb W2 (g.trans g2) _ fun y W3 g3 ⟨p2, vs2, f1, f2, f3⟩ =>
    ⟨p1, p2, vs1, vs2, e1, f1, g3.fh _ _ (g3.ff _ _ e2), g3.fh _ _ f2, szLe (by rw [e3.len, f3.len]; exact hz), fun r hr =>
      q r ⟨upd W3.f r (.lst (vs1 ++ vs2)), upd W3.h r (.lst (vs1 ++ vs2))⟩ ((g2.trans g3).trans (.new g3.fh hr)) (none_of (g2.trans g3).hh hr) ⟨r, _, rfl, upd_same, Reps.mono (.new (none_of g3.fh hr)) _ _ ((Reps.mono g3.ff _ _ e3).app f3)⟩⟩
/-- self.f = e, where e lies at a free address -/
theorem s_putFF {a C dx : Addr} {ns : List Str} {vs : List V} {f : Str} {i j : Nat} (hi : σ[i]? = some (some (.ref a))) (hp : W.h a = some (.ins C dx (ns.zip vs))) (cl : Cls K C) (na : NoAttr K C f) (hf : fldIx f ns j = true) (hl : ns.length = vs.length) (hz : ns.length < 1000) (ok : Ex W.f W.h) (h : EvF te σ W d)
    (k : ∀ p W1, Grow W W1 → W.h p = none → Rep W1.f d (.ref p) → D0.nx σ (upd W1.h a (.ins C dx (ns.zip (vs.set j (.ref p)))))) : sFld K (tVar i) te f D0 σ W.h :=
  h W (.refl ok) _ fun p W1 g hn r => ⟨_, hi, a, C, dx, _, rfl, g.hh a _ hp, cl, na, by rw [List.length_zip]; omega, by rw [putF_old (fldIx_ok hf).1 (fldIx_ok hf).2 hl]; exact k p W1 g hn r⟩
end
def rowV (qs : List RA) (rows : List VRow) (num : Nat) : V := match (qs.zip rows).find? (fun x => decide (x.2.number = num)) with
  | none => .non
  | some x => .ref x.1.a
theorem zip_refs : ∀ {qs : List RA} {rows : List VRow}, qs.length = rows.length → (qs.zip rows).map (fun x => V.ref x.1.a) = refs qs
  | [], _, _ => rfl
  | q :: qs, [], h => by cases h
  | q :: qs, r :: rows, h => by
    show V.ref q.a :: (qs.zip rows).map _ = V.ref q.a :: refs qs
    rw [zip_refs (by simpa using h)]
/-! #### a row by its number: its place -/
theorem zip_find {num : Nat} : ∀ {rows : List VRow} {qs : List RA}, qs.length = rows.length → ((∃ (i : Nat) (q : RA) (r : VRow), qs[i]? = some q ∧ rows[i]? = some r ∧ r.number = num ∧ rows.find? (fun r => r.number == num) = some r ∧ rowV qs rows num = .ref q.a) ∨ (rows.find? (fun r => r.number == num) = none ∧ rowV qs rows num = .non))
  | [], [], _ => .inr ⟨rfl, rfl⟩
  | [], _ :: _, h => by cases h
  | _ :: _, [], h => by cases h
  | r :: rows, q :: qs, h => by
    by_cases c : r.number = num
    · refine .inl ⟨0, q, r, rfl, rfl, c, by rw [List.find?_cons, beq_iff_eq.mpr c], ?_⟩
      unfold rowV
      rw [List.zip_cons_cons, List.find?_cons]
      show (match (match decide (r.number = num) with | true => some (q, r) | false => _) with | none => V.non | some x => .ref x.1.a) = _
      rw [decide_eq_true c]
    · have e1 : (r :: rows).find? (fun r => r.number == num) = rows.find? (fun r => r.number == num) := by
        rw [List.find?_cons, beq_eq_false_iff_ne.mpr c]
      have e2 : rowV (q :: qs) (r :: rows) num = rowV qs rows num := by
        unfold rowV
        rw [List.zip_cons_cons, List.find?_cons]
        show (match (match decide (r.number = num) with | true => some (q, r) | false => _) with | none => V.non | some x => .ref x.1.a) = _
        rw [decide_eq_false c]
      rw [e1, e2]
      rcases zip_find (num := num) (rows := rows) (qs := qs) (by simpa using h) with ⟨i, q2, r2, h1, h2, h3, h4, h5⟩ | h
      · exact .inl ⟨i + 1, q2, r2, by rw [List.getElem?_cons_succ]; exact h1, by rw [List.getElem?_cons_succ]; exact h2, h3, h4, h5⟩
      · exact .inr h
theorem refs_rep {H : Hp} {α : Type} {f : α → V} {l : List α} {vs : List V} : Reps H (l.map fun x => D.v (f x)) vs ↔ vs = l.map f := Reps.map_eq fun _ _ => Iff.rfl
section
variable {P : Program} {w : World} {K : PySem.W.Frag} {mg : Str → Option Value} {base : Heap}
abbrev sp_Desk_row_at (K : PySem.W.Frag) : Sp := fun vs H Q _ => ∃ (Hf : Hp) (a dx rl : Addr) (tv : V) (t : Tr) (F : Nat) (rows : List VRow) (qs : List RA) (num : Nat), vs = [.ref a, vn num] ∧ Ex Hf H ∧ Hf a = some (.ins (C_Desk K) dx (dkNames.zip [tv, .ref rl])) ∧ Hf rl = some (.lst (refs qs)) ∧ Reps Hf (rows.map (dRow K t F)) (refs qs) ∧ rows.length ≤ 1000 ∧
  ∀ W', Grow ⟨Hf, H⟩ W' → Q (rowV qs rows num) W'.h
theorem met_Desk_row_at (T : Top K mg) : Met P w K mg base 1 (C_Desk K) "row_at" (sp_Desk_row_at K) [] :=
  metOf (cl_Desk T) (me_Desk_row_at T) (F_Desk_row_at T) sc_Desk_row_at (fun _ _ _ _ _ _ us hl => match us, hl with | [_, _], _ => rfl) (fun _ _ _ _ h => by obtain ⟨_, _, _, _, _, _, _, _, _, _, rfl, _⟩ := h; rfl) fun cdv A outer s H vs Q E hr h => by
  obtain ⟨Hf, a, dx, rl, tv, t, F, rows, qs, num, rfl, ok, hi, hr, hrep, hz, k⟩ := h
  refine ⟨_, (pss_cons (ps_for PassesOwn.never rfl (pi_listK K rfl (pe_fldK K rfl (pv 0) rfl)) (pg_name (i := 2) sc_Desk_row_at.nd rfl (Or.inl rfl))
        (pss_one (ps_if (pt_cmpR op_eq (pe_fldK K rfl (pv 2) rfl) (pv 1) (nomark _))
        (pss_one (ps_ret (pv 2)))
        pss_nil)))
        (pss_one (ps_ret pe_non))), ?_⟩
  have hl : qs.length = rows.length := by
    have := hrep.len
    unfold refs at this
    rwa [List.length_map, List.length_map] at this
  have hrl : Rep Hf (.l ((qs.zip rows).map fun x => .v (.ref x.1.a))) (.ref rl) := ⟨rl, _, rfl, hr, refs_rep.mpr (zip_refs hl).symm⟩
  refine s_forL (W := ⟨Hf, H⟩) (qs.zip rows) (fun x => .v (.ref x.1.a)) ((ev_fldZ 1 (cl_Desk T) (na_Desk_rows T) (ev_own rfl) (ok _ _ hi) (by decide +kernel) rfl).raw hrl) ok fun W2 g2 => ⟨fun m σ' W' => ∃ x, σ' = [some (.ref a), some (vn num), x] ∧ Grow W2 W' ∧ ((qs.zip rows).take m).find? (fun x => decide (x.2.number = num)) = none, ⟨none, rfl, g2.rf, by rw [List.take_zero]; rfl⟩, fun m σ' W' ⟨_, _, q, _⟩ => ⟨q.ff, q.fh⟩, ?_, ?_⟩
  · rintro m ⟨q, r⟩ xv σ' W' hx ⟨x, rfl, g3, hm⟩ rx
    have rx : xv = .ref q.a := rx
    subst rx
    have a3 := g2.trans g3
    obtain ⟨x1, x2⟩ := List.getElem?_zip_eq_some.mp hx
    obtain ⟨u, u1, u2⟩ := hrep.get (j := m) (d := dRow K t F r) (by rw [List.getElem?_map, x2]; rfl)
    unfold refs at u1
    rw [List.getElem?_map, x1] at u1
    have u1 : V.ref q.a = u := Option.some.inj u1
    subst u1
    refine s_ifs (W := W') (et_test (ev_op rv_eqN (row_number (t := t) (F := F) (r := r) T (ev_var (Rep.mono a3.ff _ _ u2) rfl)) (ev_var (d := dn num) rfl rfl))) g3.fh (fun e W5 g5 => ?_) (fun e W5 g5 => ?_)
    · have ef : (qs.zip rows).find? (fun x => decide (x.2.number = num)) = some (q, r) := by
        have e1 : qs.zip rows = (qs.zip rows).take m ++ (q, r) :: (qs.zip rows).drop (m + 1) := by
          obtain ⟨h1, h2⟩ := List.getElem?_eq_some_iff.mp hx
          rw [← h2, ← List.drop_eq_getElem_cons h1, List.take_append_drop]
        rw [e1, List.find?_append, hm, Option.none_or, List.find?_cons]
        show (match decide (r.number = num) with | true => some (q, r) | false => _) = _
        rw [e]
      unfold rowV at k
      rw [ef] at k
      refine s_ret (W := W5) (d := .v (.ref q.a)) (ev_own rfl) g5.fh fun z W6 g6 r6 => ?_
      have r6 : z = .ref q.a := r6
      subst r6
      exact k W6 ((a3.trans g5).trans g6)
    · refine ⟨W5, rfl, _, rfl, g3.trans g5, ?_⟩
      rw [List.take_add_one, hx, List.find?_append, hm, Option.none_or]
      show List.find? _ [(q, r)] = none
      rw [List.find?_cons]
      show (match decide (r.number = num) with | true => some (q, r) | false => _) = _
      rw [e]
      rfl
  · rintro σ' W' ⟨x, rfl, g3, hm⟩
    rw [List.take_length] at hm
    dsimp only
    unfold rowV at k
    rw [hm] at k
    refine s_ret (W := W') (d := .n) ev_non g3.fh fun z W6 g6 r6 => ?_
    have r6 : z = .non := r6
    subst r6
    exact k W6 ((g2.trans g3).trans g6)
abbrev sp_Desk_set_tree (K : PySem.W.Frag) : Sp := fun vs H Q _ => ∃ (Hf : Hp) (d : DA) (s : Option House) (t : Tr) (F : Nat) (v2 v3 : V), vs = [.ref d.a, vn F, v2, v3] ∧ DeskO K d s ⟨Hf, H⟩ ∧ Rep Hf (.l (t.parents.map dn)) v2 ∧ Rep Hf (.l (t.lengths.map dn)) v3 ∧ (Wf t ∧ 1 ≤ F ∧ F ≤ 20) ∧ Post K d ⟨Hf, H⟩ (some ⟨t, F, []⟩, nI [0, versionCount t]) Q
theorem met_Desk_set_tree (T : Top K mg) : Met P w K mg base 7 (C_Desk K) "set_tree" (sp_Desk_set_tree K) [] :=
  metOf (cl_Desk T) (me_Desk_set_tree T) (F_Desk_set_tree T) sc_Desk_set_tree (fun _ _ _ _ _ _ us hl => match us, hl with | [_, _, _, _], _ => rfl) (fun _ _ _ _ h => by obtain ⟨_, _, _, _, _, _, _, rfl, _⟩ := h; rfl) fun cdv A outer s H vs Q E hr h => by
  obtain ⟨Hf, d, s0, t, F, v2, v3, rfl, O, r2, r3, ⟨hw, hF1, hF2⟩, k⟩ := h
  refine ⟨_, (pss_cons (ps_fld (pv 0) (pe_mk (mak_Tree T) hr (by decide) rfl (pa_cons (pv 1) (pa_cons (pv 2) (pa_cons (pv 3) pa_nil)))) rfl)
        (pss_cons (ps_fld (pv 0) (pe_lst pa_nil) rfl)
        (pss_one (ps_ret (pe_lst (pa_cons pe_int (pa_cons (pe_fldK K rfl (pe_fldK K rfl (pv 0) rfl) rfl) pa_nil))))))), ?_⟩
  have inM : d.a ∈ d.M := List.mem_cons_self
  refine s_putF (W := ⟨Hf, H⟩) (j := 0) (vs := _) rfl O.ins (cl_Desk T) (na_Desk_tree T) (by decide +kernel) rfl (by decide) O.ok (ev_make (x := (t, F)) hw (ea_cons (ev_var (d := dn F) rfl rfl) (ea_cons (ev_var (W := ⟨Hf, H⟩) r2 rfl) (ea_cons (ev_var (W := ⟨Hf, H⟩) r3 rfl) ea_nil)))) fun tv W1 g1 rt => ?_
  dsimp only
  have n1 : W1.f d.a = none := g1.fr _ O.nf (by show H d.a ≠ none; rw [show H d.a = _ from O.ins]; exact fun e => nomatch e)
  have G1 := (g1.m d.M).set (p := d.a) (o := .ins (C_Desk K) d.dx (dkNames.zip [tv, .ref d.rl])) inM n1
  have rt : Rep W1.f (dTree K t F true) tv := rt
  refine s_putF (W := ⟨W1.f, upd W1.h d.a (.ins (C_Desk K) d.dx (dkNames.zip [tv, .ref d.rl]))⟩) (j := 1) (vs := [tv, .ref d.rl]) rfl upd_same (cl_Desk T) (na_Desk_rows T) (by decide +kernel) rfl (by decide) G1.fh (d := .l []) (ev_lst ea_nil (by show 0 ≤ 10000000; decide)) fun rv W2 g2 rr => ?_
  dsimp only
  obtain ⟨rl, vs, e1, e2, e3⟩ := rr
  have e3 : vs = [] := e3
  subst e3 e1
  have n2 : W2.f d.a = none := g2.fr _ n1 (by show upd W1.h d.a _ d.a ≠ none; rw [upd_same]; exact fun e => nomatch e)
  have G2 := (G1.trans (g2.m d.M)).set (p := d.a) (o := .ins (C_Desk K) d.dx (dkNames.zip [tv, .ref rl])) inM n2
  have rt2 : Rep W2.f (dTree K t F true) tv := Rep.mono g2.ff _ _ rt
  refine s_ret (W := ⟨W2.f, upd W2.h d.a (.ins (C_Desk K) d.dx (dkNames.zip [tv, .ref rl]))⟩) (ev_lst (ds := [.i 0, dn (versionCount t)]) (ea_cons ev_int (ea_cons (fld_count (full := true) T ((ev_fldZ (v := tv) 0 (cl_Desk T) (na_Desk_tree T) (ev_own rfl) upd_same (by decide +kernel) rfl).raw rt2)) ea_nil)) (by show 2 ≤ 10000000; decide)) G2.fh fun r W3 g3 r4 => ?_
  have G3 := G2.trans (g3.m d.M)
  refine k r W3 ⟨d.a, d.dx, tv, rl, []⟩ G3 rfl ⟨g3.hh _ _ upd_same, g3.ff _ _ e2, (fun e => by cases e), fun h e => ?_, by show [d.a].Nodup; simp, g3.fr _ n2 (by show upd W2.h d.a _ d.a ≠ none; rw [upd_same]; exact fun e => nomatch e), g3.fh⟩ (fun x hx => .inl ?_) ?_
  · cases e
    exact ⟨⟨hw, hF1, hF2, fun r hr => (by cases hr), Nat.zero_le _, .nil⟩, Rep.mono g3.ff _ _ rt2, rfl, fun i q r h1 h2 => by simp at h1⟩
  · have : x = d.a := by simpa [DA.M] using hx
    rw [this]; exact inM
  · obtain ⟨p, us, f1, f2, f3⟩ := r4
    refine ⟨p, f1, ?_, fun x h1 h2 h3 e => ?_⟩
    · rw [g3.fh _ _ f2, Reps.ints.mp (show Reps W3.f ((nI [0, versionCount t]).map D.i) us from f3)]
    · have := G3.fr x h1 h2
      rw [← e, f2] at this
      cases this
end
end Hm
end
section
set_option Elab.async false
set_option linter.all false
set_option maxRecDepth 100000
set_option maxHeartbeats 4000000
namespace Hm
open PySem PySem.Spec PyProof.Rows L2
open C8 (Cal Met Mak pe_c pe_mt pe_mt0 pe_mk pe_gc)
open Vbjtah (versionCount edgesOf isBelow distance)
/-! ### the desk: a row's uses -/
open Vbjtah (House homeOf used)
def useOf (h : House) (i : Nat) (r : VRow) (l : List Nat) : Option House × List Int :=
  if areThere h (nI l) = false then (some h, [-4]) else if 60 < r.uses.length + l.length then (some h, [-7]) else
  (some (hAt h i (l.foldl (used h.tree h.factor) r)), nI [0, (l.foldl (used h.tree h.factor) r).cost - r.cost, (l.foldl (used h.tree h.factor) r).moves - r.moves, homeOf h.tree (l.foldl (used h.tree h.factor) r).marks])
theorem hAt_self {h : House} {i : Nat} {r : VRow} (e : h.rows[i]? = some r) : hAt h i r = h := by
  unfold hAt
  obtain ⟨h1, h2⟩ := List.getElem?_eq_some_iff.mp e
  rw [← h2, List.set_getElem_self]
theorem hAt_hAt (h : House) (i : Nat) (r r' : VRow) : hAt (hAt h i r) i r' = hAt h i r' := by
  unfold hAt
  dsimp only
  rw [List.set_set]
theorem there_lt {h : House} {l : List Nat} (e : areThere h (nI l) = true) : ∀ u ∈ l, u < versionCount h.tree := by
  intro u hu
  unfold areThere nI at e
  rw [List.all_map, List.all_eq_true] at e
  have := of_decide_eq_true (e u hu)
  exact Int.ofNat_lt.mp this
section
variable {P : Program} {w : World} {K : PySem.W.Frag} {mg : Str → Option Value} {base : Heap}
abbrev sp_Desk_use (K : PySem.W.Frag) : Sp := fun vs H Q _ => ∃ (Hf : Hp) (d : DA) (h : House) (i : Nat) (q : RA) (r : VRow) (l : List Nat) (v2 : V), vs = [.ref d.a, .ref q.a, v2] ∧ DeskO K d (some h) ⟨Hf, H⟩ ∧ d.qs[i]? = some q ∧ h.rows[i]? = some r ∧ Rep Hf (.l (l.map dn)) v2 ∧ l.length ≤ 1200 ∧ Post K d ⟨Hf, H⟩ (useOf h i r l) Q
theorem met_Desk_use (T : Top K mg) : Met P w K mg base 5 (C_Desk K) "use" (sp_Desk_use K) [] :=
  metOf (cl_Desk T) (me_Desk_use T) (F_Desk_use T) sc_Desk_use (fun _ _ _ _ _ _ us hl => match us, hl with | [_, _, _], _ => rfl) (fun _ _ _ _ h => by obtain ⟨_, _, _, _, _, _, _, _, rfl, _⟩ := h; rfl) fun cdv A outer s H vs Q E hr h => by
  obtain ⟨Hf, d, h, i, q, r, l, v2, rfl, O, hq, hrr, rv, hl, k⟩ := h
  refine ⟨_, (pss_cons (ps_if (pt_not (pt_val (pe_mt (met_Desk_are_there T) hr (by decide) (pv 0) (pa_cons (pv 2) pa_nil))))
        (pss_one (ps_ret (pe_callTy (listK K rfl) rfl (T_list T) b_list (pa_cons (pe_gc rfl (g_NO_VERSION T)) pa_nil))))
        pss_nil)
        (pss_cons (ps_if (pt_cmpR op_gt (pe_op op_add (pe_callB (lenK K rfl) rfl (T_len T) b_len (pa_cons (pe_fldK K rfl (pv 1) rfl) pa_nil)) (pe_callB (lenK K rfl) rfl (T_len T) b_len (pa_cons (pv 2) pa_nil))) (pe_gc rfl (g_MOST_USES T)) (nomark _))
        (pss_one (ps_ret (pe_callTy (listK K rfl) rfl (T_list T) b_list (pa_cons (pe_gc rfl (g_TOO_MANY_USES T)) pa_nil))))
        pss_nil)
        (pss_cons (ps_par (i := 3) (j := 4) rfl sc_Desk_use.nd rfl rfl (by decide) rfl rfl (pa_cons (pe_fldK K rfl (pv 1) rfl) (pa_cons pe_int pa_nil)) rfl)
        (pss_cons (ps_for PassesOwn.never rfl (pi_listK K rfl (pv 2)) (pg_name (i := 5) sc_Desk_use.nd rfl (Or.inl rfl))
        (pss_one (ps_set (i := 4) sc_Desk_use.nd rfl (Or.inl rfl) (pe_op op_add (pv 4) (pe_mt (met_Row_use T) hr (by decide) (pv 1) (pa_cons (pe_fldK K rfl (pv 0) rfl) (pa_cons (pv 5) pa_nil)))))))
        (pss_one (ps_ret (pe_lst (pa_cons pe_int (pa_cons (pv 4) (pa_cons (pe_op op_sub (pe_fldK K rfl (pv 1) rfl) (pv 3)) (pa_cons (pe_fldK K rfl (pv 1) rfl) pa_nil))))))))))), ?_⟩
  have hqm := List.mem_of_getElem? hq
  have ho := (O.yes h rfl).1
  have rv0 : Rep (view ⟨Hf, H⟩ d.M).f (.l (l.map dn)) v2 := Rep.mono (view_ff O.nfM) _ _ rv
  have rq0 := O.rowRep hq hrr
  refine s_ifs (W := view ⟨Hf, H⟩ d.M) (et_not (et_B (ev_meth (x := (h, nI l)) rfl (by show (nI l).length ≤ 1200; unfold nI; rw [List.length_map]; exact hl) (by decide +kernel) (ev_var O.desk rfl) (ea_cons (EvD.is (ev_var rv0 rfl) (congrArg D.l (dn_nI _))) ea_nil)))) (view_fh O.ok) (fun e W1 g1 => ?_) (fun e W1 g1 => ?_)
  · have e : areThere h (nI l) = false := by simpa using e
    unfold useOf at k
    rw [if_pos e] at k
    exact s_endLook O g1 (ev_listTop (ns := [-4]) (fun H => lst_of T (xt_parts T).2.2.2.2.2.2.1 H)) k
  have e : areThere h (nI l) = true := by simpa using e
  have hv := there_lt e
  unfold useOf at k
  rw [if_neg (by rw [e]; decide)] at k
  dsimp only
  refine s_ifs (W := W1) (et_test (ev_op rv_gtN (ev_op rv_addN ((ev_lenK (row_uses (t := h.tree) (F := h.factor) (r := r) T (ev_var (up g1 rq0) rfl))).is (by rw [List.length_map])) ((ev_lenK (ev_var (up g1 rv0) rfl)).is (by rw [List.length_map]))) (ev_nat (n := 60)))) g1.fh (fun e2 W2 g2 => ?_) (fun e2 W2 g2 => ?_)
  · have e2 : 60 < r.uses.length + l.length := by simpa using e2
    rw [if_pos e2] at k
    exact s_endLook O (g1.trans g2) (ev_listTop (ns := [-7]) (fun H => lst_of T (xt_parts T).2.2.2.2.2.2.2.2.2.1 H)) k
  have e2 : ¬ 60 < r.uses.length + l.length := by simpa using e2
  rw [if_neg e2] at k
  dsimp only
  obtain ⟨W', eh, G, O', _, _, _⟩ := O.look (g1.trans g2)
  rw [← eh]
  have A := (O'.yes h rfl).2.2.2 i q r hq hrr
  refine s_par (W := W') (d1 := dn r.moves) (d2 := dn 0) (ea_cons ((ev_fldZ (v := vn r.moves) 7 (cl_Row T) (na_Row_moves T) (ev_own rfl) A.ins (by decide +kernel) rfl).raw rfl) (ea_cons ev_int ea_nil)) O'.ok fun v3 v4 W3 g3 r3 r4 => ?_
  have r3 : v3 = vn r.moves := r3
  have r4 : v4 = vn 0 := r4
  subst r3 r4
  dsimp only
  have rv3 : Rep W3.f (.l (l.map dn)) v2 := Rep.mono (G.ff.trans g3.ff) _ _ rv
  have O3 := O'.grow g3
  refine s_forL (W := W3) l dn (ev_var rv3 rfl) g3.fh fun W4 g4 => ⟨fun m σ' W5 => ∃ x, σ' = [some (.ref d.a), some (.ref q.a), some v2, some (vn r.moves), some (vn (((l.take m).foldl (used h.tree h.factor) r).cost - r.cost)), x] ∧ Ex W4.f W5.f ∧ GrowM d.M W4 W5 ∧ DeskO K d (some (hAt h i ((l.take m).foldl (used h.tree h.factor) r))) W5, ⟨none, ?_, .refl _, .refl g4.fh, ?_⟩, fun m σ' W5 ⟨_, _, x5, _, o5⟩ => ⟨x5, o5.ok⟩, ?_, ?_⟩
  · rw [List.take_zero]
    show _ = [some (V.ref d.a), some (.ref q.a), some v2, some (vn r.moves), some (vn (r.cost - r.cost)), none]
    rw [Nat.sub_self]
    rfl
  · rw [List.take_zero]
    show DeskO K d (some (hAt h i r)) W4
    rw [hAt_self hrr]
    exact O3.grow g4
  · rintro m v xv σ' W5 hx ⟨x, rfl, x5, g5, O5⟩ rx
    have rx : xv = vn v := rx
    subst rx
    have hvm := hv v (List.mem_of_getElem? hx)
    have hml := (List.getElem?_eq_some_iff.mp hx).1
    have lt : (l.take m).length = m := by rw [List.length_take]; omega
    have fn := fold_num (t := h.tree) (F := h.factor) (l.take m) r
    have tk : l.take (m + 1) = l.take m ++ [v] := by rw [List.take_add_one, hx]; rfl
    have okr : RowOk h.tree h.factor ((l.take m).foldl (used h.tree h.factor) r) := fold_okR ho.wf ho.f1 _ (ho.rows r (List.mem_of_getElem? hrr)) (fun u hu => hv u (List.mem_of_mem_take hu)) (by omega)
    obtain ⟨c, ec⟩ : ∃ c, (l.take m).foldl (used h.tree h.factor) r = c := ⟨_, rfl⟩
    have tkf : (l.take (m + 1)).foldl (used h.tree h.factor) r = used h.tree h.factor c v := by
      rw [tk, List.foldl_append, ec]
      rfl
    rw [ec] at fn O5 okr ⊢
    have hrc : (hAt h i c).rows[i]? = some c := by
      show (h.rows.set i c)[i]? = some c
      rw [List.getElem?_set_self (List.getElem?_eq_some_iff.mp hrr).1]
    obtain ⟨y1, y2, y3, y4⟩ := O5.yes _ rfl
    have A5 := y4 i q c hq hrc
    refine ⟨vn (c.cost - r.cost), rfl, ?_⟩
    refine m_call (W := W5) (m := "use") rfl A5.ins (rwNames_no (by decide +kernel) _) A5.ok (ea_cons ((O5.fldTree T rfl).raw y2) (ea_cons (ev_var (W := W5) (d := dn v) rfl rfl) ea_nil)) fun us W6 g6 ⟨u1, _, e1, k1, u2, _, e3, k2, k3⟩ => ?_
    have k3 : _ = [] := k3
    have k2 : u2 = vn v := k2
    subst k3 k2 e3 e1
    refine ⟨q, W6.f, h.tree, h.factor, c, v, u1, rfl, k1, A5.more g6, ⟨ho.wf, ho.f1, ho.f2, okr.marks, hvm, by have := okr.few; omega⟩, fun W7 g7 A7 => ?_⟩
    refine ⟨_, _, rfl, rfl, ?_⟩
    have ge := used_ge (t := h.tree) (F := h.factor) c v
    have num : (used h.tree h.factor c v).number = c.number := rfl
    have hlu : c.uses.length < 60 := by rw [fn.2.2.1, List.length_append, lt]; omega
    have O7 := DeskO.put (i := i) (O5.grow g6) hq hrc (W' := W7) g7 A7 (used_okR ho.wf ho.f1 okr hvm hlu) num
    rw [hAt_hAt] at O7
    refine ⟨W7, rfl, some (vn v), ?_, x5.trans (g6.ff.trans g7.ff), g5.trans ((g6.m d.M).trans (g7.sub (DA.subM hqm))), by rw [tkf]; exact O7⟩
    rw [tkf]
    show [some (V.ref d.a), some (.ref q.a), some v2, some (vn r.moves), some (V.int (((c.cost - r.cost : Nat) : Int) + (((used h.tree h.factor c v).cost - c.cost : Nat) : Int))), some (vn v)] = [some (V.ref d.a), some (.ref q.a), some v2, some (vn r.moves), some (vn ((used h.tree h.factor c v).cost - r.cost)), some (vn v)]
    rw [show (((c.cost - r.cost : Nat) : Int) + (((used h.tree h.factor c v).cost - c.cost : Nat) : Int)) = (((used h.tree h.factor c v).cost - r.cost : Nat) : Int) by omega]
  · rintro σ' W5 ⟨x, rfl, x5, g5, O5⟩
    rw [List.take_length] at O5
    dsimp only
    have fn := fold_num (t := h.tree) (F := h.factor) l r
    rw [List.take_length]
    obtain ⟨c, ec⟩ : ∃ c, l.foldl (used h.tree h.factor) r = c := ⟨_, rfl⟩
    rw [ec] at fn O5 k ⊢
    have hrc : (hAt h i c).rows[i]? = some c := by
      show (h.rows.set i c)[i]? = some c
      rw [List.getElem?_set_self (List.getElem?_eq_some_iff.mp hrr).1]
    obtain ⟨y1, y2, y3, y4⟩ := O5.yes _ rfl
    have A5 := y4 i q c hq hrc
    refine s_ret (W := W5) (d := dInts (nI [0, c.cost - r.cost, c.moves - r.moves, homeOf h.tree c.marks])) (ev_lst (ds := [.i 0, dn (c.cost - r.cost), dn (c.moves - r.moves), dn (homeOf h.tree c.marks)]) (ea_cons ev_int (ea_cons (ev_var (d := dn (c.cost - r.cost)) rfl rfl) (ea_cons (ev_op (rv_subN fn.2.2.2.2) ((ev_fldZ (v := vn c.moves) 7 (cl_Row T) (na_Row_moves T) (ev_own rfl) A5.ins (by decide +kernel) rfl).raw rfl) (ev_var (d := dn r.moves) rfl rfl)) (ea_cons ((ev_fldZ (v := vn (homeOf h.tree c.marks)) 2 (cl_Row T) (na_Row_home T) (ev_own rfl) A5.ins (by decide +kernel) rfl).raw rfl) ea_nil)))) (by show 4 ≤ 10000000; decide)) O5.ok fun v6 W6 g6 r6 => ?_
    have GG := (G.trans ((g3.trans g4).m d.M)).trans (g5.trans (g6.m d.M))
    exact k v6 W6 d GG rfl (O5.grow g6) (fun x hx => .inl hx) (goodRes GG r6)
end
end Hm
end
section
set_option Elab.async false
set_option linter.all false
set_option maxRecDepth 100000
set_option maxHeartbeats 4000000
namespace Hm
open PySem PySem.Spec PyProof.Rows L2
open C8 (Cal Met Mak pe_c pe_mt pe_mt0 pe_mk pe_gc)
open Vbjtah (versionCount edgesOf isBelow distance)
/-! ### the desk: rows come and go -/
open Vbjtah (House homeOf used newRow insertRow)
theorem nodupM {a : Addr} {qs : List RA} : (a :: qs.flatMap RA.M).Nodup ↔ (∀ q ∈ qs, a ∉ q.M) ∧ (∀ q ∈ qs, q.M.Nodup) ∧ qs.Pairwise fun q1 q2 => ∀ x ∈ q1.M, x ∉ q2.M := by
  rw [List.nodup_cons]
  have e : (qs.flatMap RA.M).Nodup ↔ (∀ q ∈ qs, q.M.Nodup) ∧ qs.Pairwise fun q1 q2 => ∀ x ∈ q1.M, x ∉ q2.M := by
    unfold List.Nodup
    rw [List.pairwise_flatMap]
    refine and_congr Iff.rfl ⟨fun h => h.imp fun h2 x hx hx2 => h2 x hx x hx2 rfl, fun h => h.imp ?_⟩
    intro a b h2 x hx y hy e
    subst e
    exact h2 x hx hy
  rw [e, List.mem_flatMap]
  exact and_congr ⟨fun h q hq hx => h ⟨q, hq, hx⟩, fun h ⟨q, hq, hx⟩ => h q hq hx⟩ Iff.rfl
theorem zip_all {α β : Type} {P : α → β → Prop} {xs : List α} {ys : List β} : (∀ z ∈ xs.zip ys, P z.1 z.2) ↔ ∀ (i : Nat) x y, xs[i]? = some x → ys[i]? = some y → P x y := by
  constructor
  · intro h i x y hx hy
    exact h (x, y) (List.mem_iff_getElem?.mpr ⟨i, List.getElem?_zip_eq_some.mpr ⟨hx, hy⟩⟩)
  · intro h z hz
    obtain ⟨i, hi⟩ := List.mem_iff_getElem?.mp hz
    obtain ⟨h1, h2⟩ := List.getElem?_zip_eq_some.mp hi
    exact h i z.1 z.2 h1 h2
theorem zip_fst_snd {α β : Type} : ∀ l : List (α × β), (l.map (·.1)).zip (l.map (·.2)) = l
  | [] => rfl
  | a :: l => by rw [List.map_cons, List.map_cons, List.zip_cons_cons, zip_fst_snd l]
theorem zip_filter {α β : Type} {p : β → Bool} : ∀ {xs : List α} {ys : List β}, xs.length = ys.length → ((xs.zip ys).filter fun z => p z.2).map (·.2) = ys.filter p
  | [], [], _ => rfl
  | _ :: _, [], h => by cases h
  | [], _ :: _, h => by cases h
  | x :: xs, y :: ys, h => by
    rw [List.zip_cons_cons, List.filter_cons, List.filter_cons]
    show (if p y = true then _ else _ : List (α × β)).map (·.2) = if p y = true then _ else _
    split
    · rw [List.map_cons, zip_filter (by simpa using h)]
    · exact zip_filter (by simpa using h)
theorem zip_sub {α β : Type} {p : α × β → Bool} : ∀ {xs : List α} {ys : List β}, (((xs.zip ys).filter p).map (·.1)).Sublist xs
  | [], _ => by rw [List.zip_nil_left]; exact .slnil
  | _ :: _, [] => by rw [List.zip_nil_right]; exact List.nil_sublist _
  | x :: xs, y :: ys => by
    rw [List.zip_cons_cons, List.filter_cons]
    split
    · exact (zip_sub (xs := xs) (ys := ys)).cons₂ _
    · exact (zip_sub (xs := xs) (ys := ys)).cons _
theorem refs_map {α : Type} (l : List α) (f : α → RA) : refs (l.map f) = l.map fun x => V.ref (f x).a := by
  unfold refs
  rw [List.map_map]
  rfl
theorem s_fldF {K : PySem.W.Frag} {σ : L2.St} {W : Wd} {te : TE} {D0 : Ends} {d : D} {f : Str} {i : Nat} (h : EvF te σ W d) (ok : Ex W.f W.h) (k : ∀ p W1, Grow W W1 → W.h p = none → Rep W1.f d (.ref p) → ∃ a C dx fs, σ[i]? = some (some (.ref a)) ∧ W1.h a = some (.ins C dx fs) ∧ Cls K C ∧ NoAttr K C f ∧ fs.length < 1000 ∧ D0.nx σ (upd W1.h a (.ins C dx (putF f (.ref p) fs)))) : sFld K (tVar i) te f D0 σ W.h :=
  h W (.refl ok) _ fun p W1 g hn r => by
    obtain ⟨a, C, dx, fs, h1, h2, h3, h4, h5, h6⟩ := k p W1 g hn r
    exact ⟨_, h1, a, C, dx, fs, rfl, h2, h3, h4, h5, h6⟩
def removeOf (h : House) (num : Nat) : Option House × List Int := (some { h with rows := h.rows.filter fun x => x.number != num }, nI [0, (h.rows.filter fun x => x.number != num).length])
section
variable {P : Program} {w : World} {K : PySem.W.Frag} {mg : Str → Option Value} {base : Heap}
abbrev sp_Desk_remove (K : PySem.W.Frag) : Sp := fun vs H Q _ => ∃ (Hf : Hp) (d : DA) (h : House) (i : Nat) (q : RA) (r : VRow), vs = [.ref d.a, .ref q.a] ∧ DeskO K d (some h) ⟨Hf, H⟩ ∧ d.qs[i]? = some q ∧ h.rows[i]? = some r ∧ Post K d ⟨Hf, H⟩ (removeOf h r.number) Q
theorem met_Desk_remove (T : Top K mg) : Met P w K mg base 1 (C_Desk K) "remove" (sp_Desk_remove K) [] :=
  metOf (cl_Desk T) (me_Desk_remove T) (F_Desk_remove T) sc_Desk_remove (fun _ _ _ _ _ _ us hl => match us, hl with | [_, _], _ => rfl) (fun _ _ _ _ h => by obtain ⟨_, _, _, _, _, _, rfl, _⟩ := h; rfl) fun cdv A outer s H vs Q E hr h => by
  obtain ⟨Hf, d, h, i, q, r, rfl, O, hq, hrr, k⟩ := h
  refine ⟨_, (pss_cons (ps_fld (pv 0) (pe_lc (own := [("own", 2)]) (g := gName 2) rfl sc_Desk_remove.nd (pi_listK K rfl (pe_fldK K rfl (pv 0) rfl)) (blkOk_by (own := [("own", 2)]) (N := N_Desk_remove) (sc := defScope s_Desk_remove) (by decide +kernel)) (fun _ _ _ _ _ => (pg_name (i := 2) sc_Desk_remove.nd rfl (Or.inl rfl) (hf := Or.inr rfl))) (fun _ _ _ _ _ => (pts_one (pt_cmpR op_ne (pe_fldK K rfl (pv 2) rfl) (pe_fldK K rfl (pv 1) rfl) (nomark _)))) (fun _ _ _ _ _ => (pv 2))) rfl)
        (pss_one (ps_ret (pe_lst (pa_cons pe_int (pa_cons (pe_callB (lenK K rfl) rfl (T_len T) b_len (pa_cons (pe_fldK K rfl (pv 0) rfl) pa_nil)) pa_nil)))))), ?_⟩
  obtain ⟨ho, y2, hl, y4⟩ := O.yes h rfl
  have hm := ho.many
  have rq0 := O.rowRep hq hrr
  have inM : d.a ∈ d.M := List.mem_cons_self
  obtain ⟨p, ep⟩ : ∃ p : RA × VRow → Bool, p = fun x => !decide (x.2.number = r.number) := ⟨_, rfl⟩
  have hrl : Rep (view ⟨Hf, H⟩ d.M).f (.l ((d.qs.zip h.rows).map fun x => .v (.ref x.1.a))) (.ref d.rl) := ⟨d.rl, refs d.qs, rfl, by rw [view_no O.rl_no]; exact O.rows, refs_rep.mpr (zip_refs hl).symm⟩
  refine s_fldF (W := view ⟨Hf, H⟩ d.M) (ef_lcL (d.qs.zip h.rows) (fun x => .v (.ref x.1.a)) p (fun x => .v (.ref x.1.a)) ((ev_fldZ (W := view ⟨Hf, H⟩ d.M) 1 (cl_Desk T) (na_Desk_rows T) (ev_own rfl) O.ins (by decide +kernel) rfl).raw hrl) (by rw [List.length_zip]; omega) fun j x xv W1 g1 hx rx => ?_) (view_fh O.ok) fun pa W1 g1 hn rl => ?_
  · obtain ⟨x1, x2⟩ := List.getElem?_zip_eq_some.mp hx
    have rx : xv = .ref x.1.a := rx
    subst rx
    have r1 := O.rowRep x1 x2
    refine ⟨?_, fun _ => ev_own rfl⟩
    rw [ep]
    exact et_test (ev_op rv_neN (row_number (t := h.tree) (F := h.factor) (r := x.2) T (ev_var (up g1 r1) rfl)) (row_number (t := h.tree) (F := h.factor) (r := r) T (ev_var (up g1 rq0) rfl)))
  obtain ⟨W', eh, G, O', f2, f1, _⟩ := O.look g1
  have hn : H pa = none := hn
  have npa : pa ∉ d.M := fun hx => O.inM pa hx hn
  obtain ⟨_, us, e1, e2, e3⟩ := rl
  cases e1
  have e3 : us = ((d.qs.zip h.rows).filter p).map fun x => V.ref x.1.a := refs_rep.mp e3
  have e2' : W'.f pa = some (.lst us) := by rw [f2 _ npa]; exact e2
  obtain ⟨qs', eqs⟩ : ∃ qs', qs' = ((d.qs.zip h.rows).filter p).map (·.1) := ⟨_, rfl⟩
  obtain ⟨h', eh'⟩ : ∃ h' : House, h' = { h with rows := h.rows.filter fun x => x.number != r.number } := ⟨_, rfl⟩
  have er : h'.rows = ((d.qs.zip h.rows).filter p).map (·.2) := by
    rw [eh', ep]
    have : (fun x : VRow => x.number != r.number) = fun x => !decide (x.number = r.number) := funext fun x => by
      by_cases c : x.number = r.number
      · rw [decide_eq_true c, bne, beq_iff_eq.mpr c]
      · rw [decide_eq_false c, bne, beq_eq_false_iff_ne.mpr c]
    show h.rows.filter _ = _
    rw [this]
    exact (zip_filter (p := fun y : VRow => !decide (y.number = r.number)) hl).symm
  have hsub : qs'.Sublist d.qs := by rw [eqs]; exact zip_sub
  have nd := nodupM.mp O.nd
  have G2 := G.set (p := d.a) (o := .ins (C_Desk K) d.dx (dkNames.zip [d.tv, .ref pa])) inM (f1 _ inM)
  have O2 : DeskO K ⟨d.a, d.dx, d.tv, pa, qs'⟩ (some h') ⟨W'.f, upd W'.h d.a (.ins (C_Desk K) d.dx (dkNames.zip [d.tv, .ref pa]))⟩ := by
    obtain ⟨z1, z2, z3, z4⟩ := O'.yes h rfl
    refine ⟨upd_same, by rw [e2', e3, eqs, refs_map], (fun e => by cases e), fun h2 e => ?_, nodupM.mpr ⟨fun q2 hq2 => nd.1 q2 (hsub.subset hq2), fun q2 hq2 => nd.2.1 q2 (hsub.subset hq2), nd.2.2.sublist hsub⟩, f1 _ inM, G2.fh⟩
    cases e
    have hsr : h'.rows.Sublist h.rows := by rw [eh']; exact List.filter_sublist
    refine ⟨⟨by rw [eh']; exact z1.wf, by rw [eh']; exact z1.f1, by rw [eh']; exact z1.f2, fun x hx => by have := z1.rows x (hsr.subset hx); rw [eh']; exact this, Nat.le_trans hsr.length_le hm, z1.srt.sublist hsr⟩, by rw [eh']; exact z2, by rw [er]; show qs'.length = _; rw [eqs, List.length_map, List.length_map], ?_⟩
    refine zip_all.mp ?_
    intro z hz
    have hz : z ∈ qs'.zip h'.rows := hz
    rw [eqs, er, zip_fst_snd] at hz
    have hz2 := (List.mem_filter.mp hz).1
    have A := zip_all.mpr z4 z hz2
    have hzq := (List.of_mem_zip (show (z.1, z.2) ∈ d.qs.zip h.rows from hz2)).1
    have A2 := A.away ((GrowM.refl (M := [d.a]) A.ok).set (p := d.a) (o := .ins (C_Desk K) d.dx (dkNames.zip [d.tv, .ref pa])) List.mem_cons_self (f1 _ inM)) fun x hx hx2 => nd.1 z.1 hzq (by rw [← List.mem_singleton.mp hx2]; exact hx)
    rw [eh']
    exact A2
  refine ⟨d.a, C_Desk K, d.dx, _, rfl, by rw [← eh]; exact O'.ins, cl_Desk T, na_Desk_rows T, by show 2 < 1000; decide, ?_⟩
  rw [← eh, putF_old (j := 1) (ns := dkNames) rfl (fun i hi => by
    have : i = 0 := by omega
    subst this
    decide +kernel) rfl]
  dsimp only
  refine s_ret (W := ⟨W'.f, upd W'.h d.a (.ins (C_Desk K) d.dx (dkNames.zip [d.tv, .ref pa]))⟩) (d := dInts (nI [0, h'.rows.length])) (ev_lst (ds := [.i 0, dn h'.rows.length]) (ea_cons ev_int (ea_cons ((ev_lenK ((O2.fldRows T rfl).raw (d := .l (qs'.map fun x => .v (.ref x.a))) ⟨pa, _, rfl, O2.rows, refs_rep.mpr rfl⟩)).is (by rw [List.length_map, (O2.yes _ rfl).2.2.1])) ea_nil)) (by show 2 ≤ 10000000; decide)) O2.ok fun v6 W6 g6 r6 => ?_
  have GG := G2.trans (g6.m d.M)
  unfold removeOf at k
  rw [← eh', show (h.rows.filter fun x => x.number != r.number) = h'.rows by rw [eh']] at k
  refine k v6 W6 ⟨d.a, d.dx, d.tv, pa, qs'⟩ GG rfl (O2.grow g6) (fun x hx => .inl ?_) (goodRes GG r6)
  rcases List.mem_cons.mp hx with e | hx
  · rw [e]; exact inM
  · obtain ⟨q2, h2, h3⟩ := List.mem_flatMap.mp hx
    exact DA.subM (hsub.subset h2) x h3
end
end Hm
end
section
set_option Elab.async false
set_option linter.all false
set_option maxRecDepth 100000
set_option maxHeartbeats 4000000
namespace Hm
open PySem PySem.Spec PyProof.Rows L2
open C8 (Cal Met Mak pe_c pe_mt pe_mt0 pe_mk pe_gc)
open Vbjtah (versionCount edgesOf isBelow distance)
/-! ### the desk: a new row -/
open Vbjtah (House homeOf used newRow insertRow)
/-- what evaluates to something that is told of both, value and world -/
def EvP (te : TE) (σ : L2.St) (W : Wd) (P : V → Wd → Prop) : Prop := ∀ W1, Grow W W1 → ∀ Q : VK, (∀ v W2, Grow W1 W2 → P v W2 → Q v W2.h) → te σ W1.h Q
section
variable {P : Program} {w : World} {K : PySem.W.Frag} {mg : Str → Option Value} {σ : L2.St} {W W1 : Wd} {te ta tb : TE} {tr : TA} {E : XK} {d : DA} {h : House}
/-- a new row in a list -/
def newP (K : PySem.W.Frag) (E0 : Wd) (t : Tr) (F : Nat) (r : VRow) (pre post : List RA) (v : V) (W : Wd) : Prop := ∃ q : RA, Rep W.f (.l ((pre ++ [q] ++ post).map fun x => .v (.ref x.a))) v ∧ RowAt K q t F r W ∧ ∀ x ∈ q.M, E0.h x = none
theorem evp_new {t : Tr} {F num v : Nat} (hw : Wf t) (hF : 1 ≤ F) (hv : v < versionCount t) (ha : EvA tr σ W [dTree K t F true, dn num, dn v]) : EvP (tLst (tCons (tMake (C_Row K) (sp_Row_init K) [] E tr) tNil)) σ W (newP K W t F (newRow t F num v) [] []) := fun W1 g Q k =>
  ha W1 g _ fun vs W2 g2 rs a dx h1 h2 h3 => ⟨(t, F, num, v), W2.f, W2.h, a, dx, vs, by rw [List.append_nil], h1, h2, h3, rfl, g2.fh, rs, ⟨hw, hF, hv⟩, fun W3 ⟨g3, q, ea, A, fr⟩ => ⟨rfl, by show 1 ≤ sizeLine; decide, fun p hp => by
    have g4 : Grow W3 ⟨upd W3.f p (.lst [.ref a]), upd W3.h p (.lst [.ref a])⟩ := .new A.ok hp
    refine k (.ref p) ⟨upd W3.f p (.lst [.ref a]), upd W3.h p (.lst [.ref a])⟩ ((g2.trans g3).trans g4) ⟨q, ⟨p, [.ref a], rfl, upd_same, .one (by show V.ref a = .ref q.a; rw [ea])⟩, A.more g4, fun x hx => none_of ((g.trans g2).hh) (fr x hx)⟩⟩⟩
theorem newP.grow {E0 : Wd} {t : Tr} {F : Nat} {r : VRow} {pre post : List RA} {v : V} (h : newP K E0 t F r pre post v W) (g : Grow W W1) : newP K E0 t F r pre post v W1 := by
  obtain ⟨q, r1, A, f⟩ := h
  exact ⟨q, up g r1, A.more g, f⟩
/-- a list ahead of it, a list behind it -/
theorem evp_catL {E0 : Wd} {t : Tr} {F : Nat} {r : VRow} {pre post pre2 : List RA} (hz : pre2.length + (pre ++ post).length < 1000) (ha : EvD ta σ W (.l (pre2.map fun x => .v (.ref x.a)))) (hb : EvP tb σ W (newP K E0 t F r pre post)) : EvP (tOp rCat ta tb) σ W (newP K E0 t F r (pre2 ++ pre) post) := fun W1 g Q k =>
  ha W1 g _ fun x W2 g2 r2 => hb W2 (g.trans g2) _ fun y W3 g3 ⟨q, r3, A, f⟩ => by
    refine rv_cat (xs := pre2.map fun x => D.v (.ref x.a)) (ys := (pre ++ [q] ++ post).map fun x => D.v (.ref x.a)) (by rw [List.length_map, List.length_map]; rw [List.length_append] at hz; simp only [List.length_append, List.length_cons, List.length_nil]; omega) W3 x y g3.rf (up g3 r2) r3 _ fun v W4 g4 r4 => ?_
    refine k v W4 ((g2.trans g3).trans g4) ⟨q, ?_, A.more g4, f⟩
    rw [← List.map_append] at r4
    simpa only [List.append_assoc] using r4
theorem evp_catR {E0 : Wd} {t : Tr} {F : Nat} {r : VRow} {pre post post2 : List RA} (hz : post2.length + (pre ++ post).length < 1000) (hb : EvP tb σ W (newP K E0 t F r pre post)) (ha : EvD ta σ W (.l (post2.map fun x => .v (.ref x.a)))) : EvP (tOp rCat tb ta) σ W (newP K E0 t F r pre (post ++ post2)) := fun W1 g Q k =>
  hb W1 g _ fun y W2 g2 n2 => ha W2 (g.trans g2) _ fun x W3 g3 r3 => by
    obtain ⟨q, r2, A, f⟩ := n2.grow g3
    refine rv_cat (xs := (pre ++ [q] ++ post).map fun x => D.v (.ref x.a)) (ys := post2.map fun x => D.v (.ref x.a)) (by rw [List.length_map, List.length_map]; rw [List.length_append] at hz; simp only [List.length_append, List.length_cons, List.length_nil]; omega) W3 y x g3.rf r2 r3 _ fun v W4 g4 r4 => ?_
    refine k v W4 ((g2.trans g3).trans g4) ⟨q, ?_, A.more g4, f⟩
    rw [← List.map_append] at r4
    simpa only [List.append_assoc] using r4
/-- the row at a number, as the address -/
theorem ev_rowAt {i num : Nat} (O : DeskO K d (some h) W) (g : Grow (view W d.M) W1) (hi : σ[i]? = some (some (.ref d.a))) (ha : EvA tr σ W1 [dn num]) : EvD (tMeth (C_Desk K) "row_at" (sp_Desk_row_at K) [] E (tVar i) tr) σ W1 (.v (rowV d.qs h.rows num)) := fun W2 g2 Q k => by
  have gg := g.trans g2
  have hin : W2.h d.a = some (.ins (C_Desk K) d.dx (dkNames.zip [d.tv, .ref d.rl])) := gg.hh _ _ O.ins
  refine ⟨_, hi, d.a, d.dx, _, rfl, hin, dkNames_no (by decide +kernel) _, ha W2 g2 _ fun us W3 g3 r3 => ?_⟩
  rw [List.append_nil]
  obtain ⟨u, _, e1, r4, e2⟩ := r3
  have e2 : _ = [] := e2
  have r4 : u = vn num := r4
  subst e2 r4 e1
  have g4 := gg.trans g3
  refine ⟨W3.f, d.a, d.dx, d.rl, d.tv, h.tree, h.factor, h.rows, d.qs, num, rfl, g3.fh, g4.ff _ _ (by rw [view_in (show d.a ∈ d.M from List.mem_cons_self)]; exact O.ins), g4.ff _ _ (by rw [view_no O.rl_no]; exact O.rows), Reps.mono g4.ff _ _ O.rowsRep, by have := (O.yes h rfl).1.many; omega, fun W5 g5 => k _ W5 (g3.trans g5) rfl⟩
end
theorem s_fldP {K : PySem.W.Frag} {σ : L2.St} {W : Wd} {te : TE} {D0 : Ends} {P : V → Wd → Prop} {f : Str} {i : Nat} (h : EvP te σ W P) (ok : Ex W.f W.h) (k : ∀ v W1, Grow W W1 → P v W1 → ∃ a C dx fs, σ[i]? = some (some (.ref a)) ∧ W1.h a = some (.ins C dx fs) ∧ Cls K C ∧ NoAttr K C f ∧ fs.length < 1000 ∧ D0.nx σ (upd W1.h a (.ins C dx (putF f v fs)))) : sFld K (tVar i) te f D0 σ W.h :=
  h W (.refl ok) _ fun p W1 g r => by
    obtain ⟨a, C, dx, fs, h1, h2, h3, h4, h5, h6⟩ := k p W1 g r
    exact ⟨_, h1, a, C, dx, fs, rfl, h2, h3, h4, h5, h6⟩
theorem s_setF {σ : L2.St} {W : Wd} {te : TE} {D0 : Ends} {d : D} {i : Nat} (h : EvF te σ W d) (ok : Ex W.f W.h) (k : ∀ p W1, Grow W W1 → W.h p = none → Rep W1.f d (.ref p) → D0.nx (σ.set i (some (.ref p))) W1.h) : tAsg te (gName i) D0 σ W.h := h W (.refl ok) _ fun p W1 g hn r => k p W1 g hn r
theorem take_zip2 {α β : Type} {xs : List α} {ys : List β} {n : Nat} : (xs.zip ys).take n = (xs.take n).zip (ys.take n) := List.take_zipWith
theorem drop_zip2 {α β : Type} {xs : List α} {ys : List β} {n : Nat} : (xs.zip ys).drop n = (xs.drop n).zip (ys.drop n) := List.drop_zipWith
theorem zip_ahead {α : Type} {num : Nat} {xs : List α} {ys : List VRow} (hl : xs.length = ys.length) (hs : ys.Pairwise fun a b => a.number < b.number) : ((xs.zip ys).filter fun x => decide (x.2.number < num)) = (xs.zip ys).take (ys.filter fun x => decide (x.number < num)).length := by
  have h1 := zip_filter (p := fun y : VRow => decide (y.number < num)) hl
  have gen : ∀ (l : List (α × VRow)), (l.map (·.2)).Pairwise (fun a b => a.number < b.number) → (l.filter fun x => decide (x.2.number < num)) = l.take ((l.map (·.2)).filter fun x => decide (x.number < num)).length := by
    intro l
    induction l with
    | nil => intro _; rfl
    | cons a l ih =>
      intro h
      rw [List.map_cons] at h
      obtain ⟨a1, a2⟩ := List.pairwise_cons.mp h
      by_cases c : a.2.number < num
      · rw [List.filter_cons, if_pos (decide_eq_true c), List.map_cons, List.filter_cons, if_pos (decide_eq_true c), List.length_cons, List.take_succ_cons, ih a2]
      · have e1 : ((a :: l).filter fun x => decide (x.2.number < num)) = [] := by
          rw [List.filter_eq_nil_iff]
          intro x hx
          rcases List.mem_cons.mp hx with e | hx
          · rw [e]; simpa using c
          · have := a1 x.2 (List.mem_map.mpr ⟨x, hx, rfl⟩)
            simp; omega
        have e2 : (((a :: l).map (·.2)).filter fun x => decide (x.number < num)) = [] := by
          rw [List.filter_eq_nil_iff]
          intro x hx
          obtain ⟨y, hy, rfl⟩ := List.mem_map.mp hx
          have := List.filter_eq_nil_iff.mp e1 y hy
          exact this
        rw [e1, e2]
        rfl
  have h2 := gen (xs.zip ys) (by rw [List.map_snd_zip (by omega)]; exact hs)
  rw [List.map_snd_zip (by omega)] at h2
  exact h2
def addOf (h : House) (num v : Nat) : Option House × List Int :=
  if areThere h [(v : Int)] = false then (some h, [-4]) else if (h.rows.find? (fun r => r.number == num)).isSome = true ∨ 12 ≤ h.rows.length then (some h, [-6]) else
  (some { h with rows := insertRow (newRow h.tree h.factor num v) h.rows }, nI [0, h.rows.length + 1])
section
variable {P : Program} {w : World} {K : PySem.W.Frag} {mg : Str → Option Value} {base : Heap}
abbrev sp_Desk_add (K : PySem.W.Frag) : Sp := fun vs H Q _ => ∃ (Hf : Hp) (d : DA) (h : House) (num v : Nat), vs = [.ref d.a, vn num, vn v] ∧ DeskO K d (some h) ⟨Hf, H⟩ ∧ Post K d ⟨Hf, H⟩ (addOf h num v) Q
theorem met_Desk_add (T : Top K mg) : Met P w K mg base 4 (C_Desk K) "add" (sp_Desk_add K) [] :=
  metOf (cl_Desk T) (me_Desk_add T) (F_Desk_add T) sc_Desk_add (fun _ _ _ _ _ _ us hl => match us, hl with | [_, _, _], _ => rfl) (fun _ _ _ _ h => by obtain ⟨_, _, _, _, _, rfl, _⟩ := h; rfl) fun cdv A outer s H vs Q E hr h => by
  obtain ⟨Hf, d, h, num, v, rfl, O, k⟩ := h
  refine ⟨_, (pss_cons (ps_if (pt_not (pt_val (pe_mt (met_Desk_are_there T) hr (by decide) (pv 0) (pa_cons (pe_lst (pa_cons (pv 2) pa_nil)) pa_nil))))
        (pss_one (ps_ret (pe_callTy (listK K rfl) rfl (T_list T) b_list (pa_cons (pe_gc rfl (g_NO_VERSION T)) pa_nil))))
        pss_nil)
        (pss_cons (ps_if (PW.pt (pw_or (pt_cmpR op_notN (pe_mt (met_Desk_row_at T) hr (by decide) (pv 0) (pa_cons (pv 1) pa_nil)) pe_non (nomark _)) (pw_or1 (pt_cmpR op_eq (pe_callB (lenK K rfl) rfl (T_len T) b_len (pa_cons (pe_fldK K rfl (pv 0) rfl) pa_nil)) (pe_gc rfl (g_MOST_ROWS T)) (nomark _)))))
        (pss_one (ps_ret (pe_callTy (listK K rfl) rfl (T_list T) b_list (pa_cons (pe_gc rfl (g_NO_PLACE T)) pa_nil))))
        pss_nil)
        (pss_cons (ps_setLc (i := 3) (own := [("row", 4)]) (g := gName 4) rfl sc_Desk_add.nd rfl rfl (sw_true rfl rfl rfl (by decide +kernel)) (pi_listK K rfl (pe_fldK K rfl (pv 0) rfl)) (blkOk_by (own := [("row", 4)]) (N := N_Desk_add) (sc := defScope s_Desk_add) (by decide +kernel)) (fun _ _ _ _ _ => (pg_name (i := 4) sc_Desk_add.nd rfl (Or.inl rfl) (hf := Or.inr rfl))) (fun _ _ _ _ _ => (pts_one (pt_cmpR op_lt (pe_fldK K rfl (pv 4) rfl) (pv 1) (nomark _)))) (fun _ _ _ _ _ => (pv 4)))
        (pss_cons (ps_fld (pv 0) (pe_op op_cat (pe_op op_cat (pv 3) (pe_lst (pa_cons (pe_mk (mak_Row T) hr (by decide) rfl (pa_cons (pe_fldK K rfl (pv 0) rfl) (pa_cons (pv 1) (pa_cons (pv 2) pa_nil)))) pa_nil))) (pe_slice (slL K rfl) (pe_fldK K rfl (pv 0) rfl) (po_some (pe_callB (lenK K rfl) rfl (T_len T) b_len (pa_cons (pv 3) pa_nil))) po_none)) rfl)
        (pss_one (ps_ret (pe_lst (pa_cons pe_int (pa_cons (pe_callB (lenK K rfl) rfl (T_len T) b_len (pa_cons (pe_fldK K rfl (pv 0) rfl) pa_nil)) pa_nil))))))))), ?_⟩
  obtain ⟨ho, y2, hl, y4⟩ := O.yes h rfl
  have hm := ho.many
  have inM : d.a ∈ d.M := List.mem_cons_self
  refine s_ifs (W := view ⟨Hf, H⟩ d.M) (et_not (et_B (ev_meth (x := (h, [(v : Int)])) rfl (by show 1 ≤ 1200; decide) (by decide +kernel) (ev_var O.desk rfl) (ea_cons (ev_lst (ds := [D.i (v : Int)]) (ea_cons (ev_var (d := dn v) rfl rfl) ea_nil) (by show 1 ≤ 10000000; decide)) ea_nil)))) (view_fh O.ok) (fun e W1 g1 => ?_) (fun e W1 g1 => ?_)
  · have e : areThere h [(v : Int)] = false := by simpa using e
    unfold addOf at k
    rw [if_pos e] at k
    exact s_endLook O g1 (ev_listTop (ns := [-4]) (fun H => lst_of T (xt_parts T).2.2.2.2.2.2.1 H)) k
  have e : areThere h [(v : Int)] = true := by simpa using e
  have hv : v < versionCount h.tree := there_lt (l := [v]) e v List.mem_cons_self
  unfold addOf at k
  rw [if_neg (by rw [e]; decide)] at k
  dsimp only
  have fnd := zip_find (num := num) (rows := h.rows) (qs := d.qs) hl
  have hnon : decide (rowV d.qs h.rows num = V.non) = !(h.rows.find? (fun r => r.number == num)).isSome := by
    rcases fnd with ⟨i, q, r, _, _, _, h4, h5⟩ | ⟨h4, h5⟩
    · rw [h4, h5]; rfl
    · rw [h4, h5]; rfl
  refine s_ifs (W := W1) (et_or (et_test (ev_op rv_notN (ev_rowAt O g1 rfl (ea_cons (ev_var (d := dn num) rfl rfl) ea_nil)) ev_non)) fun _ => et_test (ev_op rv_eqN ((ev_lenK (desk_rows T (ev_var (up g1 O.desk) rfl))).is (by rw [List.length_map])) (ev_nat (n := 12)))) g1.fh (fun e2 W2 g2 => ?_) (fun e2 W2 g2 => ?_)
  · rw [hnon, Bool.not_not, Bool.or_eq_true, decide_eq_true_eq] at e2
    rw [if_pos (e2.imp id fun q => by omega)] at k
    exact s_endLook O (g1.trans g2) (ev_listTop (ns := [-6]) (fun H => lst_of T (xt_parts T).2.2.2.2.2.2.2.2.1 H)) k
  rw [hnon, Bool.not_not, Bool.or_eq_false_iff, decide_eq_false_iff_not] at e2
  have hfn : h.rows.find? (fun r => r.number == num) = none := by simpa using e2.1
  have hlt : h.rows.length < 12 := by have := e2.2; omega
  rw [if_neg (by rintro (q | q); rw [e2.1] at q; cases q; omega)] at k
  dsimp only
  have a2 := g1.trans g2
  have hrl : Rep (view ⟨Hf, H⟩ d.M).f (.l ((d.qs.zip h.rows).map fun x => .v (.ref x.1.a))) (.ref d.rl) := ⟨d.rl, refs d.qs, rfl, by rw [view_no O.rl_no]; exact O.rows, refs_rep.mpr (zip_refs hl).symm⟩
  have hin2 : W2.h d.a = some (.ins (C_Desk K) d.dx (dkNames.zip [d.tv, .ref d.rl])) := a2.hh _ _ O.ins
  refine s_setF (W := W2) (ef_lcL (d.qs.zip h.rows) (fun x => .v (.ref x.1.a)) (fun x => decide (x.2.number < num)) (fun x => .v (.ref x.1.a)) ((ev_fldZ 1 (cl_Desk T) (na_Desk_rows T) (ev_own rfl) hin2 (by decide +kernel) rfl).raw (up a2 hrl)) (by rw [List.length_zip]; omega) fun j x xv W3 g3 hx rx => ?_) g2.fh fun pa W3 g3 hn ra => ?_
  · obtain ⟨x1, x2⟩ := List.getElem?_zip_eq_some.mp hx
    have rx : xv = .ref x.1.a := rx
    subst rx
    exact ⟨et_test (ev_op rv_ltN (row_number (t := h.tree) (F := h.factor) (r := x.2) T (ev_var (up (a2.trans g3) (O.rowRep x1 x2)) rfl)) (ev_var (d := dn num) rfl rfl)), fun _ => ev_own rfl⟩
  dsimp only
  obtain ⟨W', eh, G, O', f2, f1, _⟩ := O.look (a2.trans g3)
  have hn0 : H pa = none := none_of a2.hh hn
  have npa : pa ∉ d.M := fun hx => O.inM pa hx hn0
  obtain ⟨kk, ekk⟩ : ∃ kk, kk = (h.rows.filter fun x => decide (x.number < num)).length := ⟨_, rfl⟩
  have eqa : (((d.qs.zip h.rows).filter fun x => decide (x.2.number < num)).map fun x => D.v (.ref x.1.a)) = (d.qs.take kk).map fun x => D.v (.ref x.a) := by
    have h1 : ((d.qs.zip h.rows).filter fun x => decide (x.2.number < num)) = (d.qs.zip h.rows).take kk := by
      have := zip_ahead (num := num) (xs := d.qs) (ys := h.rows) hl ho.srt
      rw [ekk]
      exact this
    have h2 : ((d.qs.zip h.rows).take kk).map (·.1) = d.qs.take kk := by
      rw [List.map_take, List.map_fst_zip (by omega)]
    rw [h1, ← h2, List.map_map]
    rfl
  rw [eqa] at ra
  have kle : kk ≤ h.rows.length := by rw [ekk]; exact List.length_filter_le _ _
  have ra' : Rep W'.f (.l ((d.qs.take kk).map fun x => D.v (.ref x.a))) (.ref pa) := by
    obtain ⟨_, us, e1, e3, e4⟩ := ra
    cases e1
    exact ⟨pa, us, rfl, by rw [f2 _ npa]; exact e3, refs_rep.mpr (refs_rep.mp e4)⟩
  rw [← eh]
  obtain ⟨z1, z2, z3, z4⟩ := O'.yes h rfl
  have hrows : EvD (tFld K (tVar 0) "rows") [some (V.ref d.a), some (vn num), some (vn v), some (.ref pa), none] W' (.l (d.qs.map fun x => .v (.ref x.a))) := (O'.fldRows T rfl).raw ⟨d.rl, _, rfl, O'.rows, refs_rep.mpr rfl⟩
  refine s_fldP (W := W') (evp_catR (pre := d.qs.take kk ++ []) (post := []) (post2 := d.qs.drop kk) (by rw [List.append_nil, List.append_nil, List.length_take, List.length_drop]; omega) (evp_catL (E0 := W') (pre := []) (post := []) (pre2 := d.qs.take kk) (by rw [List.length_take]; show _ + 0 < 1000; omega) (ev_var ra' rfl) (evp_new (num := num) ho.wf ho.f1 hv (ea_cons ((O'.fldTree T rfl).raw z2) (ea_cons (ev_var (d := dn num) rfl rfl) (ea_cons (ev_var (d := dn v) rfl rfl) ea_nil))))) ?_) O'.ok fun p4 W4 g4 n4 => ?_
  · have h1 := ev_slice (K := K) hrows (eo_some ((ev_lenK (K := K) (ev_var (i := 3) ra' rfl)).is (by rw [List.length_map, List.length_take, Nat.min_eq_left (by omega)]) : EvD _ _ W' (dn kk))) eo_none
    rw [cut_from] at h1
    rw [List.map_drop]
    exact h1
  obtain ⟨q, r4, A, fr⟩ := n4
  rw [List.append_nil, List.nil_append] at r4
  have O4 := O'.grow g4
  refine ⟨d.a, C_Desk K, d.dx, _, rfl, O4.ins, cl_Desk T, na_Desk_rows T, by show 2 < 1000; decide, ?_⟩
  rw [putF_old (j := 1) (ns := dkNames) rfl (fun i hi => by
    have : i = 0 := by omega
    subst this
    decide +kernel) rfl]
  obtain ⟨p, us, e1, e3, e4⟩ := r4
  subst e1
  have e4 : us = refs (d.qs.take kk ++ [q] ++ d.qs.drop kk) := refs_rep.mp e4
  dsimp only
  have nd := nodupM.mp O.nd
  have frE : ∀ x ∈ q.M, H x = none := fun x hx => G.none (fr x hx)
  have nq : ∀ x ∈ q.M, x ∉ d.M := fun x hx hx2 => O.inM x hx2 (frE x hx)
  have G4 := G.trans (g4.m d.M)
  have G5 := G4.set (p := d.a) (o := .ins (C_Desk K) d.dx (dkNames.zip [d.tv, .ref p])) inM O4.nf
  obtain ⟨h', eh'⟩ : ∃ h' : House, h' = { h with rows := insertRow (newRow h.tree h.factor num v) h.rows } := ⟨_, rfl⟩
  have hnn : ∀ x ∈ h.rows, x.number ≠ num := fun x hx e => by
    have := List.find?_eq_none.mp hfn x hx
    exact this (beq_iff_eq.mpr e)
  have er : h'.rows = h.rows.take kk ++ [newRow h.tree h.factor num v] ++ h.rows.drop kk := by
    rw [eh', ekk]
    exact insert_eq ho.srt hnn
  have hlen : h'.rows.length = h.rows.length + 1 := by rw [eh']; exact insert_len _ _
  have O2 : DeskO K ⟨d.a, d.dx, d.tv, p, d.qs.take kk ++ [q] ++ d.qs.drop kk⟩ (some h') ⟨W4.f, upd W4.h d.a (.ins (C_Desk K) d.dx (dkNames.zip [d.tv, .ref p]))⟩ := by
    obtain ⟨w1, w2, w3, w4⟩ := O4.yes h rfl
    have away : ∀ {q2 : RA} {r2 : VRow}, d.a ∉ q2.M → RowAt K q2 h.tree h.factor r2 W4 → RowAt K q2 h.tree h.factor r2 ⟨W4.f, upd W4.h d.a (.ins (C_Desk K) d.dx (dkNames.zip [d.tv, .ref p]))⟩ := fun ha A => A.away ((GrowM.refl (M := [d.a]) A.ok).set (p := d.a) (o := .ins (C_Desk K) d.dx (dkNames.zip [d.tv, .ref p])) List.mem_cons_self O4.nf) fun x hx hx2 => ha (by rw [← List.mem_singleton.mp hx2]; exact hx)
    have aq : d.a ∉ q.M := fun hx => nq _ hx inM
    have memq : ∀ q2 ∈ d.qs.take kk ++ [q] ++ d.qs.drop kk, q2 = q ∨ q2 ∈ d.qs := fun q2 hq2 => by
      rcases List.mem_append.mp hq2 with hq2 | hq2
      · rcases List.mem_append.mp hq2 with hq2 | hq2
        · exact .inr (List.mem_of_mem_take hq2)
        · exact .inl (List.mem_singleton.mp hq2)
      · exact .inr (List.mem_of_mem_drop hq2)
    refine ⟨upd_same, by rw [e3, e4], (fun e => by cases e), fun h2 e => ?_, nodupM.mpr ⟨fun q2 hq2 => ?_, fun q2 hq2 => ?_, ?_⟩, O4.nf, G5.fh⟩
    · cases e
      refine ⟨⟨by rw [eh']; exact w1.wf, by rw [eh']; exact w1.f1, by rw [eh']; exact w1.f2, fun x hx => ?_, by rw [hlen]; omega, ?_⟩, by rw [eh']; exact w2, ?_, zip_all.mp ?_⟩
      · rw [er] at hx
        have okn : RowOk h.tree h.factor (newRow h.tree h.factor num v) := ⟨hv, fun u hu => (by cases hu), Nat.zero_le _, start_ok ho.wf ho.f1 hv⟩
        have : RowOk h.tree h.factor x := by
          rcases List.mem_append.mp hx with hx | hx
          · rcases List.mem_append.mp hx with hx | hx
            · exact ho.rows x (List.mem_of_mem_take hx)
            · rw [List.mem_singleton.mp hx]; exact okn
          · exact ho.rows x (List.mem_of_mem_drop hx)
        rw [eh']
        exact this
      · rw [eh']
        exact insert_sorted ho.srt hnn
      · rw [hlen]
        show (d.qs.take kk ++ [q] ++ d.qs.drop kk).length = _
        simp only [List.length_append, List.length_take, List.length_drop, List.length_cons, List.length_nil]
        omega
      · intro z hz
        have hz : z ∈ (d.qs.take kk ++ [q] ++ d.qs.drop kk).zip h'.rows := hz
        rw [er, List.zip_append (by simp only [List.length_append, List.length_take, List.length_cons, List.length_nil]; omega), List.zip_append (by rw [List.length_take, List.length_take]; omega)] at hz
        have : RowAt K z.1 h.tree h.factor z.2 ⟨W4.f, upd W4.h d.a (.ins (C_Desk K) d.dx (dkNames.zip [d.tv, .ref p]))⟩ := by
          rcases List.mem_append.mp hz with hz | hz
          · rcases List.mem_append.mp hz with hz | hz
            · rw [← take_zip2] at hz
              have hz2 := List.mem_of_mem_take hz
              exact away (nd.1 _ (List.of_mem_zip (show (z.1, z.2) ∈ d.qs.zip h.rows from hz2)).1) (zip_all.mpr w4 z hz2)
            · have : z = (q, newRow h.tree h.factor num v) := List.mem_singleton.mp hz
              rw [this]
              exact away aq A
          · rw [← drop_zip2] at hz
            have hz2 := List.mem_of_mem_drop hz
            exact away (nd.1 _ (List.of_mem_zip (show (z.1, z.2) ∈ d.qs.zip h.rows from hz2)).1) (zip_all.mpr w4 z hz2)
        rw [eh']
        exact this
    · rcases memq q2 hq2 with e | hq2
      · rw [e]; exact aq
      · exact nd.1 q2 hq2
    · rcases memq q2 hq2 with e | hq2
      · rw [e]; exact A.nd
      · exact nd.2.1 q2 hq2
    · have hp := nd.2.2
      rw [← List.take_append_drop kk d.qs, List.pairwise_append] at hp
      refine List.pairwise_append.mpr ⟨List.pairwise_append.mpr ⟨hp.1, List.pairwise_singleton _ _, fun a ha b hb x hx hx2 => ?_⟩, hp.2.1, fun a ha b hb => ?_⟩
      · rw [List.mem_singleton.mp hb] at hx2
        exact nq x hx2 (DA.subM (List.mem_of_mem_take ha) x hx)
      · rcases List.mem_append.mp ha with ha | ha
        · exact hp.2.2 a ha b hb
        · rw [List.mem_singleton.mp ha]
          exact fun x hx hx2 => nq x hx (DA.subM (List.mem_of_mem_drop hb) x hx2)
  refine s_ret (W := ⟨W4.f, upd W4.h d.a (.ins (C_Desk K) d.dx (dkNames.zip [d.tv, .ref p]))⟩) (d := dInts (nI [0, h.rows.length + 1])) (ev_lst (ds := [.i 0, dn (h.rows.length + 1)]) (ea_cons ev_int (ea_cons ((ev_lenK ((O2.fldRows T rfl).raw (d := .l ((d.qs.take kk ++ [q] ++ d.qs.drop kk).map fun x => .v (.ref x.a))) ⟨p, _, rfl, O2.rows, refs_rep.mpr rfl⟩)).is (by rw [List.length_map, show (d.qs.take kk ++ [q] ++ d.qs.drop kk).length = _ from (O2.yes _ rfl).2.2.1, hlen])) ea_nil)) (by show 2 ≤ 10000000; decide)) O2.ok fun v6 W6 g6 r6 => ?_
  have GG := G5.trans (g6.m d.M)
  rw [← eh'] at k
  refine k v6 W6 ⟨d.a, d.dx, d.tv, p, d.qs.take kk ++ [q] ++ d.qs.drop kk⟩ GG rfl (O2.grow g6) (fun x hx => ?_) (goodRes GG r6)
  rcases List.mem_cons.mp hx with e | hx
  · rw [e]; exact .inl inM
  · obtain ⟨q2, hq2, h3⟩ := List.mem_flatMap.mp hx
    rcases List.mem_append.mp hq2 with hq2 | hq2
    · rcases List.mem_append.mp hq2 with hq2 | hq2
      · exact .inl (DA.subM (List.mem_of_mem_take hq2) x h3)
      · rw [List.mem_singleton.mp hq2] at h3
        exact .inr (frE x h3)
    · exact .inl (DA.subM (List.mem_of_mem_drop hq2) x h3)
end
end Hm
end
section
set_option Elab.async false
set_option linter.all false
set_option maxRecDepth 100000
set_option maxHeartbeats 4000000
namespace Hm
open Vbjtah (versionCount edgesOf isBelow distance costIn assignmentCost sumInts minimumOf edgeCosts firstCosts boundValues valueFields lengthOf fixedCost medianOf House homeOf sumOf Mark loadOf inRange argumentsInRange callOf leastTotal firstAssignment pricesOf toNats insertRow setRow rowIn used newRow stepInRange bestCost bestSchedule scheduleCost boundOf valuesFrom boundFault)
/-! ### plain: what each call is answered -/
theorem call_0 {ns : List Int} {ls : List (List Int)} {c : Vbjtah.Call} (h : callOf ((0 :: ns) :: ls) = some c) : ∃ f p l, ns = [f] ∧ ls = [p, l] ∧ c = .tree f p l := by
  unfold callOf at h
  split at h <;> first
    | (exfalso; simp at h; done)
    | (rename_i e; simp at e; done)
    | (rename_i e; simp only [List.cons.injEq] at e; obtain ⟨⟨_, rfl⟩, rfl⟩ := e; injection h with h2; subst h2; simp)
theorem call_1 {ns : List Int} {ls : List (List Int)} {c : Vbjtah.Call} (h : callOf ((1 :: ns) :: ls) = some c) : ∃ a b, ns = [a, b] ∧ ls = [] ∧ c = .distance a b := by
  unfold callOf at h
  split at h <;> first
    | (exfalso; simp at h; done)
    | (rename_i e; simp at e; done)
    | (rename_i e; simp only [List.cons.injEq] at e; obtain ⟨⟨_, rfl⟩, rfl⟩ := e; injection h with h2; subst h2; simp)
theorem call_2 {ns : List Int} {ls : List (List Int)} {c : Vbjtah.Call} (h : callOf ((2 :: ns) :: ls) = some c) : ∃ a b, ns = [a, b] ∧ ls = [] ∧ c = .add a b := by
  unfold callOf at h
  split at h <;> first
    | (exfalso; simp at h; done)
    | (rename_i e; simp at e; done)
    | (rename_i e; simp only [List.cons.injEq] at e; obtain ⟨⟨_, rfl⟩, rfl⟩ := e; injection h with h2; subst h2; simp)
theorem call_3 {ns : List Int} {ls : List (List Int)} {c : Vbjtah.Call} (h : callOf ((3 :: ns) :: ls) = some c) : ∃ a l, ns = [a] ∧ ls = [l] ∧ c = .use a l := by
  unfold callOf at h
  split at h <;> first
    | (exfalso; simp at h; done)
    | (rename_i e; simp at e; done)
    | (rename_i e; simp only [List.cons.injEq] at e; obtain ⟨⟨_, rfl⟩, rfl⟩ := e; injection h with h2; subst h2; simp)
theorem call_4 {ns : List Int} {ls : List (List Int)} {c : Vbjtah.Call} (h : callOf ((4 :: ns) :: ls) = some c) : ∃ a, ns = [a] ∧ ls = [] ∧ c = .row a := by
  unfold callOf at h
  split at h <;> first
    | (exfalso; simp at h; done)
    | (rename_i e; simp at e; done)
    | (rename_i e; simp only [List.cons.injEq] at e; obtain ⟨⟨_, rfl⟩, rfl⟩ := e; injection h with h2; subst h2; simp)
theorem call_5 {ns : List Int} {ls : List (List Int)} {c : Vbjtah.Call} (h : callOf ((5 :: ns) :: ls) = some c) : ∃ a, ns = [a] ∧ ls = [] ∧ c = .counters a := by
  unfold callOf at h
  split at h <;> first
    | (exfalso; simp at h; done)
    | (rename_i e; simp at e; done)
    | (rename_i e; simp only [List.cons.injEq] at e; obtain ⟨⟨_, rfl⟩, rfl⟩ := e; injection h with h2; subst h2; simp)
theorem call_6 {ns : List Int} {ls : List (List Int)} {c : Vbjtah.Call} (h : callOf ((6 :: ns) :: ls) = some c) : ∃ a l, ns = [a] ∧ ls = [l] ∧ c = .scheduleCost a l := by
  unfold callOf at h
  split at h <;> first
    | (exfalso; simp at h; done)
    | (rename_i e; simp at e; done)
    | (rename_i e; simp only [List.cons.injEq] at e; obtain ⟨⟨_, rfl⟩, rfl⟩ := e; injection h with h2; subst h2; simp)
theorem call_7 {ns : List Int} {ls : List (List Int)} {c : Vbjtah.Call} (h : callOf ((7 :: ns) :: ls) = some c) : ∃ a, ns = [a] ∧ ls = [] ∧ c = .best a := by
  unfold callOf at h
  split at h <;> first
    | (exfalso; simp at h; done)
    | (rename_i e; simp at e; done)
    | (rename_i e; simp only [List.cons.injEq] at e; obtain ⟨⟨_, rfl⟩, rfl⟩ := e; injection h with h2; subst h2; simp)
theorem call_8 {ns : List Int} {ls : List (List Int)} {c : Vbjtah.Call} (h : callOf ((8 :: ns) :: ls) = some c) : ∃ a, ns = [a] ∧ ls = [] ∧ c = .bound a := by
  unfold callOf at h
  split at h <;> first
    | (exfalso; simp at h; done)
    | (rename_i e; simp at e; done)
    | (rename_i e; simp only [List.cons.injEq] at e; obtain ⟨⟨_, rfl⟩, rfl⟩ := e; injection h with h2; subst h2; simp)
theorem call_9 {ns : List Int} {ls : List (List Int)} {c : Vbjtah.Call} (h : callOf ((9 :: ns) :: ls) = some c) : ∃ a l, ns = [a] ∧ ls = [l] ∧ c = .checkBound a l := by
  unfold callOf at h
  split at h <;> first
    | (exfalso; simp at h; done)
    | (rename_i e; simp at e; done)
    | (rename_i e; simp only [List.cons.injEq] at e; obtain ⟨⟨_, rfl⟩, rfl⟩ := e; injection h with h2; subst h2; simp)
theorem call_10 {ns : List Int} {ls : List (List Int)} {c : Vbjtah.Call} (h : callOf ((10 :: ns) :: ls) = some c) : ∃ l, ns = [] ∧ ls = [l] ∧ c = .median l := by
  unfold callOf at h
  split at h <;> first
    | (exfalso; simp at h; done)
    | (rename_i e; simp at e; done)
    | (rename_i e; simp only [List.cons.injEq] at e; obtain ⟨⟨_, rfl⟩, rfl⟩ := e; injection h with h2; subst h2; simp)
theorem call_11 {ns : List Int} {ls : List (List Int)} {c : Vbjtah.Call} (h : callOf ((11 :: ns) :: ls) = some c) : ∃ a l, ns = [a] ∧ ls = [l] ∧ c = .checkMedian a l := by
  unfold callOf at h
  split at h <;> first
    | (exfalso; simp at h; done)
    | (rename_i e; simp at e; done)
    | (rename_i e; simp only [List.cons.injEq] at e; obtain ⟨⟨_, rfl⟩, rfl⟩ := e; injection h with h2; subst h2; simp)
theorem call_12 {ns : List Int} {ls : List (List Int)} {c : Vbjtah.Call} (h : callOf ((12 :: ns) :: ls) = some c) : ∃ l, ns = [] ∧ ls = [l] ∧ c = .assign l := by
  unfold callOf at h
  split at h <;> first
    | (exfalso; simp at h; done)
    | (rename_i e; simp at e; done)
    | (rename_i e; simp only [List.cons.injEq] at e; obtain ⟨⟨_, rfl⟩, rfl⟩ := e; injection h with h2; subst h2; simp)
theorem call_13 {ns : List Int} {ls : List (List Int)} {c : Vbjtah.Call} (h : callOf ((13 :: ns) :: ls) = some c) : ∃ l m p, ns = [] ∧ ls = [l, m, p] ∧ c = .checkAssignment l m p := by
  unfold callOf at h
  split at h <;> first
    | (exfalso; simp at h; done)
    | (rename_i e; simp at e; done)
    | (rename_i e; simp only [List.cons.injEq] at e; obtain ⟨⟨_, rfl⟩, rfl⟩ := e; injection h with h2; subst h2; simp)
theorem call_14 {ns : List Int} {ls : List (List Int)} {c : Vbjtah.Call} (h : callOf ((14 :: ns) :: ls) = some c) : ∃ a, ns = [a] ∧ ls = [] ∧ c = .remove a := by
  unfold callOf at h
  split at h <;> first
    | (exfalso; simp at h; done)
    | (rename_i e; simp at e; done)
    | (rename_i e; simp only [List.cons.injEq] at e; obtain ⟨⟨_, rfl⟩, rfl⟩ := e; injection h with h2; subst h2; simp)
theorem call_15 {ns : List Int} {ls : List (List Int)} {c : Vbjtah.Call} (h : callOf ((15 :: ns) :: ls) = some c) : ns = [] ∧ ls = [] ∧ c = .status := by
  unfold callOf at h
  split at h <;> first
    | (exfalso; simp at h; done)
    | (rename_i e; simp at e; done)
    | (rename_i e; simp only [List.cons.injEq] at e; obtain ⟨⟨_, rfl⟩, rfl⟩ := e; injection h with h2; subst h2; simp)
theorem call_rng {call : Int} {ns : List Int} {ls : List (List Int)} {c : Vbjtah.Call} (h : callOf ((call :: ns) :: ls) = some c) : 0 ≤ call ∧ call ≤ 15 := by
  unfold callOf at h
  split at h <;> first
    | (exfalso; simp at h; done)
    | (rename_i e; simp only [List.cons.injEq] at e; obtain ⟨⟨rfl, _⟩, _⟩ := e; omega)
/-! the tree's calls -/
section
variable {h : House}
theorem all_ver {l : List Int} (e : l.all Vbjtah.isVersion = true) : ∀ x ∈ l, 0 ≤ x := fun x hx => (all_in (lo := 0) (hi := 9) e x hx).1
theorem areV_eq (h : House) (l : List Int) : Vbjtah.areVersions h l = areThere h l := rfl
theorem toInts_eq (l : List Nat) : Vbjtah.toInts l = nI l := rfl
theorem withLen_eq (l : List Int) : Vbjtah.withLength l = countedOf l := rfl
theorem st_distance (ho : HOk h) {a b : Int} (hr : argumentsInRange (.distance a b) = true) : stepInRange (some h) (.distance a b) = (some h, if areThere h [((a.toNat : Nat) : Int), ((b.toNat : Nat) : Int)] = false then [-4] else 0 :: (distance h.tree a.toNat b.toNat : Int) :: countedOf (nI (way h.tree a.toNat b.toNat))) := by
  have hr : (Vbjtah.isVersion a && Vbjtah.isVersion b) = true := hr
  rw [Bool.and_eq_true] at hr
  have ha := all_ver (l := [a]) (by simpa using hr.1) a List.mem_cons_self
  have hb := all_ver (l := [b]) (by simpa using hr.2) b List.mem_cons_self
  rw [Int.toNat_of_nonneg ha, Int.toNat_of_nonneg hb]
  show (if areThere h [a, b] = false then (some h, [-4]) else (some h, 0 :: ((Vbjtah.distance h.tree a.toNat b.toNat : Nat) : Int) :: countedOf (nI (Vbjtah.pathOf h.tree a.toNat b.toNat)))) = _
  by_cases e : areThere h [a, b] = false
  · rw [if_pos e, if_pos e]
  · rw [if_neg e, if_neg e]
    have e : areThere h [a, b] = true := by simpa using e
    unfold areThere at e
    rw [List.all_eq_true] at e
    have h1 := of_decide_eq_true (e a List.mem_cons_self)
    have h2 := of_decide_eq_true (e b (List.mem_cons_of_mem _ List.mem_cons_self))
    rw [pathOf_eq ho.wf (by omega) (by omega)]
theorem st_add {a b : Int} (hr : argumentsInRange (.add a b) = true) : stepInRange (some h) (.add a b) = addOf h a.toNat b.toNat ∧ 0 ≤ a ∧ 0 ≤ b := by
  have hr : (Vbjtah.isNumber a && Vbjtah.isVersion b) = true := hr
  rw [Bool.and_eq_true] at hr
  have ha : 1 ≤ a := by
    have h1 : (decide (1 ≤ a) && decide (a ≤ 9999)) = true := hr.1
    rw [Bool.and_eq_true] at h1
    exact of_decide_eq_true h1.1
  have hb := all_ver (l := [b]) (by simpa using hr.2) b List.mem_cons_self
  refine ⟨?_, by omega, hb⟩
  unfold addOf
  rw [Int.toNat_of_nonneg hb]
  rfl
theorem st_median {l : List Int} (hr : argumentsInRange (.median l) = true) : stepInRange (some h) (.median l) = (some h, if (toNats l).length ≠ versionCount h.tree then [-5] else 0 :: nI [medianOf h.tree (toNats l), fixedCost h.tree (toNats l) (medianOf h.tree (toNats l))]) ∧ (∀ x ∈ l, 0 ≤ x) ∧ ∀ x ∈ toNats l, x ≤ 1000 := by
  have hr : (decide (l.length ≤ 10) && l.all (inRange 0 1000)) = true := hr
  rw [Bool.and_eq_true] at hr
  have hl := all_in hr.2
  refine ⟨?_, fun x hx => (hl x hx).1, fun x hx => ?_⟩
  · rw [toNats_len]
    show (if l.length ≠ versionCount h.tree then (some h, [-5]) else (some h, 0 :: nI [medianOf h.tree (toNats l), fixedCost h.tree (toNats l) (medianOf h.tree (toNats l))])) = _
    split <;> rfl
  · unfold toNats at hx
    obtain ⟨y, hy, rfl⟩ := List.mem_map.mp hx
    have := hl y hy
    omega
theorem st_checkMedian (ho : HOk h) {a : Int} {l : List Int} (hr : argumentsInRange (.checkMedian a l) = true) : stepInRange (some h) (.checkMedian a l) = (some h, if areThere h [((a.toNat : Nat) : Int)] = false then [-4] else if (toNats l).length ≠ versionCount h.tree then [-5] else match heavySide h.tree (toNats l) a.toNat with | some x => [0, 0, (x.1 : Int), (x.2 : Int)] | none => [0, 1]) ∧ 0 ≤ a ∧ ∀ x ∈ l, 0 ≤ x := by
  have hr : (Vbjtah.isVersion a && (decide (l.length ≤ 10) && l.all (inRange 0 1000))) = true := hr
  rw [Bool.and_eq_true, Bool.and_eq_true] at hr
  have ha := all_ver (l := [a]) (by simpa using hr.1) a List.mem_cons_self
  have hl := all_in hr.2.2
  refine ⟨?_, ha, fun x hx => (hl x hx).1⟩
  rw [Int.toNat_of_nonneg ha, toNats_len]
  show (if areThere h [a] = false then (some h, [-4]) else if l.length ≠ versionCount h.tree then (some h, [-5]) else match Vbjtah.medianFault h.tree (toNats l) a.toNat with | none => (some h, [0, 1]) | some x => (some h, 0 :: nI [0, x.1, x.2])) = _
  by_cases e : areThere h [a] = false
  · rw [if_pos e, if_pos e]
  · rw [if_neg e, if_neg e]
    have e : areThere h [a] = true := by simpa using e
    unfold areThere at e
    rw [List.all_eq_true] at e
    have h1 := of_decide_eq_true (e a List.mem_cons_self)
    rw [heavy_eq ho.wf (by omega)]
    split
    · rfl
    · cases Vbjtah.medianFault h.tree (toNats l) a.toNat <;> rfl
theorem st_assign (ho : HOk h) {l : List Int} (hr : argumentsInRange (.assign l) = true) : stepInRange (some h) (.assign l) = (some h, if (toNats l).length ≠ versionCount h.tree then [-5] else if (toNats l).sum < h.rows.length then [-8] else 0 :: assignmentCost (h.rows.map fun r => fixedRow h.tree r.uses) (firstAssignment (versionCount h.tree) (h.rows.map fun r => fixedRow h.tree r.uses) (toNats l)) :: (countedOf (nI (firstAssignment (versionCount h.tree) (h.rows.map fun r => fixedRow h.tree r.uses) (toNats l))) ++ countedOf (pricesOf (versionCount h.tree) (h.rows.map fun r => fixedRow h.tree r.uses) (toNats l)))) ∧ ∀ x ∈ l, 0 ≤ x := by
  have hr : (decide (l.length ≤ 10) && l.all (inRange 0 12)) = true := hr
  rw [Bool.and_eq_true] at hr
  have hl := all_in hr.2
  refine ⟨?_, fun x hx => (hl x hx).1⟩
  show (if l.length ≠ versionCount h.tree then (some h, [-5]) else if Vbjtah.sumOf (toNats l) < h.rows.length then (some h, [-8]) else (some h, 0 :: ((leastTotal (versionCount h.tree) (Vbjtah.costsOf h.tree h.rows) (toNats l)).getD 0 :: (countedOf (nI (firstAssignment (versionCount h.tree) (Vbjtah.costsOf h.tree h.rows) (toNats l))) ++ countedOf (pricesOf (versionCount h.tree) (Vbjtah.costsOf h.tree h.rows) (toNats l)))))) = _
  rw [toNats_len, sumOf_eq, costs_eq]
  by_cases e : l.length ≠ versionCount h.tree
  · rw [if_pos e, if_pos e]
  rw [if_neg e, if_neg e]
  by_cases e2 : (toNats l).sum < h.rows.length
  · rw [if_pos e2, if_pos e2]
  rw [if_neg e2, if_neg e2]
  have e : l.length = versionCount h.tree := by omega
  have := least_first (n := versionCount h.tree) (h.rows.map fun r => fixedRow h.tree r.uses) (toNats l) (by rw [toNats_len, e]) (by rw [room_sum (by rw [toNats_len, e]), List.length_map]; omega)
  unfold leastC at this
  rw [this]
theorem st_check (ho : HOk h) {l m p : List Int} (hr : argumentsInRange (.checkAssignment l m p) = true) : stepInRange (some h) (.checkAssignment l m p) = (some h, if areThere h (nI (toNats m)) = false then [-4] else if (toNats l).length ≠ versionCount h.tree ∨ p.length ≠ versionCount h.tree ∨ (toNats m).length ≠ h.rows.length then [-5] else if lAF (crowdedAt (toNats l) (toNats m)) (pricedAt (toNats l) (toNats m) p) (unhappyAt (h.rows.map fun r => fixedRow h.tree r.uses) (toNats m) p) = [] then [0, 1, assignmentCost (h.rows.map fun r => fixedRow h.tree r.uses) (toNats m)] else 0 :: 0 :: lAF (crowdedAt (toNats l) (toNats m)) (pricedAt (toNats l) (toNats m) p) (unhappyAt (h.rows.map fun r => fixedRow h.tree r.uses) (toNats m) p)) ∧ (∀ x ∈ l, 0 ≤ x) ∧ ∀ x ∈ m, 0 ≤ x := by
  have hr : (decide (l.length ≤ 10 ∧ m.length ≤ 12 ∧ p.length ≤ 10) && (l.all (inRange 0 12) && (m.all Vbjtah.isVersion && p.all (inRange 0 1000000000)))) = true := hr
  simp only [Bool.and_eq_true] at hr
  have hl := all_in hr.2.1
  have hm := all_ver hr.2.2.1
  refine ⟨?_, fun x hx => (hl x hx).1, hm⟩
  rw [nI_toNats hm, toNats_len, toNats_len]
  show (if areThere h m = false then (some h, [-4]) else if l.length ≠ versionCount h.tree ∨ m.length ≠ h.rows.length ∨ p.length ≠ versionCount h.tree then (some h, [-5]) else match Vbjtah.assignmentFault (versionCount h.tree) (Vbjtah.costsOf h.tree h.rows) (toNats l) (toNats m) p with | none => (some h, [0, 1, assignmentCost (Vbjtah.costsOf h.tree h.rows) (toNats m)]) | some x => (some h, 0 :: nI [0, x.1, x.2])) = _
  rw [costs_eq]
  by_cases e : areThere h m = false
  · rw [if_pos e, if_pos e]
  rw [if_neg e, if_neg e]
  by_cases e2 : l.length ≠ versionCount h.tree ∨ m.length ≠ h.rows.length ∨ p.length ≠ versionCount h.tree
  · rw [if_pos e2, if_pos (by omega)]
  rw [if_neg e2, if_neg (by omega)]
  rw [afault_eq (n := versionCount h.tree) (by rw [toNats_len]; omega) (fun x hx => by
    obtain ⟨r, _, rfl⟩ := List.mem_map.mp hx
    unfold fixedRow
    rw [List.length_map, List.length_range]) (by rw [List.length_map, toNats_len]; omega)]
  cases Vbjtah.assignmentFault (versionCount h.tree) (h.rows.map fun r => fixedRow h.tree r.uses) (toNats l) (toNats m) p with
  | none => rfl
  | some x =>
    dsimp only
    rw [if_neg (fun q => by cases q)]
    rfl
/-! the rows' calls -/
variable {a : Int} {i : Nat} {r : VRow} {l : List Int}
theorem st_use (ho : HOk h) (hf : rowIn h a = some r) (hi : h.rows[i]? = some r) (hr : argumentsInRange (.use a l) = true) : stepInRange (some h) (.use a l) = useOf h i r (toNats l) ∧ (∀ x ∈ l, 0 ≤ x) ∧ l.length ≤ 60 := by
  have hr : (Vbjtah.isNumber a && (decide (l.length ≤ 60) && l.all Vbjtah.isVersion)) = true := hr
  simp only [Bool.and_eq_true] at hr
  have hl := all_ver hr.2.2
  refine ⟨?_, hl, of_decide_eq_true hr.2.1⟩
  unfold useOf
  rw [nI_toNats hl, toNats_len]
  show (match rowIn h a with | none => (some h, [-3]) | some r => if areThere h l = false then (some h, [-4]) else if 60 < r.uses.length + l.length then (some h, [-7]) else (some (setRow h ((toNats l).foldl (used h.tree h.factor) r)), nI [0, ((toNats l).foldl (used h.tree h.factor) r).cost - r.cost, ((toNats l).foldl (used h.tree h.factor) r).moves - r.moves, homeOf h.tree ((toNats l).foldl (used h.tree h.factor) r).marks])) = _
  rw [hf]
  dsimp only
  rw [setRow_eq ho.srt hi (fold_num _ r).1]
  rfl
theorem st_row (hf : rowIn h a = some r) : stepInRange (some h) (.row a) = (some h, nI [0, homeOf h.tree r.marks, r.first, r.cost, r.moves, bestCost h.tree h.factor r.first r.uses] ++ countedOf (nI r.uses)) := by
  show (match rowIn h a with | none => (some h, [-3]) | some r => (some h, 0 :: (nI [homeOf h.tree r.marks, r.first, r.cost, r.moves, bestCost h.tree h.factor r.first r.uses] ++ countedOf (nI r.uses)))) = _
  rw [hf]
  rfl
theorem st_counters (hf : rowIn h a = some r) (hm : r.marks.length = h.tree.parents.length) : stepInRange (some h) (.counters a) = (some h, 0 :: countedOf (toldOf r.marks)) := by
  show (match rowIn h a with | none => (some h, [-3]) | some r => (some h, 0 :: countedOf (((edgesOf h.tree).zip r.marks).flatMap fun (x : Nat × Mark) => [if x.2.isLower = true then 1 else 0, x.2.counter]))) = _
  rw [hf]
  dsimp only
  have e : toldOf r.marks = ((edgesOf h.tree).zip r.marks).flatMap fun (x : Nat × Mark) => [if x.2.isLower = true then 1 else 0, x.2.counter] := by
    unfold toldOf
    have := List.map_snd_zip (l₁ := edgesOf h.tree) (l₂ := r.marks) (by rw [edges_len]; omega)
    conv => lhs; rw [← this]
    rw [List.flatMap_map]
  rw [e]
theorem st_schedule (hf : rowIn h a = some r) (hr : argumentsInRange (.scheduleCost a l) = true) : stepInRange (some h) (.scheduleCost a l) = (some h, if areThere h (nI (toNats l)) = false then [-4] else if (toNats l).length ≠ r.uses.length then [-5] else [0, (scheduleCost h.tree h.factor r.first (toNats l) r.uses : Int)]) ∧ (∀ x ∈ l, 0 ≤ x) ∧ l.length ≤ 60 := by
  have hr : (Vbjtah.isNumber a && (decide (l.length ≤ 60) && l.all Vbjtah.isVersion)) = true := hr
  simp only [Bool.and_eq_true] at hr
  have hl := all_ver hr.2.2
  refine ⟨?_, hl, of_decide_eq_true hr.2.1⟩
  rw [nI_toNats hl, toNats_len]
  show (match rowIn h a with | none => (some h, [-3]) | some r => if areThere h l = false then (some h, [-4]) else if l.length ≠ r.uses.length then (some h, [-5]) else (some h, [0, ((scheduleCost h.tree h.factor r.first (toNats l) r.uses : Nat) : Int)])) = _
  rw [hf]
  dsimp only
  split
  · rfl
  · split <;> rfl
theorem st_best (hf : rowIn h a = some r) : stepInRange (some h) (.best a) = (some h, 0 :: (bestCost h.tree h.factor r.first r.uses : Int) :: countedOf (nI (bestSchedule h.tree h.factor r.first r.uses))) := by
  show (match rowIn h a with | none => (some h, [-3]) | some r => (some h, 0 :: ((bestCost h.tree h.factor r.first r.uses : Nat) : Int) :: countedOf (nI (bestSchedule h.tree h.factor r.first r.uses)))) = _
  rw [hf]
theorem st_bound (hf : rowIn h a = some r) : stepInRange (some h) (.bound a) = (some h, 0 :: boundSum h.tree r.uses.length (valueFields (boundValues h.tree h.factor r.first r.uses)) :: countedOf (valueFields (boundValues h.tree h.factor r.first r.uses))) := by
  show (match rowIn h a with | none => (some h, [-3]) | some r => (some h, 0 :: boundOf (boundValues h.tree h.factor r.first r.uses) :: countedOf (valueFields (boundValues h.tree h.factor r.first r.uses)))) = _
  rw [hf, bound_own]
theorem st_checkBound (hf : rowIn h a = some r) (hr : argumentsInRange (.checkBound a l) = true) : stepInRange (some h) (.checkBound a l) = (some h, if l.length ≠ 2 * (versionCount h.tree - 1) * (r.uses.length + 1) then [-5] else match faultFind h.tree h.factor r.first r.uses l with | some x => [0, 0, (x.1 : Int), (x.2.1 : Int), (x.2.2 : Int)] | none => [0, 1, boundSum h.tree r.uses.length l]) := by
  show (match rowIn h a with | none => (some h, [-3]) | some r => if l.length ≠ 2 * (r.uses.length + 1) * h.tree.parents.length then (some h, [-5]) else match boundFault h.tree h.factor r.first r.uses (valuesFrom h.tree.parents.length (r.uses.length + 1) l) with | none => (some h, [0, 1, boundOf (valuesFrom h.tree.parents.length (r.uses.length + 1) l)]) | some x => (some h, 0 :: nI [0, x.1, x.2.1, x.2.2])) = _
  rw [hf]
  dsimp only
  have e : 2 * (r.uses.length + 1) * h.tree.parents.length = 2 * (versionCount h.tree - 1) * (r.uses.length + 1) := by
    unfold Vbjtah.versionCount
    rw [Nat.add_sub_cancel, Nat.mul_assoc, Nat.mul_assoc, Nat.mul_comm (r.uses.length + 1)]
  rw [e]
  by_cases q : l.length ≠ 2 * (versionCount h.tree - 1) * (r.uses.length + 1)
  · rw [if_pos q, if_pos q]
  · rw [if_neg q, if_neg q]
    have hl : l.length = 2 * (h.tree.parents.length * (r.uses.length + 1)) := by
      have q : l.length = 2 * (versionCount h.tree - 1) * (r.uses.length + 1) := by omega
      rw [q, ← e, Nat.mul_assoc, Nat.mul_comm (r.uses.length + 1)]
    rw [fault_eq hl, bound_eq hl]
    cases boundFault h.tree h.factor r.first r.uses (valuesFrom h.tree.parents.length (r.uses.length + 1) l) <;> rfl
theorem st_remove (ho : HOk h) (hf : rowIn h a = some r) (hi : h.rows[i]? = some r) : stepInRange (some h) (.remove a) = removeOf h r.number := by
  show (match rowIn h a with | none => (some h, [-3]) | some r => (some { h with rows := h.rows.filter fun x => x.number != r.number }, [0, (h.rows.length : Int) - 1])) = _
  rw [hf]
  unfold removeOf
  dsimp only
  have key : ∀ {l : List VRow} {i : Nat}, l.Pairwise (fun a b => a.number < b.number) → l[i]? = some r → (l.filter fun x => x.number != r.number).length + 1 = l.length := by
    intro l
    induction l with
    | nil => intro i _ hi; simp at hi
    | cons x l ih =>
      intro i hs hi
      obtain ⟨h1, h2⟩ := List.pairwise_cons.mp hs
      cases i with
      | zero =>
        have e : x = r := by simpa using hi
        subst e
        have e2 : (l.filter fun y => y.number != x.number) = l := List.filter_eq_self.mpr fun y hy => by
          have := h1 y hy
          exact bne_iff_ne.mpr (by omega)
        rw [List.filter_cons, if_neg (by simp), e2, List.length_cons]
      | succ j =>
        have hj : l[j]? = some r := by simpa using hi
        have := h1 r (List.mem_of_getElem? hj)
        rw [List.filter_cons, if_pos (bne_iff_ne.mpr (by omega)), List.length_cons, ih h2 hj, List.length_cons]
  have := key ho.srt hi
  show (_, [(0 : Int), (h.rows.length : Int) - 1]) = (_, [(0 : Int), ((h.rows.filter fun x => x.number != r.number).length : Int)])
  have this : (h.rows.filter fun x => x.number != r.number).length + 1 = h.rows.length := this
  rw [show ((h.rows.length : Int) - 1) = ((h.rows.filter fun x => x.number != r.number).length : Int) by omega]
theorem st_norow (hf : rowIn h a = none) {c : Vbjtah.Call} (hc : c = .use a l ∨ c = .row a ∨ c = .counters a ∨ c = .scheduleCost a l ∨ c = .best a ∨ c = .bound a ∨ c = .checkBound a l ∨ c = .remove a) : stepInRange (some h) c = (some h, [-3]) := by
  have gen : ∀ run : House → VRow → Option House × List Int, Vbjtah.withRow (some h) a run = (some h, [-3]) := by
    intro run
    show (match rowIn h a with | none => (some h, [-3]) | some r => run h r) = _
    rw [hf]
  rcases hc with e | e | e | e | e | e | e | e <;> rw [e] <;> exact gen _
end
theorem st_status (s : Option House) : stepInRange s .status = (s, statusOf s) := by
  cases s with
  | none => rfl
  | some h =>
    show (some h, 0 :: Vbjtah.toInts ([versionCount h.tree, h.factor, h.rows.length] ++ h.rows.flatMap fun r => [r.number, homeOf h.tree r.marks, r.uses.length])) = (some h, nI [0, versionCount h.tree, h.factor, h.rows.length] ++ rowsTold h.tree h.rows)
    unfold Vbjtah.toInts rowsTold nI
    rw [List.map_append, List.map_flatMap]
    rfl
theorem st_none {c : Vbjtah.Call} (h1 : ∀ f p l, c ≠ .tree f p l) (h2 : c ≠ .status) : stepInRange none c = (none, [-2]) := by
  cases c with
  | tree f p l => exact absurd rfl (h1 f p l)
  | status => exact absurd rfl h2
  | _ => rfl
theorem st_tree (s : Option House) {f : Int} {p l : List Int} : stepInRange s (.tree f p l) = (some ⟨⟨toNats p, toNats l⟩, f.toNat, []⟩, nI [0, versionCount ⟨toNats p, toNats l⟩]) := by
  show (_, [(0 : Int), (p.length : Int) + 1]) = (_, [(0 : Int), (((toNats p).length + 1 : Nat) : Int)])
  rw [toNats_len]
  rfl
theorem step_eq (s : Option House) (c : Vbjtah.Call) : Vbjtah.step s c = if argumentsInRange c = false then (s, [-1]) else stepInRange s c := rfl
end Hm
end
section
set_option Elab.async false
set_option linter.all false
set_option maxRecDepth 100000
set_option maxHeartbeats 4000000
namespace Hm
open PySem PySem.Spec PyProof.Rows L2
open C8 (Cal Met Mak pe_c pe_mt pe_mt0 pe_mk pe_gc)
open Vbjtah (versionCount edgesOf isBelow distance)
/-! ### the desk: its making; calls about a row -/
open Vbjtah (House homeOf used argumentsInRange callOf rowIn toNats stepInRange)
section
variable {K : PySem.W.Frag} {σ : L2.St} {W : Wd}
theorem ev_ls {i j : Nat} {ls : List (List Int)} {l : List Int} {v : V} (r : Rep W.f (dLs ls) v) (hi : σ[i]? = some (some v)) (hj : ls[j]? = some l) {tb : TE} (hb : EvD tb σ W (dn j)) : EvD (tOp (rIxL K) (tVar i) tb) σ W (.l (l.map D.i)) :=
  ev_op (rv_ix (by rw [List.getElem?_map, hj]; rfl)) (ev_var r hi) hb
theorem ev_lsN {i j : Nat} {ls : List (List Int)} {l : List Int} {v : V} (r : Rep W.f (dLs ls) v) (hi : σ[i]? = some (some v)) (hj : ls[j]? = some l) (h0 : ∀ x ∈ l, 0 ≤ x) {tb : TE} (hb : EvD tb σ W (dn j)) : EvD (tOp (rIxL K) (tVar i) tb) σ W (.l ((toNats l).map dn)) :=
  (ev_ls r hi hj hb).is (by rw [dn_nI, nI_toNats h0])
theorem ev_ns {i j : Nat} {ns : List Int} {x : Int} {v : V} (r : Rep W.f (.l (ns.map D.i)) v) (hi : σ[i]? = some (some v)) (hj : ns[j]? = some x) {tb : TE} (hb : EvD tb σ W (dn j)) : EvD (tOp (rIxL K) (tVar i) tb) σ W (.i x) :=
  ev_op (rv_ix (by rw [List.getElem?_map, hj]; rfl)) (ev_var r hi) hb
theorem ev_nsN {i j : Nat} {ns : List Int} {x : Int} {v : V} (r : Rep W.f (.l (ns.map D.i)) v) (hi : σ[i]? = some (some v)) (hj : ns[j]? = some x) (h0 : 0 ≤ x) {tb : TE} (hb : EvD tb σ W (dn j)) : EvD (tOp (rIxL K) (tVar i) tb) σ W (dn x.toNat) :=
  (ev_ns r hi hj hb).is (congrArg D.i (Int.toNat_of_nonneg h0).symm)
end
theorem best_le (t : Tr) (F : Nat) : ∀ (uses : List Nat) (home : Nat) (tb : List (List Nat)), (Vbjtah.scheduleFrom t F home uses tb).length ≤ uses.length
  | [], _, _ => by unfold Vbjtah.scheduleFrom; exact Nat.le_refl _
  | _ :: _, _, [] => by unfold Vbjtah.scheduleFrom; exact Nat.zero_le _
  | v :: us, home, later :: rest => by
    unfold Vbjtah.scheduleFrom
    exact Nat.succ_le_succ (best_le t F us _ rest)
theorem told_len : ∀ ms : List Vbjtah.Mark, (toldOf ms).length = 2 * ms.length
  | [] => rfl
  | m :: ms => by
    show ([_, _] ++ toldOf ms).length = _
    rw [List.length_append, told_len ms, List.length_cons, List.length_cons, List.length_cons, List.length_nil]
    omega
section
variable {P : Program} {w : World} {K : PySem.W.Frag} {mg : Str → Option Value} {base : Heap}
abbrev sp_Desk_init (K : PySem.W.Frag) : Sp := MkSp (ι := Unit) (C_Desk K) (fun _ => []) (fun _ => True) (fun _ E W a => Grow E W ∧ ∃ d : DA, d.a = a ∧ DeskO K d none W ∧ ∀ x ∈ d.M, E.h x = none)
theorem mak_Desk (T : Top K mg) : Mak P w K mg base 1 "Desk" (C_Desk K) (sp_Desk_init K) [] :=
  makOf (mk_Desk T) (gc_Desk T) (F_Desk_init T) sc_Desk_init (fun _ _ _ _ _ _ us hl => match us, hl with | [_], _ => rfl) (fun _ _ _ _ h => h.len fun _ => rfl) fun cdv A outer s H vs Q E hr h => by
  obtain ⟨_, Hf, H0, a, dx, us, rfl, q1, q2, q3, rfl, ok, rus, hp, k⟩ := h
  have rus : us = [] := rus
  subst rus
  dsimp only at hp k
  refine ⟨_, (pss_cons (ps_fld (pv 0) pe_non rfl)
        (pss_one (ps_fld (pv 0) (pe_lst pa_nil) rfl))), ?_⟩
  have o0 := OwnO.start (C := C_Desk K) ok q1 q2 q3
  refine s_newF o0 q1 rfl (cl_Desk T) (na_Desk_tree T) rfl rfl (by decide) ev_non fun W1 o1 x1 => ?_
  dsimp only
  refine s_newVF o1 q1 rfl (cl_Desk T) (na_Desk_rows T) rfl (by decide +kernel) (by decide) ef_nil fun pr W2 o2 rr z2 x2 y2 => ?_
  obtain ⟨ws, i1, i2⟩ := o2.ex
  have hws : ws = [.non, .ref pr] := by
    obtain ⟨u1, _, rfl, j1, u2, _, rfl, j2, j9⟩ := i2
    have j9 : _ = [] := j9
    subst j9
    rw [show u1 = _ from j1, show u2 = _ from j2]
  subst hws
  obtain ⟨_, vs, es, f4, f4'⟩ := rr
  cases es
  have f4' : vs = [] := f4'
  subst f4'
  refine k W2 ⟨o2.gr, ⟨a, dx, .non, pr, []⟩, rfl, ⟨i1, f4, fun _ => ⟨rfl, rfl⟩, (fun h e => by cases e), by show [a].Nodup; simp, o2.nf, o2.gr.fh⟩, fun x hx => ?_⟩
  have : x = a := by simpa [DA.M] using hx
  rw [this]
  exact q1
abbrev sp_Desk_answer_row (K : PySem.W.Frag) : Sp := fun vs H Q _ => ∃ (Hf : Hp) (d : DA) (h : House) (i : Nat) (q : RA) (r : VRow) (call num : Int) (ls : List (List Int)) (c : Vbjtah.Call) (v3 : V), vs = [.ref d.a, .int call, .ref q.a, v3] ∧ DeskO K d (some h) ⟨Hf, H⟩ ∧ d.qs[i]? = some q ∧ h.rows[i]? = some r ∧ rowIn h num = some r ∧ Rep Hf (dLs ls) v3 ∧ callOf ((call :: [num]) :: ls) = some c ∧ argumentsInRange c = true ∧ (call = 3 ∨ call = 4 ∨ call = 5 ∨ call = 6 ∨ call = 7 ∨ call = 8 ∨ call = 9 ∨ call = 14) ∧ Post K d ⟨Hf, H⟩ (stepInRange (some h) c) Q
theorem met_Desk_answer_row (T : Top K mg) : Met P w K mg base 7 (C_Desk K) "answer_row" (sp_Desk_answer_row K) [] :=
  metOf (cl_Desk T) (me_Desk_answer_row T) (F_Desk_answer_row T) sc_Desk_answer_row (fun _ _ _ _ _ _ us hl => match us, hl with | [_, _, _, _], _ => rfl) (fun _ _ _ _ h => by obtain ⟨_, _, _, _, _, _, _, _, _, _, _, rfl, _⟩ := h; rfl) fun cdv A outer s H vs Q E hr h => by
  obtain ⟨Hf, d, h, i, q, r, call, num, ls, c, v3, rfl, O, hq, hr0, hf, rl, hc, hrg, hcall, k⟩ := h
  refine ⟨_, (pss_cons (ps_if (pt_cmpR op_eq (pv 1) (pe_gc rfl (g_USE T)) (nomark _))
        (pss_one (ps_ret (pe_mt (met_Desk_use T) hr (by decide) (pv 0) (pa_cons (pv 2) (pa_cons (pe_ix (ixL K rfl) (pv 3) pe_int (fun _ _ => rfl)) pa_nil)))))
        pss_nil)
        (pss_cons (ps_if (pt_cmpR op_eq (pv 1) (pe_gc rfl (g_ROW T)) (nomark _))
        (pss_one (ps_ret (pe_mt (met_Desk_told_row T) hr (by decide) (pv 0) (pa_cons (pv 2) pa_nil))))
        pss_nil)
        (pss_cons (ps_if (pt_cmpR op_eq (pv 1) (pe_gc rfl (g_COUNTERS T)) (nomark _))
        (pss_one (ps_ret (pe_op op_cat (pe_lst (pa_cons pe_int pa_nil)) (pe_c (cal_counted T) hr (by decide) rfl (pa_cons (pe_mt0 (met_Row_told_counters T) hr (by decide) (pv 2)) pa_nil)))))
        pss_nil)
        (pss_cons (ps_if (pt_cmpR op_eq (pv 1) (pe_gc rfl (g_SCHEDULE_COST T)) (nomark _))
        (pss_one (ps_ret (pe_mt (met_Desk_told_schedule_cost T) hr (by decide) (pv 0) (pa_cons (pv 2) (pa_cons (pe_ix (ixL K rfl) (pv 3) pe_int (fun _ _ => rfl)) pa_nil)))))
        pss_nil)
        (pss_cons (ps_if (pt_cmpR op_eq (pv 1) (pe_gc rfl (g_BEST T)) (nomark _))
        (pss_cons (ps_asg (pe_c (cal_best_schedule T) hr (by decide) rfl (pa_cons (pe_fldK K rfl (pv 0) rfl) (pa_cons (pe_fldK K rfl (pv 2) rfl) (pa_cons (pe_fldK K rfl (pv 2) rfl) pa_nil)))) (pg_tupK K rfl rfl (pgs_cons (pg_name (i := 4) sc_Desk_answer_row.nd rfl (Or.inl rfl)) (pgs_cons (pg_name (i := 5) sc_Desk_answer_row.nd rfl (Or.inl rfl)) pgs_nil))))
        (pss_one (ps_ret (pe_op op_cat (pe_lst (pa_cons pe_int (pa_cons (pv 4) pa_nil))) (pe_c (cal_counted T) hr (by decide) rfl (pa_cons (pv 5) pa_nil))))))
        pss_nil)
        (pss_cons (ps_if (pt_cmpR op_eq (pv 1) (pe_gc rfl (g_BOUND T)) (nomark _))
        (pss_one (ps_ret (pe_mt (met_Desk_bound T) hr (by decide) (pv 0) (pa_cons (pv 2) pa_nil))))
        pss_nil)
        (pss_cons (ps_if (pt_cmpR op_eq (pv 1) (pe_gc rfl (g_CHECK_BOUND T)) (nomark _))
        (pss_one (ps_ret (pe_mt (met_Desk_check_bound T) hr (by decide) (pv 0) (pa_cons (pv 2) (pa_cons (pe_ix (ixL K rfl) (pv 3) pe_int (fun _ _ => rfl)) pa_nil)))))
        pss_nil)
        (pss_one (ps_ret (pe_mt (met_Desk_remove T) hr (by decide) (pv 0) (pa_cons (pv 2) pa_nil))))))))))), ?_⟩
  obtain ⟨ho, y2, hl, y4⟩ := O.yes h rfl
  have hrm := List.mem_of_getElem? hr0
  have ro := ho.rows r hrm
  have few := ro.few
  have rq0 := O.rowRep hq hr0
  obtain ⟨W0, eW0⟩ : ∃ W0, W0 = view ⟨Hf, H⟩ d.M := ⟨_, rfl⟩
  have g0 : Grow (view ⟨Hf, H⟩ d.M) W0 := by rw [eW0]; exact .refl (view_fh O.ok)
  have rl0 : Rep (view ⟨Hf, H⟩ d.M).f (dLs ls) v3 := Rep.mono (view_ff O.nfM) _ _ rl
  have eH : H = W0.h := by rw [eW0]; rfl
  rw [eH]
  refine s_ifs (W := W0) (et_test (ev_op rv_eq (ev_var (d := .i call) rfl rfl) ev_int)) g0.fh (fun e W103 g103a => ?_) (fun e W103 g103a => ?_)
  · have e : call = 3 := of_decide_eq_true e
    subst e
    have gx := g0.trans g103a
    dsimp only
    obtain ⟨num2, l, en, rfl, rfl⟩ := call_3 hc
    cases en
    obtain ⟨s1, s2, s3⟩ := st_use ho hf hr0 hrg
    rw [s1] at k
    obtain ⟨W', eh, G, O', _, _, _⟩ := O.look gx
    rw [← eh]
    show tMeth _ _ _ _ _ _ _ _ _ _
    refine m_call (W := W') rfl O'.ins (dkNames_no (by decide +kernel) _) O'.ok (ea_cons (ev_own (v := .ref q.a) rfl) (ea_cons (ev_lsN (W := W') (j := 0) (Rep.mono G.ff _ _ rl) rfl rfl s2 ev_int) ea_nil)) fun us W3 g3 ⟨u1, _, e1, k1, u2, _, e2, k2, k3⟩ => ?_
    have k3 : _ = [] := k3
    have k1 : u1 = .ref q.a := k1
    subst k3 k1 e2 e1
    exact ⟨W3.f, d, h, i, q, r, toNats l, u2, rfl, O'.grow g3, hq, hr0, k2, by rw [toNats_len]; omega, k.at (G.trans (g3.m _))⟩
  have c3 : call ≠ 3 := of_decide_eq_false e
  have g103 := g0.trans g103a
  dsimp only
  refine s_ifs (W := W103) (et_test (ev_op rv_eq (ev_var (d := .i call) rfl rfl) ev_int)) g103.fh (fun e W104 g104a => ?_) (fun e W104 g104a => ?_)
  · have e : call = 4 := of_decide_eq_true e
    subst e
    have gx := g103.trans g104a
    dsimp only
    obtain ⟨num2, en, rfl, rfl⟩ := call_4 hc
    cases en
    rw [st_row hf] at k
    exact s_endLook O gx (ev_meth (x := (h, r)) rfl ⟨ho, hrm⟩ (by decide +kernel) (ev_var (up gx O.desk) rfl) (ea_cons (ev_var (up gx rq0) rfl) ea_nil)) k
  have c4 : call ≠ 4 := of_decide_eq_false e
  have g104 := g103.trans g104a
  dsimp only
  refine s_ifs (W := W104) (et_test (ev_op rv_eq (ev_var (d := .i call) rfl rfl) ev_int)) g104.fh (fun e W105 g105a => ?_) (fun e W105 g105a => ?_)
  · have e : call = 5 := of_decide_eq_true e
    subst e
    have gx := g104.trans g105a
    dsimp only
    obtain ⟨num2, en, rfl, rfl⟩ := call_5 hc
    cases en
    rw [st_counters hf ro.marks.len] at k
    have hml := ro.marks.len
    have hp9 := ho.wf.pn
    exact s_endLook O gx (EvD.is (ev_op (rv_cat (xs := [D.i 0]) (ys := (countedOf (toldOf r.marks)).map D.i) (by have := told_len r.marks; unfold countedOf; simp only [List.length_map, List.length_cons, List.length_nil]; omega)) (ev_lst (ea_cons ev_int ea_nil) (by show 1 ≤ 10000000; decide)) (ev_call (x := toldOf r.marks) (by rw [told_len]; omega) (ea_cons (ev_meth (x := (h.tree, h.factor, r)) rfl (by show r.marks.length ≤ 1000; omega) (by decide +kernel) (ev_var (up gx rq0) rfl) ea_nil) ea_nil))) rfl) k
  have c5 : call ≠ 5 := of_decide_eq_false e
  have g105 := g104.trans g105a
  dsimp only
  refine s_ifs (W := W105) (et_test (ev_op rv_eq (ev_var (d := .i call) rfl rfl) ev_int)) g105.fh (fun e W106 g106a => ?_) (fun e W106 g106a => ?_)
  · have e : call = 6 := of_decide_eq_true e
    subst e
    have gx := g105.trans g106a
    dsimp only
    obtain ⟨num2, l, en, rfl, rfl⟩ := call_6 hc
    cases en
    obtain ⟨s1, s2, s3⟩ := st_schedule hf hrg
    rw [s1] at k
    exact s_endLook O gx (ev_meth (x := (h, r, toNats l)) rfl ⟨ho, hrm, by rw [toNats_len]; omega⟩ (by decide +kernel) (ev_var (up gx O.desk) rfl) (ea_cons (ev_var (up gx rq0) rfl) (ea_cons (ev_lsN (W := W106) (j := 0) (up gx rl0) rfl rfl s2 ev_int) ea_nil))) k
  have c6 : call ≠ 6 := of_decide_eq_false e
  have g106 := g105.trans g106a
  dsimp only
  refine s_ifs (W := W106) (et_test (ev_op rv_eq (ev_var (d := .i call) rfl rfl) ev_int)) g106.fh (fun e W107 g107a => ?_) (fun e W107 g107a => ?_)
  · have e : call = 7 := of_decide_eq_true e
    subst e
    have gx := g106.trans g107a
    dsimp only
    obtain ⟨num2, en, rfl, rfl⟩ := call_7 hc
    cases en
    rw [st_best hf] at k
    refine s_two (W := W107) (ev_call (x := (h.tree, h.factor, r.first, r.uses)) ⟨ho.wf, ho.f2, ro.first, ro.uses, by omega⟩ (ea_cons (desk_tree T (ev_var (up gx O.desk) rfl)) (ea_cons (row_first T (ev_var (up gx rq0) rfl)) (ea_cons (row_uses T (ev_var (up gx rq0) rfl)) ea_nil)))) gx.fh fun va vb W8 g8 ra rb => ?_
    dsimp only
    have hbl : (Vbjtah.bestSchedule h.tree h.factor r.first r.uses).length ≤ 100 := by have := best_le h.tree h.factor r.uses r.first ((Vbjtah.costTable h.tree h.factor r.uses).drop 1); unfold Vbjtah.bestSchedule; omega
    exact s_endLook O (gx.trans g8) (EvD.is (ev_op (rv_cat (xs := [D.i 0, dn (Vbjtah.bestCost h.tree h.factor r.first r.uses)]) (ys := (countedOf (nI (Vbjtah.bestSchedule h.tree h.factor r.first r.uses))).map D.i) (by unfold countedOf nI; simp only [List.length_map, List.length_cons, List.length_nil]; omega)) (ev_lst (ea_cons ev_int (ea_cons (ev_var ra rfl) ea_nil)) (by show 2 ≤ 10000000; decide)) (ev_call (x := nI (Vbjtah.bestSchedule h.tree h.factor r.first r.uses)) (by unfold nI; rw [List.length_map]; omega) (ea_cons (EvD.is (ev_var rb rfl) (congrArg D.l (dn_nI _))) ea_nil))) rfl) k
  have c7 : call ≠ 7 := of_decide_eq_false e
  have g107 := g106.trans g107a
  dsimp only
  refine s_ifs (W := W107) (et_test (ev_op rv_eq (ev_var (d := .i call) rfl rfl) ev_int)) g107.fh (fun e W108 g108a => ?_) (fun e W108 g108a => ?_)
  · have e : call = 8 := of_decide_eq_true e
    subst e
    have gx := g107.trans g108a
    dsimp only
    obtain ⟨num2, en, rfl, rfl⟩ := call_8 hc
    cases en
    rw [st_bound hf] at k
    exact s_endLook O gx (ev_meth (x := (h, r)) rfl ⟨ho, hrm⟩ (by decide +kernel) (ev_var (up gx O.desk) rfl) (ea_cons (ev_var (up gx rq0) rfl) ea_nil)) k
  have c8 : call ≠ 8 := of_decide_eq_false e
  have g108 := g107.trans g108a
  dsimp only
  refine s_ifs (W := W108) (et_test (ev_op rv_eq (ev_var (d := .i call) rfl rfl) ev_int)) g108.fh (fun e W109 g109a => ?_) (fun e W109 g109a => ?_)
  · have e : call = 9 := of_decide_eq_true e
    subst e
    have gx := g108.trans g109a
    dsimp only
    obtain ⟨num2, l, en, rfl, rfl⟩ := call_9 hc
    cases en
    rw [st_checkBound hf hrg] at k
    have hl : l.length ≤ 1200 := by
      have hrg : (Vbjtah.isNumber num && (decide (l.length ≤ 1200) && l.all (Vbjtah.inRange (-1000000000) 1000000000))) = true := hrg
      simp only [Bool.and_eq_true] at hrg
      exact of_decide_eq_true hrg.2.1
    exact s_endLook O gx (ev_meth (x := (h, r, l)) rfl ⟨ho, hrm, hl⟩ (by decide +kernel) (ev_var (up gx O.desk) rfl) (ea_cons (ev_var (up gx rq0) rfl) (ea_cons (ev_ls (W := W109) (j := 0) (up gx rl0) rfl rfl ev_int) ea_nil))) k
  have c9 : call ≠ 9 := of_decide_eq_false e
  have g109 := g108.trans g109a
  dsimp only
  have gx := g109
  have e : call = 14 := by omega
  subst e
  obtain ⟨num2, en, rfl, rfl⟩ := call_14 hc
  cases en
  rw [st_remove ho hf hr0] at k
  obtain ⟨W', eh, G, O', _, _, _⟩ := O.look gx
  rw [← eh]
  show tMeth _ _ _ _ _ _ _ _ _ _
  refine m_call (W := W') rfl O'.ins (dkNames_no (by decide +kernel) _) O'.ok (ea_cons (ev_own (v := .ref q.a) rfl) ea_nil) fun us W3 g3 ⟨u1, _, e1, k1, k3⟩ => ?_
  have k3 : _ = [] := k3
  have k1 : u1 = .ref q.a := k1
  subst k3 k1 e1
  exact ⟨W3.f, d, h, i, q, r, rfl, O'.grow g3, hq, hr0, k.at (G.trans (g3.m _))⟩
end
end Hm
end
section
set_option Elab.async false
set_option linter.all false
set_option maxRecDepth 100000
set_option maxHeartbeats 4000000
namespace Hm
open PySem PySem.Spec PyProof.Rows L2
open C8 (Cal Met Mak pe_c pe_mt pe_mt0 pe_mk pe_gc)
open Vbjtah (versionCount edgesOf isBelow distance)
/-! ### the desk: calls about the tree; all calls -/
open Vbjtah (House homeOf used argumentsInRange callOf rowIn toNats stepInRange)
section
variable {P : Program} {w : World} {K : PySem.W.Frag} {mg : Str → Option Value} {base : Heap}
abbrev sp_Desk_answer_tree (K : PySem.W.Frag) : Sp := fun vs H Q _ => ∃ (Hf : Hp) (d : DA) (h : House) (call : Int) (ns : List Int) (ls : List (List Int)) (c : Vbjtah.Call) (v2 v3 : V), vs = [.ref d.a, .int call, v2, v3] ∧ DeskO K d (some h) ⟨Hf, H⟩ ∧ Rep Hf (.l (ns.map D.i)) v2 ∧ Rep Hf (dLs ls) v3 ∧ callOf ((call :: ns) :: ls) = some c ∧ argumentsInRange c = true ∧ ¬ (call = 3 ∨ call = 4 ∨ call = 5 ∨ call = 6 ∨ call = 7 ∨ call = 8 ∨ call = 9 ∨ call = 14) ∧ call ≠ 0 ∧ call ≠ 15 ∧ Post K d ⟨Hf, H⟩ (stepInRange (some h) c) Q
theorem met_Desk_answer_tree (T : Top K mg) : Met P w K mg base 11 (C_Desk K) "answer_tree" (sp_Desk_answer_tree K) [] :=
  metOf (cl_Desk T) (me_Desk_answer_tree T) (F_Desk_answer_tree T) sc_Desk_answer_tree (fun _ _ _ _ _ _ us hl => match us, hl with | [_, _, _, _], _ => rfl) (fun _ _ _ _ h => by obtain ⟨_, _, _, _, _, _, _, _, _, rfl, _⟩ := h; rfl) fun cdv A outer s H vs Q E hr h => by
  obtain ⟨Hf, d, h, call, ns, ls, c, v2, v3, rfl, O, rn, rl, hc, hrg, hcall, hc0, hc15, k⟩ := h
  refine ⟨_, (pss_cons (ps_if (pt_cmpR op_eq (pv 1) (pe_gc rfl (g_DISTANCE T)) (nomark _))
        (pss_one (ps_ret (pe_mt (met_Desk_distance T) hr (by decide) (pv 0) (pa_cons (pe_ix (ixL K rfl) (pv 2) pe_int (fun _ _ => rfl)) (pa_cons (pe_ix (ixL K rfl) (pv 2) pe_int (fun _ _ => rfl)) pa_nil)))))
        pss_nil)
        (pss_cons (ps_if (pt_cmpR op_eq (pv 1) (pe_gc rfl (g_ADD T)) (nomark _))
        (pss_one (ps_ret (pe_mt (met_Desk_add T) hr (by decide) (pv 0) (pa_cons (pe_ix (ixL K rfl) (pv 2) pe_int (fun _ _ => rfl)) (pa_cons (pe_ix (ixL K rfl) (pv 2) pe_int (fun _ _ => rfl)) pa_nil)))))
        pss_nil)
        (pss_cons (ps_if (pt_cmpR op_eq (pv 1) (pe_gc rfl (g_MEDIAN T)) (nomark _))
        (pss_one (ps_ret (pe_mt (met_Desk_told_median T) hr (by decide) (pv 0) (pa_cons (pe_ix (ixL K rfl) (pv 3) pe_int (fun _ _ => rfl)) pa_nil))))
        pss_nil)
        (pss_cons (ps_if (pt_cmpR op_eq (pv 1) (pe_gc rfl (g_CHECK_MEDIAN T)) (nomark _))
        (pss_one (ps_ret (pe_mt (met_Desk_check_median T) hr (by decide) (pv 0) (pa_cons (pe_ix (ixL K rfl) (pv 2) pe_int (fun _ _ => rfl)) (pa_cons (pe_ix (ixL K rfl) (pv 3) pe_int (fun _ _ => rfl)) pa_nil)))))
        pss_nil)
        (pss_cons (ps_if (pt_cmpR op_eq (pv 1) (pe_gc rfl (g_ASSIGN T)) (nomark _))
        (pss_one (ps_ret (pe_mt (met_Desk_assign T) hr (by decide) (pv 0) (pa_cons (pe_ix (ixL K rfl) (pv 3) pe_int (fun _ _ => rfl)) pa_nil))))
        pss_nil)
        (pss_one (ps_ret (pe_mt (met_Desk_check_assignment T) hr (by decide) (pv 0) (pa_cons (pe_ix (ixL K rfl) (pv 3) pe_int (fun _ _ => rfl)) (pa_cons (pe_ix (ixL K rfl) (pv 3) pe_int (fun _ _ => rfl)) (pa_cons (pe_ix (ixL K rfl) (pv 3) pe_int (fun _ _ => rfl)) pa_nil))))))))))), ?_⟩
  have ho := (O.yes h rfl).1
  obtain ⟨W0, eW0⟩ : ∃ W0, W0 = view ⟨Hf, H⟩ d.M := ⟨_, rfl⟩
  have g0 : Grow (view ⟨Hf, H⟩ d.M) W0 := by rw [eW0]; exact .refl (view_fh O.ok)
  have rl0 : Rep (view ⟨Hf, H⟩ d.M).f (dLs ls) v3 := Rep.mono (view_ff O.nfM) _ _ rl
  have rn0 : Rep (view ⟨Hf, H⟩ d.M).f (.l (ns.map D.i)) v2 := Rep.mono (view_ff O.nfM) _ _ rn
  have eH : H = W0.h := by rw [eW0]; rfl
  rw [eH]
  refine s_ifs (W := W0) (et_test (ev_op rv_eq (ev_var (d := .i call) rfl rfl) ev_int)) g0.fh (fun e W101 g101a => ?_) (fun e W101 g101a => ?_)
  · have e : call = 1 := of_decide_eq_true e
    subst e
    have gx := g0.trans g101a
    dsimp only
    obtain ⟨a, b, rfl, rfl, rfl⟩ := call_1 hc
    have hrg2 : (Vbjtah.isVersion a && Vbjtah.isVersion b) = true := hrg
    rw [Bool.and_eq_true] at hrg2
    have ha := all_ver (l := [a]) (by simpa using hrg2.1) a List.mem_cons_self
    have hb := all_ver (l := [b]) (by simpa using hrg2.2) b List.mem_cons_self
    rw [st_distance ho hrg] at k
    exact s_endLook O gx (ev_meth (x := (h, a.toNat, b.toNat)) rfl ho (by decide +kernel) (ev_var (up gx O.desk) rfl) (ea_cons (ev_nsN (W := W101) (j := 0) (up gx rn0) rfl rfl ha ev_int) (ea_cons (ev_nsN (W := W101) (j := 1) (up gx rn0) rfl rfl hb ev_int) ea_nil))) k
  have c1 : call ≠ 1 := of_decide_eq_false e
  have g101 := g0.trans g101a
  dsimp only
  refine s_ifs (W := W101) (et_test (ev_op rv_eq (ev_var (d := .i call) rfl rfl) ev_int)) g101.fh (fun e W102 g102a => ?_) (fun e W102 g102a => ?_)
  · have e : call = 2 := of_decide_eq_true e
    subst e
    have gx := g101.trans g102a
    dsimp only
    obtain ⟨a, b, rfl, rfl, rfl⟩ := call_2 hc
    obtain ⟨s1, ha, hb⟩ := st_add (h := h) hrg
    rw [s1] at k
    obtain ⟨W', eh, G, O', _, _, _⟩ := O.look gx
    rw [← eh]
    show tMeth _ _ _ _ _ _ _ _ _ _
    refine m_call (W := W') rfl O'.ins (dkNames_no (by decide +kernel) _) O'.ok (ea_cons (ev_nsN (W := W') (j := 0) (Rep.mono G.ff _ _ rn) rfl rfl ha ev_int) (ea_cons (ev_nsN (W := W') (j := 1) (Rep.mono G.ff _ _ rn) rfl rfl hb ev_int) ea_nil)) fun us W3 g3 ⟨u1, _, e1, k1, u2, _, e2, k2, k3⟩ => ?_
    have k3 : _ = [] := k3
    have k1 : u1 = vn a.toNat := k1
    have k2 : u2 = vn b.toNat := k2
    subst k3 k2 k1 e2 e1
    exact ⟨W3.f, d, h, a.toNat, b.toNat, rfl, O'.grow g3, k.at (G.trans (g3.m _))⟩
  have c2 : call ≠ 2 := of_decide_eq_false e
  have g102 := g101.trans g102a
  dsimp only
  refine s_ifs (W := W102) (et_test (ev_op rv_eq (ev_var (d := .i call) rfl rfl) ev_int)) g102.fh (fun e W110 g110a => ?_) (fun e W110 g110a => ?_)
  · have e : call = 10 := of_decide_eq_true e
    subst e
    have gx := g102.trans g110a
    dsimp only
    obtain ⟨l, rfl, rfl, rfl⟩ := call_10 hc
    obtain ⟨s1, s2, s3⟩ := st_median (h := h) hrg
    rw [s1] at k
    have hl : l.length ≤ 1200 := by
      have hrg2 : (decide (l.length ≤ 10) && l.all (Vbjtah.inRange 0 1000)) = true := hrg
      rw [Bool.and_eq_true] at hrg2
      have := of_decide_eq_true hrg2.1
      omega
    exact s_endLook O gx (ev_meth (x := (h, toNats l)) rfl ⟨ho, by rw [toNats_len]; exact hl, s3⟩ (by decide +kernel) (ev_var (up gx O.desk) rfl) (ea_cons (ev_lsN (W := W110) (j := 0) (up gx rl0) rfl rfl s2 ev_int) ea_nil)) k
  have c10 : call ≠ 10 := of_decide_eq_false e
  have g110 := g102.trans g110a
  dsimp only
  refine s_ifs (W := W110) (et_test (ev_op rv_eq (ev_var (d := .i call) rfl rfl) ev_int)) g110.fh (fun e W111 g111a => ?_) (fun e W111 g111a => ?_)
  · have e : call = 11 := of_decide_eq_true e
    subst e
    have gx := g110.trans g111a
    dsimp only
    obtain ⟨a, l, rfl, rfl, rfl⟩ := call_11 hc
    obtain ⟨s1, ha, s2⟩ := st_checkMedian ho hrg
    rw [s1] at k
    have hl : l.length ≤ 1200 := by
      have hrg2 : (Vbjtah.isVersion a && (decide (l.length ≤ 10) && l.all (Vbjtah.inRange 0 1000))) = true := hrg
      rw [Bool.and_eq_true, Bool.and_eq_true] at hrg2
      have := of_decide_eq_true hrg2.2.1
      omega
    exact s_endLook O gx (ev_meth (x := (h, a.toNat, toNats l)) rfl ⟨ho, by rw [toNats_len]; exact hl⟩ (by decide +kernel) (ev_var (up gx O.desk) rfl) (ea_cons (ev_nsN (W := W111) (j := 0) (up gx rn0) rfl rfl ha ev_int) (ea_cons (ev_lsN (W := W111) (j := 0) (up gx rl0) rfl rfl s2 ev_int) ea_nil))) k
  have c11 : call ≠ 11 := of_decide_eq_false e
  have g111 := g110.trans g111a
  dsimp only
  refine s_ifs (W := W111) (et_test (ev_op rv_eq (ev_var (d := .i call) rfl rfl) ev_int)) g111.fh (fun e W112 g112a => ?_) (fun e W112 g112a => ?_)
  · have e : call = 12 := of_decide_eq_true e
    subst e
    have gx := g111.trans g112a
    dsimp only
    obtain ⟨l, rfl, rfl, rfl⟩ := call_12 hc
    obtain ⟨s1, s2⟩ := st_assign ho hrg
    rw [s1] at k
    have hl : l.length ≤ 1200 := by
      have hrg2 : (decide (l.length ≤ 10) && l.all (Vbjtah.inRange 0 12)) = true := hrg
      rw [Bool.and_eq_true] at hrg2
      have := of_decide_eq_true hrg2.1
      omega
    exact s_endLook O gx (ev_meth (x := (h, toNats l)) rfl ⟨ho, by rw [toNats_len]; exact hl⟩ (by decide +kernel) (ev_var (up gx O.desk) rfl) (ea_cons (ev_lsN (W := W112) (j := 0) (up gx rl0) rfl rfl s2 ev_int) ea_nil)) k
  have c12 : call ≠ 12 := of_decide_eq_false e
  have g112 := g111.trans g112a
  dsimp only
  have gx := g112
  have hrn := call_rng hc
  have e : call = 13 := by omega
  subst e
  obtain ⟨l, m, p, rfl, rfl, rfl⟩ := call_13 hc
  obtain ⟨s1, s2, s3⟩ := st_check ho hrg
  rw [s1] at k
  have hl : l.length ≤ 1200 ∧ m.length ≤ 1200 ∧ p.length ≤ 1200 := by
    have hrg2 : (decide (l.length ≤ 10 ∧ m.length ≤ 12 ∧ p.length ≤ 10) && (l.all (Vbjtah.inRange 0 12) && (m.all Vbjtah.isVersion && p.all (Vbjtah.inRange 0 1000000000)))) = true := hrg
    rw [Bool.and_eq_true] at hrg2
    have := of_decide_eq_true hrg2.1
    omega
  exact s_endLook O gx (ev_meth (x := (h, toNats l, toNats m, p)) rfl ⟨ho, by rw [toNats_len]; exact hl.1, by rw [toNats_len]; exact hl.2.1, hl.2.2⟩ (by decide +kernel) (ev_var (up gx O.desk) rfl) (ea_cons (ev_lsN (W := W112) (j := 0) (up gx rl0) rfl rfl s2 ev_int) (ea_cons (ev_lsN (W := W112) (j := 1) (up gx rl0) rfl rfl s3 ev_int) (ea_cons (ev_ls (W := W112) (j := 2) (up gx rl0) rfl rfl ev_int) ea_nil)))) k
theorem are_shape {call : Int} {ns : List Int} {ls : List (List Int)} {c : Vbjtah.Call} (h : callOf ((call :: ns) :: ls) = some c) (hl : ∀ l ∈ ls, l.length ≤ 1200) : shapeOk call ns ls := by
  have lens : ns.length ≤ 10 ∧ ls.length ≤ 10 := by
    unfold Vbjtah.callOf at h
    split at h <;> first
      | (exfalso; simp at h; done)
      | (rename_i e; simp only [List.cons.injEq] at e; obtain ⟨⟨_, rfl⟩, rfl⟩ := e; exact ⟨by decide, by decide⟩)
      | (rename_i e; simp only [List.cons.injEq] at e; obtain ⟨⟨_, rfl⟩, rfl⟩ := e; simp)
  refine ⟨fun e => ?_, fun e => ?_, fun e => ?_, lens.1, lens.2, hl⟩
  · subst e
    obtain ⟨_, _, _, rfl, rfl, _⟩ := call_0 h
    exact ⟨rfl, rfl⟩
  · subst e
    obtain ⟨_, _, _, _, rfl, _⟩ := call_13 h
    rfl
  · subst e
    obtain ⟨_, _, rfl, _, _⟩ := call_2 h
    rfl
/-- a row's call has the row's number as its one whole number -/
theorem row_call {call : Int} {ns : List Int} {ls : List (List Int)} {c : Vbjtah.Call} (h : callOf ((call :: ns) :: ls) = some c) (hc : call = 3 ∨ call = 4 ∨ call = 5 ∨ call = 6 ∨ call = 7 ∨ call = 8 ∨ call = 9 ∨ call = 14) : ∃ (num : Int) (l : List Int), ns = [num] ∧ (c = .use num l ∨ c = .row num ∨ c = .counters num ∨ c = .scheduleCost num l ∨ c = .best num ∨ c = .bound num ∨ c = .checkBound num l ∨ c = .remove num) := by
  rcases hc with e | e | e | e | e | e | e | e <;> subst e
  · obtain ⟨a, l, rfl, _, rfl⟩ := call_3 h; exact ⟨a, l, rfl, by simp⟩
  · obtain ⟨a, rfl, _, rfl⟩ := call_4 h; exact ⟨a, [], rfl, by simp⟩
  · obtain ⟨a, rfl, _, rfl⟩ := call_5 h; exact ⟨a, [], rfl, by simp⟩
  · obtain ⟨a, l, rfl, _, rfl⟩ := call_6 h; exact ⟨a, l, rfl, by simp⟩
  · obtain ⟨a, rfl, _, rfl⟩ := call_7 h; exact ⟨a, [], rfl, by simp⟩
  · obtain ⟨a, rfl, _, rfl⟩ := call_8 h; exact ⟨a, [], rfl, by simp⟩
  · obtain ⟨a, l, rfl, _, rfl⟩ := call_9 h; exact ⟨a, l, rfl, by simp⟩
  · obtain ⟨a, rfl, _, rfl⟩ := call_14 h; exact ⟨a, [], rfl, by simp⟩
theorem num_ok {c : Vbjtah.Call} {num : Int} {l : List Int} (hr : argumentsInRange c = true) (hc : c = .use num l ∨ c = .row num ∨ c = .counters num ∨ c = .scheduleCost num l ∨ c = .best num ∨ c = .bound num ∨ c = .checkBound num l ∨ c = .remove num) : 0 ≤ num := by
  have key : Vbjtah.isNumber num = true → 0 ≤ num := fun h => by
    have h1 : (decide (1 ≤ num) && decide (num ≤ 9999)) = true := h
    rw [Bool.and_eq_true] at h1
    have := of_decide_eq_true h1.1
    omega
  rcases hc with e | e | e | e | e | e | e | e <;> subst e
  · have h2 : (Vbjtah.isNumber num && _) = true := hr
    rw [Bool.and_eq_true] at h2; exact key h2.1
  · exact key hr
  · exact key hr
  · have h2 : (Vbjtah.isNumber num && _) = true := hr
    rw [Bool.and_eq_true] at h2; exact key h2.1
  · exact key hr
  · exact key hr
  · have h2 : (Vbjtah.isNumber num && _) = true := hr
    rw [Bool.and_eq_true] at h2; exact key h2.1
  · exact key hr
theorem DeskO.isNone {K : PySem.W.Frag} {d : DA} {s : Option House} {W : Wd} (O : DeskO K d s W) : decide (d.tv = V.non) = s.isNone := by
  cases s with
  | none => rw [(O.no rfl).1]; rfl
  | some h =>
    obtain ⟨a, dx, vs, e, _⟩ := (O.yes h rfl).2.1
    rw [e]
    rfl
def rowCalls : List Int := [3, 4, 5, 6, 7, 8, 9, 14]
theorem rowCalls_sq (T : Top K mg) (H : Hp) : SqT K H (He.ga K "ROW_CALLS") (rowCalls.map V.int) := He.tupB_ok (xt_parts T).2.2.1 H
theorem ev_niG {σ : L2.St} {W : Wd} {ta : TE} {m : Int} {l : List Int} {a : Addr} (h : ∀ H, SqT K H a (l.map V.int)) (ha : EvD ta σ W (.i m)) : EvD (tOp (rIn K true) ta (tC (.ref a))) σ W (.b (!decide (m ∈ l))) := fun W1 g Q q => ha W1 g _ fun x W2 g2 rx => by
  cases rx
  refine ⟨a, _, rfl, .inr (h W2.h), rfl, flat_ints l, ?_⟩
  rw [in_ints]
  exact q _ W2 g2 rfl
theorem tree_call {call : Int} {ns : List Int} {ls : List (List Int)} {f : Int} {p l : List Int} (h : callOf ((call :: ns) :: ls) = some (.tree f p l)) : call = 0 := by
  unfold Vbjtah.callOf at h
  split at h <;> first
    | (exfalso; simp at h; done)
    | (rename_i e; simp only [List.cons.injEq] at e; exact e.1.1)
theorem status_call {call : Int} {ns : List Int} {ls : List (List Int)} (h : callOf ((call :: ns) :: ls) = some .status) : call = 15 := by
  unfold Vbjtah.callOf at h
  split at h <;> first
    | (exfalso; simp at h; done)
    | (rename_i e; simp only [List.cons.injEq] at e; exact e.1.1)
/-- return a if t else b -/
theorem s_retIf {σ : L2.St} {W : Wd} {t : TT} {ta tb : TE} {D0 : Ends} {b : Bool} (h : EvT t σ W b) (ok : Ex W.f W.h) (h1 : b = true → ∀ W1, Grow W W1 → ta σ W1.h D0.rt) (h2 : b = false → ∀ W1, Grow W W1 → tb σ W1.h D0.rt) : tRet (tIf t ta tb) D0 σ W.h := h W (.refl ok) _ fun W1 g => by
  cases b with
  | true => exact iteT (h1 rfl W1 g)
  | false => exact iteF (h2 rfl W1 g)
abbrev sp_Desk_answer (K : PySem.W.Frag) : Sp := fun vs H Q _ => ∃ (Hf : Hp) (d : DA) (s : Option House) (call : Int) (ns : List Int) (ls : List (List Int)) (c : Vbjtah.Call) (v2 v3 : V), vs = [.ref d.a, .int call, v2, v3] ∧ DeskO K d s ⟨Hf, H⟩ ∧ Rep Hf (.l (ns.map D.i)) v2 ∧ Rep Hf (dLs ls) v3 ∧ callOf ((call :: ns) :: ls) = some c ∧ (∀ l ∈ ls, l.length ≤ 1200) ∧ Post K d ⟨Hf, H⟩ (Vbjtah.step s c) Q
theorem met_Desk_answer (T : Top K mg) : Met P w K mg base 12 (C_Desk K) "answer" (sp_Desk_answer K) [] :=
  metOf (cl_Desk T) (me_Desk_answer T) (F_Desk_answer T) sc_Desk_answer (fun _ _ _ _ _ _ us hl => match us, hl with | [_, _, _, _], _ => rfl) (fun _ _ _ _ h => by obtain ⟨_, _, _, _, _, _, _, _, _, rfl, _⟩ := h; rfl) fun cdv A outer s H vs Q E hr h => by
  obtain ⟨Hf, d, s0, call, ns, ls, c, v2, v3, rfl, O, rn, rl, hc, hls, k⟩ := h
  refine ⟨_, (pss_cons (ps_if (pt_not (pt_val (pe_c (cal_are_right T) hr (by decide) rfl (pa_cons (pv 1) (pa_cons (pv 2) (pa_cons (pv 3) pa_nil))))))
        (pss_one (ps_ret (pe_callTy (listK K rfl) rfl (T_list T) b_list (pa_cons (pe_gc rfl (g_BAD_ARGUMENT T)) pa_nil))))
        pss_nil)
        (pss_cons (ps_if (pt_cmpR op_eq (pv 1) (pe_gc rfl (g_TREE T)) (nomark _))
        (pss_one (ps_ret (pe_mt (met_Desk_set_tree T) hr (by decide) (pv 0) (pa_cons (pe_ix (ixL K rfl) (pv 2) pe_int (fun _ _ => rfl)) (pa_cons (pe_ix (ixL K rfl) (pv 3) pe_int (fun _ _ => rfl)) (pa_cons (pe_ix (ixL K rfl) (pv 3) pe_int (fun _ _ => rfl)) pa_nil))))))
        pss_nil)
        (pss_cons (ps_if (pt_cmpR op_eq (pv 1) (pe_gc rfl (g_STATUS T)) (nomark _))
        (pss_one (ps_ret (pe_mt0 (met_Desk_status T) hr (by decide) (pv 0))))
        pss_nil)
        (pss_cons (ps_if (pt_cmpR op_isN (pe_fldK K rfl (pv 0) rfl) pe_non (nomark _))
        (pss_one (ps_ret (pe_callTy (listK K rfl) rfl (T_list T) b_list (pa_cons (pe_gc rfl (g_NO_TREE T)) pa_nil))))
        pss_nil)
        (pss_cons (ps_if (pt_cmpR (notInK K rfl) (pv 1) (pe_gc rfl (g_ROW_CALLS T)) rfl)
        (pss_one (ps_ret (pe_mt (met_Desk_answer_tree T) hr (by decide) (pv 0) (pa_cons (pv 1) (pa_cons (pv 2) (pa_cons (pv 3) pa_nil))))))
        pss_nil)
        (pss_cons (ps_set (i := 4) sc_Desk_answer.nd rfl (Or.inl rfl) (pe_mt (met_Desk_row_at T) hr (by decide) (pv 0) (pa_cons (pe_ix (ixL K rfl) (pv 2) pe_int (fun _ _ => rfl)) pa_nil)))
        (pss_one (ps_ret (pe_ifExp (pt_cmpR op_isN (pv 4) pe_non (nomark _)) (pe_callTy (listK K rfl) rfl (T_list T) b_list (pa_cons (pe_gc rfl (g_NO_ROW T)) pa_nil)) (pe_mt (met_Desk_answer_row T) hr (by decide) (pv 0) (pa_cons (pv 1) (pa_cons (pv 4) (pa_cons (pv 3) pa_nil))))))))))))), ?_⟩
  rw [step_eq] at k
  have rl0 : Rep (view ⟨Hf, H⟩ d.M).f (dLs ls) v3 := Rep.mono (view_ff O.nfM) _ _ rl
  have rn0 : Rep (view ⟨Hf, H⟩ d.M).f (.l (ns.map D.i)) v2 := Rep.mono (view_ff O.nfM) _ _ rn
  refine s_ifs (W := view ⟨Hf, H⟩ d.M) (et_not (et_B (ev_call (x := (call, ns, ls)) (are_shape hc hls) (ea_cons (ev_var (d := .i call) rfl rfl) (ea_cons (ev_var rn0 rfl) (ea_cons (ev_var rl0 rfl) ea_nil)))))) (view_fh O.ok) (fun e W1 g1 => ?_) (fun e W1 g1 => ?_)
  · have e : areRight call ns ls = false := by simpa using e
    rw [areRight_eq hc] at e
    rw [if_pos e] at k
    exact s_endLook O g1 (ev_listTop (ns := [-1]) (fun H => lst_of T (xt_parts T).2.2.2.1 H)) k
  have hrg : areRight call ns ls = true := by simpa using e
  rw [areRight_eq hc] at hrg
  rw [if_neg (by rw [hrg]; decide)] at k
  dsimp only
  refine s_ifs (W := W1) (et_test (ev_op rv_eq (ev_var (d := .i call) rfl rfl) ev_int)) g1.fh (fun e W2 g2 => ?_) (fun e W2 g2 => ?_)
  · have e : call = 0 := of_decide_eq_true e
    subst e
    obtain ⟨f, p, l, rfl, rfl, rfl⟩ := call_0 hc
    obtain ⟨hw, ⟨f1, f2⟩, p0, l0⟩ := tree_wf hrg
    rw [st_tree] at k
    dsimp only
    obtain ⟨W', eh, G, O', _, _, _⟩ := O.look (g1.trans g2)
    rw [← eh]
    show tMeth _ _ _ _ _ _ _ _ _ _
    refine m_call (W := W') rfl O'.ins (dkNames_no (by decide +kernel) _) O'.ok (ea_cons (ev_nsN (W := W') (j := 0) (Rep.mono G.ff _ _ rn) rfl rfl (by omega) ev_int) (ea_cons (ev_lsN (W := W') (j := 0) (Rep.mono G.ff _ _ rl) rfl rfl p0 ev_int) (ea_cons (ev_lsN (W := W') (j := 1) (Rep.mono G.ff _ _ rl) rfl rfl l0 ev_int) ea_nil))) fun us W3 g3 ⟨u1, _, e1, k1, u2, _, e2, k2, u3, _, e3, k3, k4⟩ => ?_
    have k4 : _ = [] := k4
    have k1 : u1 = vn f.toNat := k1
    subst k4 k1 e3 e2 e1
    exact ⟨W3.f, d, s0, ⟨toNats p, toNats l⟩, f.toNat, u2, u3, rfl, O'.grow g3, k2, k3, ⟨hw, by omega, by omega⟩, k.at (G.trans (g3.m _))⟩
  have n0 : call ≠ 0 := of_decide_eq_false e
  dsimp only
  have a2 := g1.trans g2
  refine s_ifs (W := W2) (et_test (ev_op rv_eq (ev_var (d := .i call) rfl rfl) ev_int)) g2.fh (fun e W3 g3 => ?_) (fun e W3 g3 => ?_)
  · have e : call = 15 := of_decide_eq_true e
    subst e
    obtain ⟨rfl, rfl, rfl⟩ := call_15 hc
    rw [st_status] at k
    dsimp only
    have hst := O.state
    have hok : ∀ h, s0 = some h → HOk h := fun h e => (O.yes h e).1
    cases s0 with
    | none => exact s_endLook O (a2.trans g3) (ev_meth (x := (none : Option House)) (ns := dkNames) (ds := [.n, .l []]) (es := []) rfl hok (by decide +kernel) (ev_var (up (a2.trans g3) hst) rfl) ea_nil) k
    | some h => exact s_endLook O (a2.trans g3) (ev_meth (x := some h) (ns := dkNames) (ds := [dTree K h.tree h.factor true, .l (h.rows.map (dRow K h.tree h.factor))]) (es := []) rfl hok (by decide +kernel) (ev_var (up (a2.trans g3) hst) rfl) ea_nil) k
  have n15 : call ≠ 15 := of_decide_eq_false e
  dsimp only
  have a3 := a2.trans g3
  have hin3 : W3.h d.a = some (.ins (C_Desk K) d.dx (dkNames.zip [d.tv, .ref d.rl])) := a3.hh _ _ O.ins
  refine s_ifs (W := W3) (b := s0.isNone) (et_test (EvD.is (ev_op rv_isN (ev_fldZ 0 (cl_Desk T) (na_Desk_tree T) (ev_own rfl) hin3 (by decide +kernel) rfl) ev_non) (congrArg D.b O.isNone))) g3.fh (fun e W4 g4 => ?_) (fun e W4 g4 => ?_)
  · have e : s0 = none := by cases s0 with | none => rfl | some h => cases e
    subst e
    rw [st_none (fun f p l e => ?_) (fun e => ?_)] at k
    · exact s_endLook O (a3.trans g4) (ev_listTop (ns := [-2]) (fun H => lst_of T (xt_parts T).2.2.2.2.1 H)) k
    · subst e
      exact n0 (tree_call hc)
    · subst e
      exact n15 (status_call hc)
  obtain ⟨h, rfl⟩ : ∃ h, s0 = some h := by cases s0 with | none => cases e | some h => exact ⟨h, rfl⟩
  dsimp only
  have a4 := a3.trans g4
  refine s_ifs (W := W4) (et_test (ev_niG (rowCalls_sq T) (ev_var (d := .i call) rfl rfl))) g4.fh (fun e W5 g5 => ?_) (fun e W5 g5 => ?_)
  · have e : ¬ (call = 3 ∨ call = 4 ∨ call = 5 ∨ call = 6 ∨ call = 7 ∨ call = 8 ∨ call = 9 ∨ call = 14) := by
      simpa [rowCalls] using e
    dsimp only
    obtain ⟨W', eh, G, O', _, _, _⟩ := O.look (a4.trans g5)
    rw [← eh]
    show tMeth _ _ _ _ _ _ _ _ _ _
    refine m_call (W := W') rfl O'.ins (dkNames_no (by decide +kernel) _) O'.ok (ea_cons (ev_var (d := .i call) rfl rfl) (ea_cons (ev_var (Rep.mono G.ff _ _ rn) rfl) (ea_cons (ev_var (Rep.mono G.ff _ _ rl) rfl) ea_nil))) fun us W6 g6 ⟨u1, _, e1, k1, u2, _, e2, k2, u3, _, e3, k3, k4⟩ => ?_
    have k4 : _ = [] := k4
    have k1 : u1 = .int call := k1
    subst k4 k1 e3 e2 e1
    exact ⟨W6.f, d, h, call, ns, ls, c, u2, u3, rfl, O'.grow g6, k2, k3, hc, hrg, e, n0, n15, k.at (G.trans (g6.m _))⟩
  have hcall : call = 3 ∨ call = 4 ∨ call = 5 ∨ call = 6 ∨ call = 7 ∨ call = 8 ∨ call = 9 ∨ call = 14 := by
    have e : call ∈ rowCalls := by simpa using e
    unfold rowCalls at e
    simp only [List.mem_cons, List.not_mem_nil, or_false] at e
    exact e
  obtain ⟨num, l, rfl, hcc⟩ := row_call hc hcall
  have h0 := num_ok hrg hcc
  have a5 := a4.trans g5
  dsimp only
  refine s_set (W := W5) (ev_rowAt (num := num.toNat) O a5 rfl (ea_cons (ev_nsN (W := W5) (j := 0) (up a5 rn0) rfl rfl h0 ev_int) ea_nil)) g5.fh fun rv W6 g6 rr => ?_
  have rr : rv = rowV d.qs h.rows num.toNat := rr
  subst rr
  dsimp only
  have a6 := a5.trans g6
  rcases zip_find (num := num.toNat) (rows := h.rows) (qs := d.qs) (O.yes h rfl).2.2.1 with ⟨i, q, r, h1, h2, h3, h4, h5⟩ | ⟨h4, h5⟩
  · have hf : rowIn h num = some r := h4
    rw [h5]
    refine s_retIf (W := W6) (b := false) (et_test (ev_op (rv_isN (x := .ref q.a)) (ev_own rfl) ev_non)) a6.fh (fun e => by cases e) fun _ W7 g7 => ?_
    obtain ⟨W', eh, G, O', _, _, _⟩ := O.look (a6.trans g7)
    rw [← eh]
    refine m_call (W := W') rfl O'.ins (dkNames_no (by decide +kernel) _) O'.ok (ea_cons (ev_var (d := .i call) rfl rfl) (ea_cons (ev_own (v := .ref q.a) rfl) (ea_cons (ev_var (Rep.mono G.ff _ _ rl) rfl) ea_nil))) fun us W8 g8 ⟨u1, _, e1, k1, u2, _, e2, k2, u3, _, e3, k3, k4⟩ => ?_
    have k4 : _ = [] := k4
    have k1 : u1 = .int call := k1
    have k2 : u2 = .ref q.a := k2
    subst k4 k2 k1 e3 e2 e1
    exact ⟨W8.f, d, h, i, q, r, call, num, ls, c, u3, rfl, O'.grow g8, h1, h2, hf, k3, hc, hrg, hcall, k.at (G.trans (g8.m _))⟩
  · have hf : rowIn h num = none := h4
    rw [st_norow hf hcc] at k
    rw [h5]
    refine s_retIf (W := W6) (b := true) (et_test (ev_op (rv_isN (x := .non)) (ev_own rfl) ev_non)) a6.fh (fun _ W7 g7 => ?_) (fun e => by cases e)
    exact s_endLook O (a6.trans g7) (ev_listTop (ns := [-3]) (fun H => lst_of T (xt_parts T).2.2.2.2.2.1 H)) k
end
end Hm
end
section
set_option Elab.async false
set_option linter.all false
set_option maxRecDepth 100000
set_option maxHeartbeats 4000000
namespace Hm
open Vbjtah (callOf)
/-! ### plain: calls from one list of numbers -/
theorem whole_id (c : List (List Int)) : PyVbjtah.whole c = c := by
  unfold PyVbjtah.whole
  split <;> rfl
theorem asked_parts {ns : List Int} (h : PyVbjtah.answers_asked ns = true) : ∃ cs, PyFlat.calls PyVbjtah.shape ns.length ns = some cs ∧ (∀ c ∈ cs, VbjtahNeutral.asked1 c = true) ∧ PyVbjtah.answers ns = PyFlat.told (PyFlat.played VbjtahNeutral.step VbjtahNeutral.start cs) ∧ (PyVbjtah.answers ns).length ≤ 10000000 := by
  unfold PyVbjtah.answers_asked at h
  cases q : PyFlat.calls PyVbjtah.shape ns.length ns with
  | none =>
    rw [q] at h
    cases h
  | some cs =>
    rw [q] at h
    have h : (!cs.isEmpty && PyFlat.atMost 40 cs && PyInside.calls PyVbjtah.bound cs && VbjtahNeutral.asked (cs.map PyVbjtah.whole) && PyFlat.short 10000000 (PyVbjtah.answers ns)) = true := h
    have e : cs.map PyVbjtah.whole = cs := by
      have : PyVbjtah.whole = id := funext whole_id
      rw [this, List.map_id]
    rw [e] at h
    simp only [Bool.and_eq_true] at h
    obtain ⟨⟨⟨⟨h1, h2⟩, h3⟩, h4⟩, h5⟩ := h
    unfold VbjtahNeutral.asked at h4
    rw [Bool.and_eq_true] at h4
    refine ⟨cs, rfl, fun c hc => List.all_eq_true.mp h4.1 c hc, ?_, of_decide_eq_true h5⟩
    unfold PyVbjtah.answers PyVbjtah.calls
    rw [q]
    dsimp only
    rw [e]
theorem lim_len {l : List Int} (h : VbjtahNeutral.isListWithinLimits l = true) : l.length ≤ 1200 := by
  unfold VbjtahNeutral.isListWithinLimits at h
  rw [Bool.and_eq_true] at h
  exact of_decide_eq_true h.2
theorem asked1_ok {call : Int} {ns : List Int} {ls : List (List Int)} (h : VbjtahNeutral.asked1 ((call :: ns) :: ls) = true) : ∃ c, callOf ((call :: ns) :: ls) = some c ∧ ∀ l ∈ ls, l.length ≤ 1200 := by
  unfold VbjtahNeutral.asked1 at h
  split at h
  all_goals first
    | (exact absurd h (by decide))
    | (rename_i e; simp only [List.cons.injEq] at e; obtain ⟨⟨rfl, rfl⟩, rfl⟩ := e
       refine ⟨_, rfl, ?_⟩
       try simp only [Bool.and_eq_true] at h
       simp only [List.forall_mem_cons, List.not_mem_nil, false_implies, implies_true, and_true]
       first
         | done
         | exact lim_len h
         | exact lim_len h.2
         | exact ⟨lim_len h.2.1, lim_len h.2.2⟩
         | exact ⟨lim_len h.1, lim_len h.2.1, lim_len h.2.2⟩)
    | (rename_i e; simp only [List.cons.injEq] at e; obtain ⟨⟨rfl, rfl⟩, rfl⟩ := e
       exact ⟨_, rfl, by simp⟩)
theorem rows_step {k : Nat} {r : List Int} {ls : List (List Int)} {t : List Int} (h : PyFlat.rows (k + 1) r = some (ls, t)) : ∃ n rest xs, r = n :: rest ∧ 0 ≤ n ∧ n.toNat ≤ rest.length ∧ ls = rest.take n.toNat :: xs ∧ PyFlat.rows k (rest.drop n.toNat) = some (xs, t) := by
  unfold PyFlat.rows at h
  cases r with
  | nil => cases h
  | cons n rest =>
    unfold PyFlat.row at h
    dsimp only at h
    by_cases q : 0 ≤ n ∧ n.toNat ≤ rest.length
    · rw [if_pos q] at h
      dsimp only at h
      cases e : PyFlat.rows k (rest.drop n.toNat) with
      | none => rw [e] at h; cases h
      | some x =>
        rw [e] at h
        obtain ⟨xs, t2⟩ := x
        cases h
        exact ⟨n, rest, xs, rfl, q.1, q.2, rfl, e⟩
    · rw [if_neg q] at h
      cases h
theorem rows_drop : ∀ (k : Nat) (r : List Int) (ls : List (List Int)) (t : List Int), PyFlat.rows k r = some (ls, t) → ls.length = k ∧ ∃ j, j ≤ r.length ∧ t = r.drop j
  | 0, r, ls, t, h => by
    cases h
    exact ⟨rfl, 0, Nat.zero_le _, rfl⟩
  | k + 1, r, ls, t, h => by
    obtain ⟨n, rest, xs, rfl, h1, h2, rfl, h3⟩ := rows_step h
    obtain ⟨e, j, hj, ht⟩ := rows_drop k _ _ _ h3
    rw [List.length_drop] at hj
    refine ⟨by rw [List.length_cons, e], n.toNat + j + 1, by rw [List.length_cons]; omega, ?_⟩
    rw [ht, List.drop_drop, List.drop_succ_cons]
theorem calls_cons {shape : Int → Option (Nat × Nat)} {f : Nat} {p : Int} {r : List Int} {cs : List (List (List Int))} (h : PyFlat.calls shape f (p :: r) = some cs) : ∃ f' n k xs t cs', shape p = some (n, k) ∧ n ≤ r.length ∧ PyFlat.rows k (r.drop n) = some (xs, t) ∧ cs = ((p :: r.take n) :: xs) :: cs' ∧ PyFlat.calls shape f' t = some cs' := by
  cases f with
  | zero => cases h
  | succ f =>
    unfold PyFlat.calls at h
    unfold PyFlat.call at h
    dsimp only at h
    cases e1 : shape p with
    | none => rw [e1] at h; cases h
    | some nk =>
      obtain ⟨n, k⟩ := nk
      rw [e1] at h
      dsimp only at h
      by_cases q : r.length < n
      · rw [if_pos q] at h; cases h
      · rw [if_neg q] at h
        cases e2 : PyFlat.rows k (r.drop n) with
        | none => rw [e2] at h; cases h
        | some x =>
          obtain ⟨xs, t⟩ := x
          rw [e2] at h
          dsimp only at h
          cases e3 : PyFlat.calls shape f t with
          | none => rw [e3] at h; cases h
          | some cs' =>
            rw [e3] at h
            cases h
            exact ⟨f, n, k, xs, t, cs', rfl, by omega, e2, rfl, e3⟩
theorem calls_nil {shape : Int → Option (Nat × Nat)} {f : Nat} {cs : List (List (List Int))} (h : PyFlat.calls shape f [] = some cs) : cs = [] := by
  cases f <;> (cases h; rfl)
theorem told_cons (a : List Int) (r : List (List Int)) : PyFlat.told (a :: r) = (a.length : Int) :: (a ++ PyFlat.told r) := rfl
theorem step_rows {s : Vbjtah.State} {c : List (List Int)} {call : Vbjtah.Call} (h : callOf c = some call) : VbjtahNeutral.step s c = Vbjtah.step s call := by
  show (match callOf c with | none => _ | some call => Vbjtah.step s call) = _
  rw [h]
theorem drop_get {α : Type} {l : List α} {i : Nat} {x : α} {r : List α} (h : l.drop i = x :: r) : l[i]? = some x ∧ r = l.drop (i + 1) ∧ i < l.length := by
  have h1 : (l.drop i)[0]? = some x := by rw [h]; rfl
  rw [List.getElem?_drop, Nat.add_zero] at h1
  have h2 : (l.drop i).drop 1 = r := by rw [h]; rfl
  rw [List.drop_drop] at h2
  exact ⟨h1, h2.symm, (List.getElem?_eq_some_iff.mp h1).1⟩
theorem drop_inj {α : Type} {l : List α} {i j : Nat} (hi : i ≤ l.length) (hj : j ≤ l.length) (h : l.drop i = l.drop j) : i = j := by
  have := congrArg List.length h
  rw [List.length_drop, List.length_drop] at this
  omega
end Hm
end
section
set_option Elab.async false
set_option linter.all false
set_option maxRecDepth 100000
set_option maxHeartbeats 4000000
namespace Hm
open PySem PySem.Spec PyProof.Rows L2
open C8 (Cal Met Mak pe_c pe_mt pe_mt0 pe_mk pe_gc)
open Vbjtah (versionCount edgesOf isBelow distance)
/-! ### the keeper: lists from the numbers, answers -/
open Vbjtah (House argumentsInRange callOf)
theorem sqMono {K : PySem.W.Frag} {H H' : Hp} {a : Addr} {xs : List V} (h : SqL K H a xs) (e : Ex H H') : SqL K H' a xs := by
  rcases h with h | h
  · rcases h with h | ⟨ob, h⟩
    · exact .inl (.inl (e _ _ h))
    · exact .inl (.inr ⟨ob, e _ _ h⟩)
  · exact .inr h
theorem DeskO.away {K : PySem.W.Frag} {d : DA} {s : Option House} {W W' : Wd} {M : List Addr} (O : DeskO K d s W) (g : GrowM M W W') (hM : ∀ x ∈ d.M, x ∉ M) : DeskO K d s W' :=
  ⟨g.hm _ _ (hM _ List.mem_cons_self) O.ins, g.ff _ _ O.rows, O.no, fun h e => by
    obtain ⟨y1, y2, y3, y4⟩ := O.yes h e
    exact ⟨y1, Rep.mono g.ff _ _ y2, y3, fun i q r h1 h2 => (y4 i q r h1 h2).away g fun x hx => hM x (DA.subM (List.mem_of_getElem? h1) x hx)⟩, O.nd, g.fr _ O.nf (by rw [O.ins]; exact fun e => nomatch e), g.fh⟩
section
variable {K : PySem.W.Frag} {σ : L2.St} {W : Wd} {ta tb te : TE} {D0 : Ends} {a : Addr} {i : Nat}
theorem ev_lenS {xs : List V} (hi : σ[i]? = some (some (.ref a))) (hs : SqL K W.f a xs) : EvD (tCB (rLenK K) (tCons (tVar i) tNil)) σ W (dn xs.length) := fun W1 g Q q =>
  ⟨_, hi, a, xs, rfl, .inl (sqMono hs (g.ff.trans g.rf.fh)), q _ W1 g.rf rfl⟩
theorem ev_lenH {xs : List V} (hi : σ[i]? = some (some (.ref a))) (hp : W.h a = some (.lst xs)) : EvD (tCB (rLenK K) (tCons (tVar i) tNil)) σ W (dn xs.length) := fun W1 g Q q =>
  ⟨_, hi, a, xs, rfl, .inl (SqL.of (g.hh _ _ hp)), q _ W1 g.rf rfl⟩
theorem ev_ixS {ns : List Int} {j : Nat} {n : Int} (hi : σ[i]? = some (some (.ref a))) (hs : SqL K W.f a (ns.map V.int)) (hj : ns[j]? = some n) (hb : EvD tb σ W (dn j)) : EvD (tOp (rIxL K) (tVar i) tb) σ W (.i n) := fun W1 g Q q =>
  ⟨_, hi, hb W1 g _ fun y W2 g2 ry => ⟨a, ns.map V.int, (j : Int), .int n, rfl, ry, sqMono hs ((g.trans g2).ff.trans g2.fh), atI_nat (by rw [List.getElem?_map, hj]; rfl), q _ W2 g2 rfl⟩⟩
theorem cut_mid {ns : List Int} {lo n : Nat} (h : lo + n ≤ ns.length) : cutV (ns.map V.int) (some ((lo : Nat) : Int)) (some ((lo + n : Nat) : Int)) = ((ns.drop lo).take n).map V.int := by
  unfold cutV
  rw [List.length_map, HT.sIx_nat, HT.sIx_nat, Nat.min_eq_left (by omega), Nat.min_eq_left (by omega), Nat.add_sub_cancel_left, List.map_take, List.map_drop]
theorem ev_sliceS {tl th : TO} {ns : List Int} {lo n : Nat} (hi : σ[i]? = some (some (.ref a))) (hs : SqL K W.f a (ns.map V.int)) (h : lo + n ≤ ns.length) (hl : EvO tl σ W (some ((lo : Nat) : Int))) (hh : EvO th σ W (some ((lo + n : Nat) : Int))) : EvD (tSl (rSlL K) (tVar i) tl th) σ W (.l (((ns.drop lo).take n).map D.i)) := fun W1 g Q q =>
  ⟨_, hi, hl W1 g _ fun W3 g3 => hh W3 (g.trans g3) _ fun W4 g4 => ⟨a, ns.map V.int, rfl, sqMono hs ((g.trans (g3.trans g4)).ff.trans g4.fh), fun r hr => by
    rw [cut_mid h]
    exact q _ ⟨upd W4.f r (.lst (((ns.drop lo).take n).map V.int)), upd W4.h r (.lst (((ns.drop lo).take n).map V.int))⟩ ((g3.trans g4).trans (.new g4.fh hr)) ⟨r, _, rfl, upd_same, Reps.ints.mpr rfl⟩⟩⟩
theorem s_extH {j : Nat} {p q : Addr} {vs ws : List V} (hi : σ[i]? = some (some (.ref p))) (hj : σ[j]? = some (some (.ref q))) (hp : W.h p = some (.lst vs)) (hq : W.h q = some (.lst ws)) (hz : vs.length + ws.length ≤ 10000000) (k : D0.nx σ (upd W.h p (.lst (vs ++ ws)))) :
    tDrop (tBM K "list" rExtend (tVar i) (tCons (tVar j) tNil)) D0 σ W.h :=
  ⟨_, hi, .inl ⟨rfl, _, SqL.of hp⟩, _, hj, p, q, vs, ws, rfl, rfl, hp, hq, szLe hz, k⟩
/-- a, b = a pair that the text holds -/
theorem s_twoS {i1 i2 : Nat} {b : Addr} {v w : V} (h : EvD te σ W (.v (.ref b))) (hs : ∀ H, SqT K H b [v, w]) (ok : Ex W.f W.h) (k : ∀ W1, Grow W W1 → D0.nx ((σ.set i1 (some v)).set i2 (some w)) W1.h) :
    tAsg te (gTup K 2 (gCons (gName i1) (gCons (gName i2) gNil))) D0 σ W.h := h W (.refl ok) _ fun x W1 g e => by
  have e : x = .ref b := e
  subst e
  exact ⟨b, _, rfl, hs _, rfl, v, _, rfl, w, _, rfl, rfl, k W1 g⟩
theorem ev_ixG {b : Addr} {vs : List V} {j : Nat} {v : V} (hs : ∀ H, SqT K H b vs) (hj : vs[j]? = some v) (hb : EvD tb σ W (dn j)) : EvD (tOp (rIxT K) (tC (.ref b)) tb) σ W (.v v) := fun W1 g Q q =>
  hb W1 g _ fun y W2 g2 ry => ⟨b, vs, (j : Int), v, rfl, ry, hs _, atI_nat hj, q _ W2 g2 rfl⟩
end
theorem shape_at {p : Int} {n k : Nat} (h : PyVbjtah.shape p = some (n, k)) : 0 ≤ p ∧ p.toNat < 16 ∧ shapePairs.getD p.toNat (0, 0) = ((n : Int), (k : Int)) ∧ n ≤ 10 ∧ k ≤ 10 := by
  have gen : ∀ q : Nat, q < 16 → ∀ n k, PyVbjtah.shape (q : Int) = some (n, k) → shapePairs.getD q (0, 0) = ((n : Int), (k : Int)) ∧ n ≤ 10 ∧ k ≤ 10 := by
    intro q hq
    have : q = 0 ∨ q = 1 ∨ q = 2 ∨ q = 3 ∨ q = 4 ∨ q = 5 ∨ q = 6 ∨ q = 7 ∨ q = 8 ∨ q = 9 ∨ q = 10 ∨ q = 11 ∨ q = 12 ∨ q = 13 ∨ q = 14 ∨ q = 15 := by omega
    rcases this with e | e | e | e | e | e | e | e | e | e | e | e | e | e | e | e <;> subst e <;> (intro n k h2; have h2 : some _ = some (n, k) := h2; cases h2; exact ⟨rfl, by decide, by decide⟩)
  have rng : 0 ≤ p ∧ p ≤ 15 := by
    unfold PyVbjtah.shape at h
    by_cases q : 0 ≤ p ∧ p ≤ 15
    · exact q
    · exfalso
      repeat rw [if_neg (by omega)] at h
      cases h
  have e : ((p.toNat : Nat) : Int) = p := Int.toNat_of_nonneg rng.1
  have := gen p.toNat (by omega) n k (by rw [e]; exact h)
  exact ⟨rng.1, by omega, this⟩
section
variable {P : Program} {w : World} {K : PySem.W.Frag} {mg : Str → Option Value} {base : Heap}
abbrev sp_lists_from (K : PySem.W.Frag) : Sp := fun vs H Q _ => ∃ (Hf : Hp) (a : Addr) (ns : List Int) (at0 many after : Nat) (ls : List (List Int)), vs = [.ref a, vn at0, vn many] ∧ Ex Hf H ∧ SqL K Hf a (ns.map V.int) ∧ many ≤ 10 ∧ at0 ≤ ns.length ∧ after ≤ ns.length ∧ PyFlat.rows many (ns.drop at0) = some (ls, ns.drop after) ∧ ∀ r W', Grow ⟨Hf, H⟩ W' → Rep W'.f (.t [dLs ls, dn after]) r → Q r W'.h
theorem cal_lists_from (T : Top K mg) : Cal P w K mg base 1 "lists_from" (sp_lists_from K) [] :=
  calOf (F_lists_from T) (gf_lists_from T) sc_lists_from (fun _ _ _ _ _ _ us hl => match us, hl with | [_, _, _], _ => rfl) (fun _ _ _ _ h => by obtain ⟨_, _, _, _, _, _, _, rfl, _⟩ := h; rfl) fun cdv A outer s H vs Q E hr h => by
  obtain ⟨Hf, a, ns, at0, many, after, ls, rfl, ok, hs, hm, ha0, ha1, hr0, k⟩ := h
  refine ⟨_, (pss_cons (ps_set (i := 3) sc_lists_from.nd rfl (Or.inl rfl) (pe_lst pa_nil))
        (pss_cons (ps_for PassesOwn.never rfl (pi_range1 rfl (T_range T) (pa_cons (pv 2) pa_nil)) (pg_name (i := 4) sc_lists_from.nd rfl (Or.inl rfl))
        (pss_cons (ps_set (i := 5) sc_lists_from.nd rfl (Or.inl rfl) (pe_ix (ixL K rfl) (pv 0) (pv 1) (fun _ _ => rfl)))
        (pss_cons (ps_expr (pe_bm PySem.F.plainAttrs_list PySem.F.slot_list_append PySem.F.type_list_append mt_append (pv 3) (pa_cons (pe_slice (slL K rfl) (pv 0) (po_some (pe_op op_add (pv 1) pe_int)) (po_some (pe_op op_add (pe_op op_add (pv 1) pe_int) (pv 5)))) pa_nil)))
        (pss_one (ps_set (i := 1) sc_lists_from.nd rfl (Or.inl rfl) (pe_op op_add (pe_op op_add (pv 1) pe_int) (pv 5)))))))
        (pss_one (ps_ret (pe_tup (pa_cons (pv 3) (pa_cons (pv 1) pa_nil))))))), ?_⟩
  have hll := (rows_drop _ _ _ _ hr0).1
  refine s_nil (W := ⟨Hf, H⟩) ok fun p hp => ?_
  dsimp only
  have o1 := Own.start (.refl ok) hp
  refine s_forR (W := ⟨Hf, upd H p (.lst [])⟩) many (ea_cons (ev_var (d := dn many) rfl rfl) ea_nil) (by omega) o1.gr.fh fun W2 g2 => ⟨fun m σ' W' => ∃ (at1 : Nat) (x y : Option V), σ' = [some (V.ref a), some (vn at1), some (vn many), some (.ref p), x, y] ∧ Ex W2.f W'.f ∧ Own ⟨Hf, H⟩ p ((ls.take m).map fun l => D.l (l.map D.i)) W' ∧ at1 ≤ ns.length ∧ PyFlat.rows (many - m) (ns.drop at1) = some (ls.drop m, ns.drop after), ⟨at0, none, none, rfl, .refl _, by rw [List.take_zero]; exact o1.more g2, ha0, hr0⟩, ?_, ?_⟩
  · rintro m σ' W' hmm ⟨at1, x, y, rfl, xf, o3, h1, h2⟩
    obtain ⟨j, hj⟩ : ∃ j, many - m = j + 1 := ⟨many - m - 1, by omega⟩
    rw [hj] at h2
    obtain ⟨n, rest, xs, e1, n0, nl, e2, h3⟩ := rows_step h2
    obtain ⟨d1, d2, d3⟩ := drop_get e1
    obtain ⟨l1, l2, l3⟩ := drop_get (l := ls) (i := m) (x := rest.take n.toNat) (r := xs) e2
    have hsW : SqL K W'.f a (ns.map V.int) := sqMono hs o3.gr.ff
    have en : ((n.toNat : Nat) : Int) = n := Int.toNat_of_nonneg n0
    rw [d2, List.length_drop] at nl
    refine s_set (W := W') (d := dn n.toNat) (EvD.is (ev_ixS rfl hsW d1 (ev_var (d := dn at1) rfl rfl)) (congrArg D.i en.symm)) o3.gr.fh fun sz W3 g3 r3 => ?_
    have r3 : sz = vn n.toNat := r3
    subst r3
    dsimp only
    have o4 := o3.more g3
    refine s_appO (W := W3) o4 hp rfl (d := .l ((rest.take n.toNat).map D.i)) (EvD.is (ev_sliceS (lo := at1 + 1) (n := n.toNat) rfl (sqMono hsW g3.ff) (by omega) (eo_some (ev_op rv_addN (ev_var (d := dn at1) rfl rfl) (ev_nat (n := 1)))) (eo_some (ev_op rv_addN (ev_op rv_addN (ev_var (d := dn at1) rfl rfl) (ev_nat (n := 1))) (ev_var (d := dn n.toNat) rfl rfl)))) (by rw [d2])) (by rw [List.length_map, List.length_take]; omega) fun W4 o5 x5 => ?_
    dsimp only
    refine s_set (W := W4) (d := dn (at1 + 1 + n.toNat)) (ev_op rv_addN (ev_op rv_addN (ev_var (d := dn at1) rfl rfl) (ev_nat (n := 1))) (ev_var (d := dn n.toNat) rfl rfl)) o5.gr.fh fun v6 W5 g6 r6 => ?_
    have r6 : v6 = vn (at1 + 1 + n.toNat) := r6
    subst r6
    refine ⟨W5, rfl, at1 + 1 + n.toNat, _, _, rfl, xf.trans (g3.ff.trans (x5.trans g6.ff)), ?_, by omega, ?_⟩
    · rw [List.take_add_one, l1, List.map_append]
      exact o5.more g6
    · rw [show many - (m + 1) = j by omega, ← l2, ← h3, d2, List.drop_drop]
  · rintro σ' W' ⟨at1, x, y, rfl, xf, o3, h1, h2⟩
    rw [Nat.sub_self] at h2
    have e0 : (([] : List (List Int)), ns.drop at1) = (ls.drop many, ns.drop after) := Option.some.inj h2
    have e1 := drop_inj h1 ha1 (congrArg (fun z => z.2) e0)
    subst e1
    rw [List.take_of_length_le (by omega)] at o3
    obtain ⟨W2', e2, g2', r2, x2⟩ := o3.done hp
    dsimp only
    rw [← e2]
    exact s_ret (W := W2') (d := .t [dLs ls, dn at1]) (ev_tup (ea_cons (ev_var r2 rfl) (ea_cons (ev_var (d := dn at1) rfl rfl) ea_nil)) (by show 2 ≤ 10000000; decide)) g2'.fh fun v W3 g3 r3 => k v W3 (g2'.trans g3) r3
theorem ev_lists {σ : L2.St} {W : Wd} {a : Addr} {i : Nat} {t1 t2 : TE} {E : XK} {ns : List Int} {at0 many after : Nat} {ls : List (List Int)} (hi : σ[i]? = some (some (.ref a))) (hs : SqL K W.f a (ns.map V.int)) (hm : many ≤ 10) (ha0 : at0 ≤ ns.length) (ha1 : after ≤ ns.length) (hr : PyFlat.rows many (ns.drop at0) = some (ls, ns.drop after)) (h1 : EvD t1 σ W (dn at0)) (h2 : EvD t2 σ W (dn many)) : EvD (tCall (sp_lists_from K) [] E (tCons (tVar i) (tCons t1 (tCons t2 tNil)))) σ W (.t [dLs ls, dn after]) := fun W1 g Q q =>
  ⟨_, hi, h1 W1 g _ fun x W2 g2 rx => h2 W2 (g.trans g2) _ fun y W3 g3 ry => by
    have rx : x = vn at0 := rx
    have ry : y = vn many := ry
    subst rx ry
    exact ⟨W3.f, a, ns, at0, many, after, ls, by rw [List.append_nil], g3.fh, sqMono hs ((g.trans g2).trans g3).ff, hm, ha0, ha1, hr, fun r W' g' r' => q r W' ((g2.trans g3).trans g') r'⟩⟩
abbrev sp_answers (K : PySem.W.Frag) : Sp := fun vs H Q _ => ∃ (a : Addr) (ns : List Int), vs = [.ref a] ∧ SqL K H a (ns.map V.int) ∧ PyVbjtah.answers_asked ns = true ∧ ∀ p H', H' p = some (.lst ((PyVbjtah.answers ns).map V.int)) → Q (.ref p) H'
theorem bod_answers (T : Top K mg) (cdv : Value) (A : Around) (outer : List Env) (s : Shared) (H : Hp) (vs : List V) (Q : VK) (E : XK) (hr : Room 12 (A.deeper (envOfC "answers" (defScope s_answers) s.heap.objs.size (He.fAd K ("answers", none)) cdv))) (h : sp_answers K vs H Q E) :
    ∃ t, PSs (cxOf CX0 P w K mg base N_answers "answers" (defScope s_answers) (He.fAd K ("answers", none)) cdv A outer s H E).nox (defBody s_answers) t ∧ t { nx := fun _ H' => Q .non H', rt := Q } (start N_answers vs) H := by
  obtain ⟨a, ns, rfl, hs, hask, k⟩ := h
  refine ⟨_, (pss_cons (ps_par3 (i := 1) (j := 2) (l := 3) rfl sc_answers.nd rfl rfl rfl (by decide) (by decide) (by decide) rfl rfl rfl (pa_cons (pe_mk0 (mak_Desk T) hr (by decide) rfl) (pa_cons (pe_lst pa_nil) (pa_cons pe_int pa_nil))) rfl)
        (pss_cons (ps_while PassesOwn.never (pt_cmpR op_lt (pv 3) (pe_callB (lenK K rfl) rfl (T_len T) b_len (pa_cons (pv 0) pa_nil)) (nomark _))
        (pss_cons (ps_asg (pe_ix (ixT K rfl) (pe_gc rfl (g_SHAPES T)) (pe_ix (ixL K rfl) (pv 0) (pv 3) (fun _ _ => rfl)) (fun _ _ => rfl)) (pg_tupK K rfl rfl (pgs_cons (pg_name (i := 4) sc_answers.nd rfl (Or.inl rfl)) (pgs_cons (pg_name (i := 5) sc_answers.nd rfl (Or.inl rfl)) pgs_nil))))
        (pss_cons (ps_set (i := 6) sc_answers.nd rfl (Or.inl rfl) (pe_op op_add (pe_op op_add (pv 3) pe_int) (pv 4)))
        (pss_cons (ps_asg (pe_c (cal_lists_from T) hr (by decide) rfl (pa_cons (pv 0) (pa_cons (pv 6) (pa_cons (pv 5) pa_nil)))) (pg_tupK K rfl rfl (pgs_cons (pg_name (i := 7) sc_answers.nd rfl (Or.inl rfl)) (pgs_cons (pg_name (i := 8) sc_answers.nd rfl (Or.inl rfl)) pgs_nil))))
        (pss_cons (ps_set (i := 9) sc_answers.nd rfl (Or.inl rfl) (pe_mt (met_Desk_answer T) hr (by decide) (pv 1) (pa_cons (pe_ix (ixL K rfl) (pv 0) (pv 3) (fun _ _ => rfl)) (pa_cons (pe_slice (slL K rfl) (pv 0) (po_some (pe_op op_add (pv 3) pe_int)) (po_some (pv 6))) (pa_cons (pv 7) pa_nil)))))
        (pss_cons (ps_expr (pe_bm PySem.F.plainAttrs_list PySem.F.slot_list_append PySem.F.type_list_append mt_append (pv 2) (pa_cons (pe_callB (lenK K rfl) rfl (T_len T) b_len (pa_cons (pv 9) pa_nil)) pa_nil)))
        (pss_cons (ps_expr (pe_bm PySem.F.plainAttrs_list PySem.F.slot_list_extend PySem.F.type_list_extend mt_extend (pv 2) (pa_cons (pv 9) pa_nil)))
        (pss_one (ps_set (i := 3) sc_answers.nd rfl (Or.inl rfl) (pv 8))))))))))
        (pss_one (ps_ret (pv 2))))), ?_⟩
  obtain ⟨cs0, hcs0, hall0, htot, hlen⟩ := asked_parts hask
  obtain ⟨total, etot⟩ : ∃ total, PyVbjtah.answers ns = total := ⟨_, rfl⟩
  rw [etot] at htot hlen k
  intro a1 dx h1 h2 h3
  refine ⟨(), H, H, a1, dx, [], rfl, h1, h2, h3, rfl, .refl _, rfl, trivial, fun W1 ⟨g1, d, ea, O, fr⟩ => ⟨rfl, by show 0 ≤ sizeLine; decide, fun p hp => ⟨_, _, _, rfl, ?_⟩⟩⟩
  subst ea
  dsimp only
  have hpM : p ∉ d.M := fun hx => O.inM p hx hp
  have gM : GrowM [p] W1 ⟨W1.f, upd W1.h p (.lst [])⟩ := (Grow.own O.ok hp).m [p]
  have O1 : DeskO K d none ⟨W1.f, upd W1.h p (.lst [])⟩ := O.grow (.own O.ok hp)
  refine s_while (W := ⟨W1.f, upd W1.h p (.lst [])⟩) (fun m σ W => ∃ (at0 : Nat) (s : Option House) (d : DA) (cs : List (List (List Int))) (f : Nat) (fs : List Int) (x4 x5 x6 x7 x8 x9 : Option V), m = ns.length - at0 ∧ at0 ≤ ns.length ∧ σ = [some (V.ref a), some (.ref d.a), some (.ref p), some (vn at0), x4, x5, x6, x7, x8, x9] ∧ PyFlat.calls PyVbjtah.shape f (ns.drop at0) = some cs ∧ (∀ c ∈ cs, VbjtahNeutral.asked1 c = true) ∧ fs ++ PyFlat.told (PyFlat.played VbjtahNeutral.step s cs) = total ∧ W.h p = some (.lst (fs.map V.int)) ∧ W.f p = none ∧ p ∉ d.M ∧ DeskO K d s W ∧ SqL K W.f a (ns.map V.int)) ns.length ⟨0, none, d, cs0, ns.length, [], none, none, none, none, none, none, rfl, Nat.zero_le _, rfl, hcs0, hall0, htot.symm, upd_same, none_of O.ok hp, hpM, O1, sqMono hs g1.ff⟩ ?_
  rintro m σ' W ⟨at0, s0, d, cs, f, fs, x4, x5, x6, x7, x8, x9, rfl, hat, rfl, hcs, hall, htot, hpW, hpf, hpM, O, hs⟩
  refine ⟨decide (at0 < ns.length), et_test (EvD.is (ev_op rv_ltN (ev_var (d := dn at0) rfl rfl) (EvD.is (ev_lenS rfl hs) (by rw [List.length_map]))) rfl), O.ok, fun e W1 g1 => ?_, fun e W1 g1 => ?_⟩
  · have e : at0 < ns.length := of_decide_eq_true e
    obtain ⟨pc, r, er⟩ : ∃ pc r, ns.drop at0 = pc :: r := ⟨ns[at0], ns.drop (at0 + 1), List.drop_eq_getElem_cons e⟩
    obtain ⟨e1, e2, _⟩ := drop_get er
    rw [er] at hcs
    obtain ⟨f', n, kk, xs, t, cs', hsh, hn, hrows, rfl, hcs'⟩ := calls_cons hcs
    obtain ⟨sh0, sh1, sh2, sh3, sh4⟩ := shape_at hsh
    obtain ⟨j, hj, ht⟩ := (rows_drop _ _ _ _ hrows).2
    rw [List.length_drop, e2, List.length_drop] at hj
    rw [e2, List.length_drop] at hn
    obtain ⟨behind, eb⟩ : ∃ behind, behind = at0 + 1 + n := ⟨_, rfl⟩
    obtain ⟨after, eaf⟩ : ∃ after, after = behind + j := ⟨_, rfl⟩
    have ed : (ns.drop (at0 + 1)).drop n = ns.drop behind := by rw [List.drop_drop, eb]
    have ht : t = ns.drop after := by rw [ht, e2, ed, List.drop_drop, eaf]
    rw [e2, ed, ht] at hrows
    have haf : after ≤ ns.length := by omega
    have hbe : behind ≤ ns.length := by omega
    obtain ⟨c, hc, hls⟩ := asked1_ok (hall _ List.mem_cons_self)
    have O1 := O.grow g1
    have hs1 := sqMono hs g1.ff
    have en : ((pc.toNat : Nat) : Int) = pc := Int.toNat_of_nonneg sh0
    have xtp := (xt_parts T).2.1 pc.toNat sh1
    rw [sh2] at xtp
    have hSH : ∀ H, SqT K H (He.ga K "SHAPES") ((List.range 16).map fun i => V.ref (shapeAt i)) := fun H => by
      have := He.tupB_ok (xt_parts T).1 H
      rw [List.map_map] at this
      exact this
    refine s_twoS (W := W1) (ev_ixG hSH (j := pc.toNat) (by rw [List.getElem?_map, List.getElem?_range sh1]; rfl) (EvD.is (ev_ixS rfl hs1 e1 (ev_var (d := dn at0) rfl rfl)) (congrArg D.i en.symm))) (fun H => tupA_ok xtp H) O1.ok fun W2 g2 => ?_
    dsimp only
    have hs2 := sqMono hs1 g2.ff
    refine s_set (W := W2) (d := dn behind) (EvD.is (ev_op rv_addN (ev_op rv_addN (ev_var (d := dn at0) rfl rfl) (ev_nat (n := 1))) (ev_var (d := dn n) rfl rfl)) (by rw [eb])) g2.fh fun v6 W3 g3 r6 => ?_
    have r6 : v6 = vn behind := r6
    subst r6
    dsimp only
    have hs3 := sqMono hs2 g3.ff
    refine s_two (W := W3) (ev_lists (ns := ns) (at0 := behind) (many := kk) (after := after) (ls := xs) rfl hs3 sh4 hbe haf hrows (ev_var (d := dn behind) rfl rfl) (ev_var (d := dn kk) rfl rfl)) g3.fh fun v7 v8 W4 g4 r7 r8 => ?_
    have r8 : v8 = vn after := r8
    subst r8
    dsimp only
    have hs4 := sqMono hs3 g4.ff
    have O4 := ((O1.grow g2).grow g3).grow g4
    have g14 := ((g1.trans g2).trans g3).trans g4
    refine m_call (W := W4) rfl O4.ins (dkNames_no (by decide +kernel) _) O4.ok (ea_cons (ev_ixS rfl hs4 e1 (ev_var (d := dn at0) rfl rfl)) (ea_cons (ev_sliceS (lo := at0 + 1) (n := n) rfl hs4 (by omega) (eo_some (ev_op rv_addN (ev_var (d := dn at0) rfl rfl) (ev_nat (n := 1)))) (eo_some (EvD.is (ev_var (d := dn behind) rfl rfl) (by rw [eb])))) (ea_cons (ev_var r7 rfl) ea_nil))) fun us W5 g5 ⟨u1, _, i1, k1, u2, _, i2, k2, u3, _, i3, k3, k4⟩ => ?_
    have k4 : _ = [] := k4
    have k1 : u1 = .int pc := k1
    subst k4 k1 i3 i2 i1
    refine ⟨W5.f, d, s0, pc, r.take n, xs, c, u2, u3, rfl, O4.grow g5, by rw [e2]; exact k2, k3, hc, hls, fun rv W6 d' G6 ed' O6 f6 gr6 => ?_⟩
    obtain ⟨rp, erp, hrp, hrn⟩ := gr6
    subst erp
    rw [← step_rows hc] at hrp O6
    obtain ⟨st, est⟩ : ∃ st, VbjtahNeutral.step s0 ((pc :: r.take n) :: xs) = st := ⟨_, rfl⟩
    have htot2 : fs ++ ((st.2.length : Int) :: (st.2 ++ PyFlat.told (PyFlat.played VbjtahNeutral.step st.1 cs'))) = total := by
      rw [← htot, ← est]
      rfl
    rw [est] at hrp O6
    have hp5 : W5.h p = some (.lst (fs.map V.int)) := (g14.trans g5).hh _ _ hpW
    have hf5 : W5.f p = none := (g14.trans g5).fr _ hpf (by rw [hpW]; exact fun e => nomatch e)
    have hp6 : W6.h p = some (.lst (fs.map V.int)) := G6.hm _ _ hpM hp5
    have hf6 : W6.f p = none := G6.fr _ hf5 (by rw [hp5]; exact fun e => nomatch e)
    have hrpp : rp ≠ p := hrn p hf5 (by rw [hp5]; exact fun e => nomatch e) hpM
    have hpM6 : p ∉ d'.M := fun hx => by
      rcases f6 p hx with q | q
      · exact hpM q
      · have q : W5.h p = none := q
        rw [hp5] at q
        cases q
    have hs6 := sqMono (sqMono hs4 g5.ff) G6.ff
    have ltot := congrArg List.length htot2
    rw [List.length_append, List.length_cons, List.length_append] at ltot
    dsimp only
    refine s_app (W := W6) (d := dn (st.2.map V.int).length) (ev_lenH rfl hrp) O6.ok rfl hp6 (by rw [List.length_map]; omega) fun v9 W7 g7 r9 => ?_
    have r9 : v9 = vn (st.2.map V.int).length := r9
    subst r9
    dsimp only
    have hf7 : W7.f p = none := g7.fr _ hf6 (by rw [hp6]; exact fun e => nomatch e)
    have O7 := O6.grow g7
    obtain ⟨vs7, ev7⟩ : ∃ vs7, vs7 = fs.map V.int ++ [vn (st.2.map V.int).length] := ⟨_, rfl⟩
    rw [← ev7]
    have hq7 : upd W7.h p (.lst vs7) rp = some (.lst (st.2.map V.int)) := by
      rw [upd_ne hrpp]
      exact g7.hh _ _ hrp
    refine s_extH (W := ⟨W7.f, upd W7.h p (.lst vs7)⟩) (q := rp) rfl rfl upd_same hq7 (by rw [ev7, List.length_append, List.length_map, List.length_map]; show fs.length + 1 + _ ≤ _; omega) ?_
    dsimp only
    have up2 : upd (upd W7.h p (.lst vs7)) p (.lst (vs7 ++ st.2.map V.int)) = upd W7.h p (.lst (vs7 ++ st.2.map V.int)) := funext fun x => by
      by_cases q : x = p
      · subst q; rw [upd_same, upd_same]
      · rw [upd_ne q, upd_ne q, upd_ne q]
    rw [up2]
    have gS : GrowM [p] W7 ⟨W7.f, upd W7.h p (.lst (vs7 ++ st.2.map V.int))⟩ := (GrowM.refl O7.ok).set List.mem_cons_self hf7
    have O8 : DeskO K d' st.1 ⟨W7.f, upd W7.h p (.lst (vs7 ++ st.2.map V.int))⟩ := O7.away gS fun x hx hx2 => hpM6 (by rw [← List.mem_singleton.mp hx2]; exact hx)
    refine s_set (W := ⟨W7.f, upd W7.h p (.lst (vs7 ++ st.2.map V.int))⟩) (d := dn after) (ev_var (d := dn after) rfl rfl) O8.ok fun v10 W8 g8 r10 => ?_
    have r10 : v10 = vn after := r10
    subst r10
    rw [← ed']
    refine ⟨W8, rfl, ns.length - after, by omega, after, st.1, d', cs', f', fs ++ (st.2.length : Int) :: st.2, _, _, _, _, _, _, rfl, haf, rfl, by rw [← ht]; exact hcs', fun c hc => hall c (List.mem_cons_of_mem _ hc), ?_, ?_, ?_, hpM6, O8.grow g8, sqMono (sqMono hs6 g7.ff) g8.ff⟩
    · rw [← htot2, List.append_assoc]
      rfl
    · rw [g8.hh _ _ upd_same, ev7, List.map_append, List.append_assoc, List.length_map]
      rfl
    · exact g8.fr _ hf7 (by show upd W7.h p _ p ≠ none; rw [upd_same]; exact fun e => nomatch e)
  · have e : ¬ at0 < ns.length := of_decide_eq_false e
    rw [List.drop_of_length_le (by omega)] at hcs
    have := calls_nil hcs
    subst this
    have htot : fs ++ [] = total := htot
    rw [List.append_nil] at htot
    subst htot
    refine ⟨_, rfl, ?_⟩
    exact k p W1.h (g1.hh _ _ hpW)
/-- the def's promise at every base -/
theorem fn_answers (T : Top K mg) {fa : Addr} (hmg : mg "answers" = some (.ref fa)) :
    ∃ fd : FuncData, (∀ (s : Shared) (us : List Value), us.length = (["calls"] : List Str).length → BindsTo s fd ⟨us, []⟩ ((["calls"] : List Str).zip us)) ∧
      ∀ base : Heap, FnOk P w K mg base CX0 13 fa fd ["calls"] (sp_answers K) := by
  obtain ⟨fd, F⟩ := F_answers T
  have e := hmg.symm.trans (gf_answers T)
  cases e
  exact ⟨fd, fun s us hl => F.bindsA (fun _ _ _ _ _ _ us hl => match us, hl with | [_], _ => rfl) s us hl, fun base => F.ok sc_answers (fun _ _ _ _ h => by obtain ⟨_, _, rfl, _⟩ := h; rfl) fun cdv A outer s H vs Q E hr h => let ⟨t, h1, h2⟩ := bod_answers (P := P) (w := w) (base := base) T cdv A outer s H vs Q E hr h; ⟨t, h1.nox, h2⟩⟩
end
end Hm
end
set_option Elab.async false
set_option linter.all false
set_option maxRecDepth 100000
set_option maxHeartbeats 0
open PySem PySem.W PySem.Calls PyProof.Rows
set_option maxRecDepth 100000 in
set_option maxHeartbeats 0 in
theorem PySem.Challenge.cw_homemoves_s01_answers_holds : PySem.Challenge.rw_homemoves_s01_answers.Holds := by
  refine HandSHeadRun.head_spec (r := PySem.Challenge.rw_homemoves_s01_answers) (q := view PySem.Challenge.rw_homemoves_s01_answers.prog [99]) (H := Hm.hkX) (ob := Hm.ob) (M := 9000) (loose := Hm.names) (d := HandSHeadRun.topDef PySem.Challenge.rw_homemoves_s01_answers.prog 99) (kwd := []) Hm.ob_eq
    (by kernel_rfl) (fun s => by kernel_rfl) Hm.run (by kernel_rfl) (by kernel_rfl) (by kernel_rfl) os_shapes (by decide +kernel) (by decide +kernel) ⟨rfl, rfl, rfl, rfl, rfl, by decide +kernel⟩ ?hw ?hc
  case hw => exact ⟨[.list [.int 15]], by decide +kernel, by decide +kernel⟩
  case hc =>
    intro w s0 s1 mg mb G ⟨K, KX, hx, hs⟩
    refine L2.walk_spec (K := fun _ => K) (YP := fun _ h => K.In h) (k := 13) (CX := fun _ => L2.CX0) (ps := ["calls"]) (sp := fun _ => Hm.sp_answers K) (by decide +kernel) (by kernel_rfl) rfl ⟨rfl, by decide, by decide⟩ (fun _ _ Y => Y) ?F ?S (fun _ _ _ _ _ z => z) w s0 s1 mg mb G KX
    case F =>
      intro w2 mg2 fa h Y _ G2 hmg0
      have hmg : mg2 ("answers" : PySem.Str) = some (.ref fa) := by
        have e : (HandSHeadRun.topDef PySem.Challenge.rw_homemoves_s01_answers.prog 99).name = ("answers" : PySem.Str) := by kernel_rfl
        rw [← e]
        exact hmg0
      obtain ⟨fd, hb, hF⟩ := Hm.fn_answers (P := PySem.Challenge.rw_homemoves_s01_answers.prog) (w := w2) ⟨hs, hx, h, Y, G2⟩ hmg
      exact ⟨fd, hb, fun base _ _ => hF base⟩
    case S =>
      intro _ H xs a _ _ hask hargs
      cases hargs with
      | cons h1 h2 =>
        cases h2
        cases h1 with
        | lst hsq ha =>
          cases L2.ints_dw a.1 _ ha
          exact ⟨_, a.1, rfl, hsq, hask, fun p H' hp => .lst (L2.SqL.of hp) (L2.dw_ints _)⟩
#print axioms PySem.Challenge.cw_homemoves_s01_answers_holds
