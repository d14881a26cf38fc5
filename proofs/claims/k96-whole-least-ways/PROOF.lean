import PyProof.Rows.All
import Wide.All
import OpenK.AllK
import Wide.FinOn
import HandS.ForMost
import HandS.Defaults
import HandS.HeadEnd
import HandS.HeadHook1
import HandS.HeadHook2
import HandS.Head0
import HandS.Head1
import HandS.Head2
import HandS.Deep
import HandS.TryOnly
import KE.KDictDisplayH
import HandS.TupAny
import HandS.TupLe
import HandS.SortOrd
import HandS.SortRule
import HandS.SortKw
import HandS.Conv
import HandS.DictComp
import HandS.Zip
import HandS.IsInst
import HandS.SetFor
import HandS.Lambda
import HandS.EndTab
import HandS.HeadWalk
import KE.KeyNested
import KE.KDictKeyed
import KE.KDictWalk
import KE.KSortKeySt
import HandS.HeadHook4
import KE.GoesMore
import KE.KDictCopyH
import KE.KLam
import HandS.Iter
import PySem.Challenge.RW_eightworlds_k96_whole_least_ways_and_the
set_option Elab.async false
set_option linter.all false
set_option maxRecDepth 100000
set_option maxHeartbeats 0
namespace EW
open PySem PySem.Spec PyProof.Rows L2
def top (i : Nat) : Stmt := PySem.Challenge.pw_eightworlds_k96_whole_least_ways_and_the.main.body.getD i (.Pass ⟨0, 0, 0, 0⟩)
abbrev s_is_whole : Stmt := top 14
abbrev s_are_next : Stmt := top 15
abbrev s_fits_cut : Stmt := top 16
abbrev s_cross : Stmt := top 17
abbrev s_rises : Stmt := top 18
abbrev s_fits_cutting : Stmt := top 19
abbrev s_all_ties : Stmt := top 20
abbrev s_near_of : Stmt := top 21
abbrev s_thirds_of : Stmt := top 22
abbrev s_need_cutting : Stmt := top 23
abbrev s_need_corner : Stmt := top 24
abbrev s_need_cut : Stmt := top 25
abbrev s_need_sides : Stmt := top 26
abbrev s_need_number : Stmt := top 27
abbrev s_need_few : Stmt := top 28
abbrev s_cut_for : Stmt := top 30
abbrev s_with_cut : Stmt := top 31
abbrev s_swapped_at : Stmt := top 32
abbrev s_exchanged : Stmt := top 33
abbrev s_tree_size : Stmt := top 36
abbrev s_fits_tree : Stmt := top 37
abbrev s_fork_count : Stmt := top 38
abbrev s_tree_between : Stmt := top 39
abbrev s_tree_cuts : Stmt := top 40
abbrev s_cutting_by : Stmt := top 41
abbrev s_reaches_of : Stmt := top 42
abbrev s_need_tree : Stmt := top 43
abbrev s_need_pair : Stmt := top 44
abbrev s_need_fork : Stmt := top 45
abbrev s_need_small_cutting : Stmt := top 46
abbrev s_tree_of : Stmt := top 47
abbrev s_tree_cutting : Stmt := top 48
abbrev s_reaches : Stmt := top 49
abbrev s_can_turn : Stmt := top 51
abbrev s_turned_once : Stmt := top 52
abbrev s_lies_below : Stmt := top 53
abbrev s_steps_up : Stmt := top 54
abbrev s_fork_between : Stmt := top 55
abbrev s_fork_turned : Stmt := top 56
abbrev s_is_below : Stmt := top 57
abbrev s_way_up : Stmt := top 58
abbrev s_turned_fork : Stmt := top 59
abbrev s_way_steps : Stmt := top 62
abbrev s_type_is_whole : Stmt := top 63
abbrev s_leads_to : Stmt := top 64
abbrev s_need_two : Stmt := top 65
abbrev s_need_way : Stmt := top 66
abbrev s_behind_way : Stmt := top 67
abbrev s_far_from_fan : Stmt := top 68
abbrev s_cuts_of_both : Stmt := top 70
abbrev s_split_by : Stmt := top 71
abbrev s_fields_by : Stmt := top 72
abbrev s_fields_of : Stmt := top 73
abbrev s_piece_within : Stmt := top 74
abbrev s_nexts_of : Stmt := top 77
abbrev s_reach_from : Stmt := top 78
abbrev s_back_from : Stmt := top 79
abbrev s_pairs_within : Stmt := top 80
abbrev s_bringing : Stmt := top 81
abbrev s_way_in : Stmt := top 82
abbrev s_need_fields : Stmt := top 83
abbrev s_fewest_exchanges : Stmt := top 84
abbrev s_is_least_way : Stmt := top 85
abbrev s_catalan : Stmt := top 87
abbrev s_count_cuttings : Stmt := top 88
abbrev s_fars_of : Stmt := top 91
abbrev s_layers : Stmt := top 92
abbrev s_ranks_between : Stmt := top 95
abbrev s_passed_by : Stmt := top 96
abbrev s_depth_sum : Stmt := top 97
abbrev s_need_few_forks : Stmt := top 98
abbrev s_comb_tree : Stmt := top 99
abbrev s_fewest_up : Stmt := top 100
abbrev s_least_tree : Stmt := top 101
abbrev s_greatest_tree : Stmt := top 102
abbrev s__law_source : Stmt := top 104
abbrev s__law_pick : Stmt := top 105
abbrev s__law_cuts : Stmt := top 106
abbrev s__law_cutting : Stmt := top 107
abbrev s__law_joined : Stmt := top 108
abbrev s__law_pieces : Stmt := top 109
abbrev s__law_counts : Stmt := top 110
abbrev s__law_shown : Stmt := top 111
abbrev s__law_up_right : Stmt := top 112
abbrev s__law_fans_right : Stmt := top 113
abbrev s_law : Stmt := top 114
end EW

set_option Elab.async false
set_option linter.all false
set_option maxRecDepth 100000
set_option maxHeartbeats 0
namespace EW
open PySem PySem.Spec PyProof.Rows L2
def d_is_whole : He.DefD := ⟨("is_whole", none), "is_whole", "is_whole", defArgs s_is_whole, defBody s_is_whole, defScope s_is_whole, [], []⟩
def d_are_next : He.DefD := ⟨("are_next", none), "are_next", "are_next", defArgs s_are_next, defBody s_are_next, defScope s_are_next, [], []⟩
def d_fits_cut : He.DefD := ⟨("fits_cut", none), "fits_cut", "fits_cut", defArgs s_fits_cut, defBody s_fits_cut, defScope s_fits_cut, [], []⟩
def d_cross : He.DefD := ⟨("cross", none), "cross", "cross", defArgs s_cross, defBody s_cross, defScope s_cross, [], []⟩
def d_rises : He.DefD := ⟨("rises", none), "rises", "rises", defArgs s_rises, defBody s_rises, defScope s_rises, [], []⟩
def d_fits_cutting : He.DefD := ⟨("fits_cutting", none), "fits_cutting", "fits_cutting", defArgs s_fits_cutting, defBody s_fits_cutting, defScope s_fits_cutting, [], []⟩
def d_all_ties : He.DefD := ⟨("all_ties", none), "all_ties", "all_ties", defArgs s_all_ties, defBody s_all_ties, defScope s_all_ties, [], []⟩
def d_near_of : He.DefD := ⟨("near_of", none), "near_of", "near_of", defArgs s_near_of, defBody s_near_of, defScope s_near_of, [], []⟩
def d_thirds_of : He.DefD := ⟨("thirds_of", none), "thirds_of", "thirds_of", defArgs s_thirds_of, defBody s_thirds_of, defScope s_thirds_of, [], []⟩
def d_need_cutting : He.DefD := ⟨("need_cutting", none), "need_cutting", "need_cutting", defArgs s_need_cutting, defBody s_need_cutting, defScope s_need_cutting, [], []⟩
def d_need_corner : He.DefD := ⟨("need_corner", none), "need_corner", "need_corner", defArgs s_need_corner, defBody s_need_corner, defScope s_need_corner, [], []⟩
def d_need_cut : He.DefD := ⟨("need_cut", none), "need_cut", "need_cut", defArgs s_need_cut, defBody s_need_cut, defScope s_need_cut, [], []⟩
def d_need_sides : He.DefD := ⟨("need_sides", none), "need_sides", "need_sides", defArgs s_need_sides, defBody s_need_sides, defScope s_need_sides, [], []⟩
def d_need_number : He.DefD := ⟨("need_number", none), "need_number", "need_number", defArgs s_need_number, defBody s_need_number, defScope s_need_number, [], []⟩
def d_need_few : He.DefD := ⟨("need_few", none), "need_few", "need_few", defArgs s_need_few, defBody s_need_few, defScope s_need_few, [], []⟩
def d_cut_for : He.DefD := ⟨("cut_for", none), "cut_for", "cut_for", defArgs s_cut_for, defBody s_cut_for, defScope s_cut_for, [], []⟩
def d_with_cut : He.DefD := ⟨("with_cut", none), "with_cut", "with_cut", defArgs s_with_cut, defBody s_with_cut, defScope s_with_cut, [], []⟩
def d_swapped_at : He.DefD := ⟨("swapped_at", none), "swapped_at", "swapped_at", defArgs s_swapped_at, defBody s_swapped_at, defScope s_swapped_at, [], []⟩
def d_exchanged : He.DefD := ⟨("exchanged", none), "exchanged", "exchanged", defArgs s_exchanged, defBody s_exchanged, defScope s_exchanged, [], []⟩
def d_tree_size : He.DefD := ⟨("tree_size", none), "tree_size", "tree_size", defArgs s_tree_size, defBody s_tree_size, defScope s_tree_size, [], []⟩
def d_fits_tree : He.DefD := ⟨("fits_tree", none), "fits_tree", "fits_tree", defArgs s_fits_tree, defBody s_fits_tree, defScope s_fits_tree, [], []⟩
def d_fork_count : He.DefD := ⟨("fork_count", none), "fork_count", "fork_count", defArgs s_fork_count, defBody s_fork_count, defScope s_fork_count, [], []⟩
def d_tree_between : He.DefD := ⟨("tree_between", none), "tree_between", "tree_between", defArgs s_tree_between, defBody s_tree_between, defScope s_tree_between, [], []⟩
def d_tree_cuts : He.DefD := ⟨("tree_cuts", none), "tree_cuts", "tree_cuts", defArgs s_tree_cuts, defBody s_tree_cuts, defScope s_tree_cuts, [], []⟩
def d_cutting_by : He.DefD := ⟨("cutting_by", none), "cutting_by", "cutting_by", defArgs s_cutting_by, defBody s_cutting_by, defScope s_cutting_by, [], []⟩
def d_reaches_of : He.DefD := ⟨("reaches_of", none), "reaches_of", "reaches_of", defArgs s_reaches_of, defBody s_reaches_of, defScope s_reaches_of, [], []⟩
def d_need_tree : He.DefD := ⟨("need_tree", none), "need_tree", "need_tree", defArgs s_need_tree, defBody s_need_tree, defScope s_need_tree, [], []⟩
def d_need_pair : He.DefD := ⟨("need_pair", none), "need_pair", "need_pair", defArgs s_need_pair, defBody s_need_pair, defScope s_need_pair, [], []⟩
def d_need_fork : He.DefD := ⟨("need_fork", none), "need_fork", "need_fork", defArgs s_need_fork, defBody s_need_fork, defScope s_need_fork, [], []⟩
def d_need_small_cutting : He.DefD := ⟨("need_small_cutting", none), "need_small_cutting", "need_small_cutting", defArgs s_need_small_cutting, defBody s_need_small_cutting, defScope s_need_small_cutting, [], []⟩
def d_tree_of : He.DefD := ⟨("tree_of", none), "tree_of", "tree_of", defArgs s_tree_of, defBody s_tree_of, defScope s_tree_of, [], []⟩
def d_tree_cutting : He.DefD := ⟨("tree_cutting", none), "tree_cutting", "tree_cutting", defArgs s_tree_cutting, defBody s_tree_cutting, defScope s_tree_cutting, [], []⟩
def d_reaches : He.DefD := ⟨("reaches", none), "reaches", "reaches", defArgs s_reaches, defBody s_reaches, defScope s_reaches, [], []⟩
def d_can_turn : He.DefD := ⟨("can_turn", none), "can_turn", "can_turn", defArgs s_can_turn, defBody s_can_turn, defScope s_can_turn, [], []⟩
def d_turned_once : He.DefD := ⟨("turned_once", none), "turned_once", "turned_once", defArgs s_turned_once, defBody s_turned_once, defScope s_turned_once, [], []⟩
def d_lies_below : He.DefD := ⟨("lies_below", none), "lies_below", "lies_below", defArgs s_lies_below, defBody s_lies_below, defScope s_lies_below, [], []⟩
def d_steps_up : He.DefD := ⟨("steps_up", none), "steps_up", "steps_up", defArgs s_steps_up, defBody s_steps_up, defScope s_steps_up, [], []⟩
def d_fork_between : He.DefD := ⟨("fork_between", none), "fork_between", "fork_between", defArgs s_fork_between, defBody s_fork_between, defScope s_fork_between, [], []⟩
def d_fork_turned : He.DefD := ⟨("fork_turned", none), "fork_turned", "fork_turned", defArgs s_fork_turned, defBody s_fork_turned, defScope s_fork_turned, [], []⟩
def d_is_below : He.DefD := ⟨("is_below", none), "is_below", "is_below", defArgs s_is_below, defBody s_is_below, defScope s_is_below, [], []⟩
def d_way_up : He.DefD := ⟨("way_up", none), "way_up", "way_up", defArgs s_way_up, defBody s_way_up, defScope s_way_up, [], []⟩
def d_turned_fork : He.DefD := ⟨("turned_fork", none), "turned_fork", "turned_fork", defArgs s_turned_fork, defBody s_turned_fork, defScope s_turned_fork, [], []⟩
def d_way_steps : He.DefD := ⟨("way_steps", none), "way_steps", "way_steps", defArgs s_way_steps, defBody s_way_steps, defScope s_way_steps, [], []⟩
def d_type_is_whole : He.DefD := ⟨("type_is_whole", none), "type_is_whole", "type_is_whole", defArgs s_type_is_whole, defBody s_type_is_whole, defScope s_type_is_whole, [], []⟩
def d_leads_to : He.DefD := ⟨("leads_to", none), "leads_to", "leads_to", defArgs s_leads_to, defBody s_leads_to, defScope s_leads_to, [], []⟩
def d_need_two : He.DefD := ⟨("need_two", none), "need_two", "need_two", defArgs s_need_two, defBody s_need_two, defScope s_need_two, [], []⟩
def d_need_way : He.DefD := ⟨("need_way", none), "need_way", "need_way", defArgs s_need_way, defBody s_need_way, defScope s_need_way, [], []⟩
def d_behind_way : He.DefD := ⟨("behind_way", none), "behind_way", "behind_way", defArgs s_behind_way, defBody s_behind_way, defScope s_behind_way, [], []⟩
def d_far_from_fan : He.DefD := ⟨("far_from_fan", none), "far_from_fan", "far_from_fan", defArgs s_far_from_fan, defBody s_far_from_fan, defScope s_far_from_fan, [], []⟩
def d_cuts_of_both : He.DefD := ⟨("cuts_of_both", none), "cuts_of_both", "cuts_of_both", defArgs s_cuts_of_both, defBody s_cuts_of_both, defScope s_cuts_of_both, [], []⟩
def d_split_by : He.DefD := ⟨("split_by", none), "split_by", "split_by", defArgs s_split_by, defBody s_split_by, defScope s_split_by, [], []⟩
def d_fields_by : He.DefD := ⟨("fields_by", none), "fields_by", "fields_by", defArgs s_fields_by, defBody s_fields_by, defScope s_fields_by, [], []⟩
def d_fields_of : He.DefD := ⟨("fields_of", none), "fields_of", "fields_of", defArgs s_fields_of, defBody s_fields_of, defScope s_fields_of, [], []⟩
def d_piece_within : He.DefD := ⟨("piece_within", none), "piece_within", "piece_within", defArgs s_piece_within, defBody s_piece_within, defScope s_piece_within, [], []⟩
def d_nexts_of : He.DefD := ⟨("nexts_of", none), "nexts_of", "nexts_of", defArgs s_nexts_of, defBody s_nexts_of, defScope s_nexts_of, [], []⟩
def d_reach_from : He.DefD := ⟨("reach_from", none), "reach_from", "reach_from", defArgs s_reach_from, defBody s_reach_from, defScope s_reach_from, [], []⟩
def d_back_from : He.DefD := ⟨("back_from", none), "back_from", "back_from", defArgs s_back_from, defBody s_back_from, defScope s_back_from, [], []⟩
def d_pairs_within : He.DefD := ⟨("pairs_within", none), "pairs_within", "pairs_within", defArgs s_pairs_within, defBody s_pairs_within, defScope s_pairs_within, [], []⟩
def d_bringing : He.DefD := ⟨("bringing", none), "bringing", "bringing", defArgs s_bringing, defBody s_bringing, defScope s_bringing, [], []⟩
def d_way_in : He.DefD := ⟨("way_in", none), "way_in", "way_in", defArgs s_way_in, defBody s_way_in, defScope s_way_in, [], []⟩
def d_need_fields : He.DefD := ⟨("need_fields", none), "need_fields", "need_fields", defArgs s_need_fields, defBody s_need_fields, defScope s_need_fields, [], []⟩
def d_fewest_exchanges : He.DefD := ⟨("fewest_exchanges", none), "fewest_exchanges", "fewest_exchanges", defArgs s_fewest_exchanges, defBody s_fewest_exchanges, defScope s_fewest_exchanges, [], []⟩
def d_is_least_way : He.DefD := ⟨("is_least_way", none), "is_least_way", "is_least_way", defArgs s_is_least_way, defBody s_is_least_way, defScope s_is_least_way, [], []⟩
def d_catalan : He.DefD := ⟨("catalan", none), "catalan", "catalan", defArgs s_catalan, defBody s_catalan, defScope s_catalan, [], []⟩
def d_count_cuttings : He.DefD := ⟨("count_cuttings", none), "count_cuttings", "count_cuttings", defArgs s_count_cuttings, defBody s_count_cuttings, defScope s_count_cuttings, [], []⟩
def d_fars_of : He.DefD := ⟨("fars_of", none), "fars_of", "fars_of", defArgs s_fars_of, defBody s_fars_of, defScope s_fars_of, [], []⟩
def d_layers : He.DefD := ⟨("layers", none), "layers", "layers", defArgs s_layers, defBody s_layers, defScope s_layers, [], []⟩
def d_ranks_between : He.DefD := ⟨("ranks_between", none), "ranks_between", "ranks_between", defArgs s_ranks_between, defBody s_ranks_between, defScope s_ranks_between, [], []⟩
def d_passed_by : He.DefD := ⟨("passed_by", none), "passed_by", "passed_by", defArgs s_passed_by, defBody s_passed_by, defScope s_passed_by, [], []⟩
def d_depth_sum : He.DefD := ⟨("depth_sum", none), "depth_sum", "depth_sum", defArgs s_depth_sum, defBody s_depth_sum, defScope s_depth_sum, [], []⟩
def d_need_few_forks : He.DefD := ⟨("need_few_forks", none), "need_few_forks", "need_few_forks", defArgs s_need_few_forks, defBody s_need_few_forks, defScope s_need_few_forks, [], []⟩
def d_comb_tree : He.DefD := ⟨("comb_tree", none), "comb_tree", "comb_tree", defArgs s_comb_tree, defBody s_comb_tree, defScope s_comb_tree, [], []⟩
def d_fewest_up : He.DefD := ⟨("fewest_up", none), "fewest_up", "fewest_up", defArgs s_fewest_up, defBody s_fewest_up, defScope s_fewest_up, [], []⟩
def d_least_tree : He.DefD := ⟨("least_tree", none), "least_tree", "least_tree", defArgs s_least_tree, defBody s_least_tree, defScope s_least_tree, [], []⟩
def d_greatest_tree : He.DefD := ⟨("greatest_tree", none), "greatest_tree", "greatest_tree", defArgs s_greatest_tree, defBody s_greatest_tree, defScope s_greatest_tree, [], []⟩
def d__law_source : He.DefD := ⟨("_law_source", none), "_law_source", "_law_source", defArgs s__law_source, defBody s__law_source, defScope s__law_source, [], []⟩
def d__law_pick : He.DefD := ⟨("_law_pick", none), "_law_pick", "_law_pick", defArgs s__law_pick, defBody s__law_pick, defScope s__law_pick, [], []⟩
def d__law_cuts : He.DefD := ⟨("_law_cuts", none), "_law_cuts", "_law_cuts", defArgs s__law_cuts, defBody s__law_cuts, defScope s__law_cuts, [], []⟩
def d__law_cutting : He.DefD := ⟨("_law_cutting", none), "_law_cutting", "_law_cutting", defArgs s__law_cutting, defBody s__law_cutting, defScope s__law_cutting, [], []⟩
def d__law_joined : He.DefD := ⟨("_law_joined", none), "_law_joined", "_law_joined", defArgs s__law_joined, defBody s__law_joined, defScope s__law_joined, [], []⟩
def d__law_pieces : He.DefD := ⟨("_law_pieces", none), "_law_pieces", "_law_pieces", defArgs s__law_pieces, defBody s__law_pieces, defScope s__law_pieces, [], []⟩
def d__law_counts : He.DefD := ⟨("_law_counts", none), "_law_counts", "_law_counts", defArgs s__law_counts, defBody s__law_counts, defScope s__law_counts, [], []⟩
def d__law_shown : He.DefD := ⟨("_law_shown", none), "_law_shown", "_law_shown", defArgs s__law_shown, defBody s__law_shown, defScope s__law_shown, [], []⟩
def d__law_up_right : He.DefD := ⟨("_law_up_right", none), "_law_up_right", "_law_up_right", defArgs s__law_up_right, defBody s__law_up_right, defScope s__law_up_right, [], []⟩
def d__law_fans_right : He.DefD := ⟨("_law_fans_right", none), "_law_fans_right", "_law_fans_right", defArgs s__law_fans_right, defBody s__law_fans_right, defScope s__law_fans_right, [], []⟩
def d_law : He.DefD := ⟨("law", none), "law", "law", defArgs s_law, defBody s_law, defScope s_law, [], []⟩
def fn0 : List He.DefD := [d_is_whole, d_are_next, d_fits_cut, d_cross, d_rises, d_fits_cutting, d_all_ties, d_near_of, d_thirds_of, d_need_cutting, d_need_corner, d_need_cut, d_need_sides, d_need_number, d_need_few, d_cut_for, d_with_cut, d_swapped_at, d_exchanged, d_tree_size, d_fits_tree, d_fork_count, d_tree_between, d_tree_cuts, d_cutting_by, d_reaches_of, d_need_tree, d_need_pair, d_need_fork, d_need_small_cutting, d_tree_of, d_tree_cutting, d_reaches, d_can_turn, d_turned_once, d_lies_below, d_steps_up, d_fork_between, d_fork_turned, d_is_below]
def fn1 : List He.DefD := [d_way_up, d_turned_fork, d_way_steps, d_type_is_whole, d_leads_to, d_need_two, d_need_way, d_behind_way, d_far_from_fan, d_cuts_of_both, d_split_by, d_fields_by, d_fields_of, d_piece_within, d_nexts_of, d_reach_from, d_back_from, d_pairs_within, d_bringing, d_way_in, d_need_fields, d_fewest_exchanges, d_is_least_way, d_catalan, d_count_cuttings, d_fars_of, d_layers, d_ranks_between, d_passed_by, d_depth_sum, d_need_few_forks, d_comb_tree, d_fewest_up, d_least_tree, d_greatest_tree, d__law_source, d__law_pick, d__law_cuts, d__law_cutting, d__law_joined]
def fn2 : List He.DefD := [d__law_pieces, d__law_counts, d__law_shown, d__law_up_right, d__law_fans_right, d_law]
def fn : List He.DefD := fn0 ++ fn1 ++ fn2
def fa0 : List He.Fa := [.glo "is_whole", .glo "are_next", .glo "fits_cut", .glo "cross", .glo "rises", .glo "fits_cutting", .glo "all_ties", .glo "near_of", .glo "thirds_of", .glo "need_cutting", .glo "need_corner", .glo "need_cut", .glo "need_sides", .glo "need_number", .glo "need_few", .glo "cut_for", .glo "with_cut", .glo "swapped_at", .glo "exchanged", .glo "tree_size", .glo "fits_tree", .glo "fork_count", .glo "tree_between", .glo "tree_cuts", .glo "cutting_by", .glo "reaches_of", .glo "need_tree", .glo "need_pair", .glo "need_fork", .glo "need_small_cutting", .glo "tree_of", .glo "tree_cutting", .glo "reaches", .glo "can_turn", .glo "turned_once", .glo "lies_below", .glo "steps_up", .glo "fork_between", .glo "fork_turned", .glo "is_below"]
def fa1 : List He.Fa := [.glo "way_up", .glo "turned_fork", .glo "way_steps", .glo "type_is_whole", .glo "leads_to", .glo "need_two", .glo "need_way", .glo "behind_way", .glo "far_from_fan", .glo "cuts_of_both", .glo "split_by", .glo "fields_by", .glo "fields_of", .glo "piece_within", .glo "nexts_of", .glo "reach_from", .glo "back_from", .glo "pairs_within", .glo "bringing", .glo "way_in", .glo "need_fields", .glo "fewest_exchanges", .glo "is_least_way", .glo "catalan", .glo "count_cuttings", .glo "fars_of", .glo "layers", .glo "ranks_between", .glo "passed_by", .glo "depth_sum", .glo "need_few_forks", .glo "comb_tree", .glo "fewest_up", .glo "least_tree", .glo "greatest_tree", .glo "_law_source", .glo "_law_pick", .glo "_law_cuts", .glo "_law_cutting", .glo "_law_joined"]
def fa2 : List He.Fa := [.glo "_law_pieces", .glo "_law_counts", .glo "_law_shown", .glo "_law_up_right", .glo "_law_fans_right", .glo "law", .free "all", .free "any", .free "bool", .free "enumerate", .free "int", .free "isinstance", .free "len", .free "list", .free "max", .free "min", .free "range", .free "sorted", .free "sum", .free "super", .free "tuple", .free "zip", .int "MOST" 40, .int "MOST_FORKS" 24, .int "MOST_STEPS" 80, .int "MOST_FIELD" 8, .int "MOST_LAYERS" 8, .int "FEW_FORKS" 7]
def fa : List He.Fa := fa0 ++ fa1 ++ fa2
def loose0 : List PySem.Str := [PySem.Str.ofString "WorldError", PySem.Str.ofString "InvalidCutting", PySem.Str.ofString "InvalidCorner", PySem.Str.ofString "InvalidCut", PySem.Str.ofString "InvalidSides", PySem.Str.ofString "InvalidNumber", PySem.Str.ofString "Unlike", PySem.Str.ofString "InvalidWay", PySem.Str.ofString "InvalidTree", PySem.Str.ofString "InvalidFork", PySem.Str.ofString "TooMany", PySem.Str.ofString "MOST", PySem.Str.ofString "MOST_FORKS", PySem.Str.ofString "MOST_STEPS", PySem.Str.ofString "MOST_FIELD", PySem.Str.ofString "MOST_LAYERS", PySem.Str.ofString "FEW_FORKS", PySem.Str.ofString "is_whole", PySem.Str.ofString "are_next", PySem.Str.ofString "fits_cut", PySem.Str.ofString "cross", PySem.Str.ofString "rises", PySem.Str.ofString "fits_cutting", PySem.Str.ofString "all_ties", PySem.Str.ofString "near_of", PySem.Str.ofString "thirds_of", PySem.Str.ofString "need_cutting", PySem.Str.ofString "need_corner", PySem.Str.ofString "need_cut", PySem.Str.ofString "need_sides", PySem.Str.ofString "need_number", PySem.Str.ofString "need_few", PySem.Str.ofString "cut_for", PySem.Str.ofString "with_cut", PySem.Str.ofString "swapped_at", PySem.Str.ofString "exchanged", PySem.Str.ofString "tree_size", PySem.Str.ofString "fits_tree", PySem.Str.ofString "fork_count", PySem.Str.ofString "tree_between"]
def loose1 : List PySem.Str := [PySem.Str.ofString "tree_cuts", PySem.Str.ofString "cutting_by", PySem.Str.ofString "reaches_of", PySem.Str.ofString "need_tree", PySem.Str.ofString "need_pair", PySem.Str.ofString "need_fork", PySem.Str.ofString "need_small_cutting", PySem.Str.ofString "tree_of", PySem.Str.ofString "tree_cutting", PySem.Str.ofString "reaches", PySem.Str.ofString "can_turn", PySem.Str.ofString "turned_once", PySem.Str.ofString "lies_below", PySem.Str.ofString "steps_up", PySem.Str.ofString "fork_between", PySem.Str.ofString "fork_turned", PySem.Str.ofString "is_below", PySem.Str.ofString "way_up", PySem.Str.ofString "turned_fork", PySem.Str.ofString "way_steps", PySem.Str.ofString "type_is_whole", PySem.Str.ofString "leads_to", PySem.Str.ofString "need_two", PySem.Str.ofString "need_way", PySem.Str.ofString "behind_way", PySem.Str.ofString "far_from_fan", PySem.Str.ofString "cuts_of_both", PySem.Str.ofString "split_by", PySem.Str.ofString "fields_by", PySem.Str.ofString "fields_of", PySem.Str.ofString "piece_within", PySem.Str.ofString "nexts_of", PySem.Str.ofString "reach_from", PySem.Str.ofString "back_from", PySem.Str.ofString "pairs_within", PySem.Str.ofString "bringing", PySem.Str.ofString "way_in", PySem.Str.ofString "need_fields", PySem.Str.ofString "fewest_exchanges", PySem.Str.ofString "is_least_way"]
def loose2 : List PySem.Str := [PySem.Str.ofString "catalan", PySem.Str.ofString "count_cuttings", PySem.Str.ofString "fars_of", PySem.Str.ofString "layers", PySem.Str.ofString "ranks_between", PySem.Str.ofString "passed_by", PySem.Str.ofString "depth_sum", PySem.Str.ofString "need_few_forks", PySem.Str.ofString "comb_tree", PySem.Str.ofString "fewest_up", PySem.Str.ofString "least_tree", PySem.Str.ofString "greatest_tree", PySem.Str.ofString "_law_source", PySem.Str.ofString "_law_pick", PySem.Str.ofString "_law_cuts", PySem.Str.ofString "_law_cutting", PySem.Str.ofString "_law_joined", PySem.Str.ofString "_law_pieces", PySem.Str.ofString "_law_counts", PySem.Str.ofString "_law_shown", PySem.Str.ofString "_law_up_right", PySem.Str.ofString "_law_fans_right"]
def loose : List PySem.Str := loose0 ++ loose1 ++ loose2
abbrev R : PySem.W.OpenRow := PySem.W.OpenLaw.row PySem.Challenge.rw_eightworlds_k96_whole_least_ways_and_the
end EW

set_option Elab.async false
set_option linter.all false
set_option maxRecDepth 100000
set_option maxHeartbeats 0
namespace EW
open PySem PySem.Spec PyProof.Rows L2
abbrev tf : List He.Defn := [("passed_by", none)]
def exT : PySem.W.Frag → Bool := fun _ => true
/-- a function and its code object -/
def fnCode (g : Addr → Option Obj) (a : Addr) : List Addr := match g a with
  | some ⟨_, _, .func fd, _⟩ => a :: He.refV fd.code
  | _ => []
/-- the module's names, each function of them, its code object: all that the walk leans on -/
def asY (g : Addr → Option Obj) : List Addr := match g mainGlobals with
  | some ⟨_, _, .dict es _, _⟩ => mainGlobals :: es.toList.flatMap fun e => (He.refV e.val).flatMap (fnCode g)
  | _ => [mainGlobals]
def fragY (g : Addr → Option Obj) : PySem.W.Frag := He.frT g (asY g)
def obsY (g : Addr → Option Obj) : He.AlX := (He.obsT fa fn [] (fragY g), He.tabsB g tf (fragY g))
theorem obsY_of {w : World} {h : Heap} (e : obsY h.get? = He.valX fn [] w) : He.SaysX fa fn [] tf exT w h (fragY h.get?) := by
  obtain ⟨p1, p2⟩ := Prod.mk.inj e
  have each (p : He.Defn) (hp : p ∈ tf) : PySem.W.codeHdIn (fragY h.get?) (He.cT (fragY h.get?) p).1 (He.cT (fragY h.get?) p).2 = true ∧ ∃ o, h.get? (He.cT (fragY h.get?) p).2 = some o ∧ He.emptyTab o = true := by
    have both := Bool.and_eq_true_iff.mp (List.all_eq_true.mp p2 p hp)
    refine ⟨both.1, ?_⟩
    have b2 := both.2
    revert b2
    cases h.get? (He.cT (fragY h.get?) p).2 with
    | none => exact fun z => nomatch z
    | some o => exact fun z => ⟨o, rfl, z⟩
  constructor
  · exact p1
  · rfl
  · exact fun p hp => (each p hp).1
  · intro p hp
    obtain ⟨-, o, g1, g2⟩ := each p hp
    exact He.frT_none g1 g2
  · intro p hp
    obtain ⟨-, o, g1, g2⟩ := each p hp
    exact g1.trans (congrArg some (He.emptyTab_eq g2))
abbrev hkX : PySem.W.Hook where
  α := He.AlX
  obs := fun s => obsY s.heap.get?
  val := fun w => He.valX fn [] w
  says := fun w h => ∃ K : PySem.W.Frag, K.In h ∧ He.SaysX fa fn [] tf exT w h K
  of := fun _ _ e => ⟨fragY _, He.frT_in, obsY_of e⟩
  keeps := fun _ _ _ ⟨K, kin, c⟩ up => ⟨K, PySem.W.Frag.In.keeps kin up, { t := c.t, more := c.more, hd := c.hd, out := c.out, empty := fun p hp => up _ _ (c.empty p hp) }⟩
def obX (s : PySem.W.SharedT) : He.AlX := obsY (HandSHeadRun.getT s)
theorem obX_eq (s : PySem.W.SharedT) : obX s = hkX.obs s.abs := congrArg obsY (funext (HandSHeadRun.getT_eq s))
abbrev qX : Program := PySem.W.view R.prog [114]
noncomputable abbrev endX (w : World) (os : OsState) : Option PySem.W.SharedT := HandSHeadRun.endF (HandSHeadRun.stepQ (HandSHeadRun.denQ HandSHeadRun.tabQ) R.prog w) 9000 R.prog w os
noncomputable abbrev looksX (w : World) (s : PySem.W.SharedT) : Bool := HandSHeadRun.looksF R.prog (PySem.W.boot_heap w.params) s.abs
noncomputable abbrev seenX (s : PySem.W.SharedT) := HandSHeadRun.seenQ qX loose (importedModules R.prog.main.body) (fun s => PySem.W.xlAt qX [] s && PySem.W.recOk R.toRowW.records s) s.abs
theorem glue3 {α β γ δ : Type} {o : Option α} {f : α → β} {g : α → γ} {k : α → δ} {b : β} {c : γ} {d : δ} (h1 : o.map (fun s => (f s, g s)) = some (b, c)) (h2 : o.map k = some d) : o.map (fun s => (f s, g s, k s)) = some (b, c, d) := by
  cases o with
  | none => exact nomatch h1
  | some s =>
    obtain ⟨q1, q2⟩ := Prod.mk.inj (Option.some.inj h1)
    exact congrArg some (Prod.ext q1 (Prod.ext q2 (Option.some.inj h2)))
theorem run1 (w : World) (os : OsState) : (endX w os).map (fun s => (looksX w s, seenX s)) = some (true, PySem.W.openGood qX loose) := by
  kernel_rfl
theorem run2 (w : World) (os : OsState) : (endX w os).map obX = some (He.valX fn [] w) := by
  kernel_rfl
theorem runX (w : World) : HandSHeadRun.RunEq R (PySem.W.view R.prog [114]) hkX obX 9000 loose w := fun os =>
  glue3 (f := looksX w) (g := seenX) (k := obX) (run1 w os) (run2 w os)
end EW

set_option Elab.async false
set_option linter.all false
set_option autoImplicit false
set_option maxRecDepth 100000
set_option maxHeartbeats 4000000
/-! Ev1: data without objects, what a value is of it, hidden parts of the abstract heap -/
namespace Ev
open PySem PySem.Spec PyProof.Rows L2

abbrev St := L2.St
/-- no table of code objects -/
class NT (o : HO) : Prop where
  ne : ∀ ps, o ≠ .tbl ps
instance {xs : List V} : NT (.lst xs) := ⟨fun _ h => nomatch h⟩
instance {xs : List V} : NT (.tup xs) := ⟨fun _ h => nomatch h⟩
instance {xs : List (Key × V)} : NT (.dK xs) := ⟨fun _ h => nomatch h⟩
instance {φ : Heap → Prop} : NT (.ext φ) := ⟨fun _ h => nomatch h⟩
/-- what stands stays; the tables of code objects may grow -/
structure Sub (H H' : Hp) : Prop where
  keep : ∀ a o, H a = some o → NT o → H' a = some o
  live : ∀ a, (∃ o, H a = some o) → ∃ o, H' a = some o
theorem Sub.ap {H H' : Hp} (k : Sub H H') {a : Addr} {o : HO} (e : H a = some o) [n : NT o] : H' a = some o := k.keep a o e n
theorem Sub.refl (H : Hp) : Sub H H := ⟨fun _ _ e _ => e, fun _ h => h⟩
theorem Sub.trans {H H1 H2 : Hp} (h : Sub H H1) (k : Sub H1 H2) : Sub H H2 := ⟨fun a o e n => k.keep a o (h.keep a o e n) n, fun a z => k.live a (h.live a z)⟩
theorem Sub.free {H H' : Hp} (k : Sub H H') {p : Addr} (h : H' p = none) : H p = none := by
  cases q : H p with
  | none => rfl
  | some o =>
    obtain ⟨o', e⟩ := k.live p ⟨o, q⟩
    rw [h] at e; cases e
theorem Sub.of {H H' : Hp} (h : ∀ a o, H a = some o → H' a = some o) : Sub H H' := ⟨fun a o e _ => h a o e, fun a ⟨o, e⟩ => ⟨o, h a o e⟩⟩
/-- the name of passed_by's lambda -/
def qL : Str := "passed_by" ++ ".<locals>." ++ "<lambda>"
/-- the world; where the tables stand that grow -/
structure W2 where
  w : World
  P : Addr → Prop
def TB (w : W2) (H : Hp) : Prop := ∀ a, w.P a → LamX.TabS H a qL
structure Same (w : W2) (H H' : Hp) : Prop where
  sub : Sub H H'
  tab : TB w H → TB w H'
section
variable {w : W2} {H H1 H2 : Hp}
theorem Same.ap (k : Same w H H1) {a : Addr} {o : HO} (e : H a = some o) [n : NT o] : H1 a = some o := k.sub.keep a o e n
theorem Same.live (k : Same w H H1) (a : Addr) (h : ∃ o, H a = some o) : ∃ o, H1 a = some o := k.sub.live a h
theorem Same.refl (H : Hp) : Same w H H := ⟨.refl H, fun h => h⟩
theorem Same.trans (h : Same w H H1) (k : Same w H1 H2) : Same w H H2 := ⟨h.sub.trans k.sub, fun z => k.tab (h.tab z)⟩
theorem Same.free (k : Same w H H1) {p : Addr} (h : H1 p = none) : H p = none := k.sub.free h
theorem Same.of (h : ∀ a o, H a = some o → H1 a = some o) : Same w H H1 := ⟨.of h, fun z a p => (z a p).ext h⟩
/-- nothing of the tables -/
def Fr (H : Hp) (a : Addr) : Prop := ∃ o, H a = some o ∧ (∀ ps, o ≠ .tbl ps) ∧ ∀ c q, o ≠ LamX.CodeO c q
theorem Fr.lst {a : Addr} {xs : List V} (h : H a = some (.lst xs)) : Fr H a := ⟨_, h, (fun _ z => nomatch z), fun c q z => by unfold LamX.CodeO at z; cases z⟩
theorem Fr.dK {a : Addr} {xs : List (Key × V)} (h : H a = some (.dK xs)) : Fr H a := ⟨_, h, (fun _ z => nomatch z), fun c q z => by unfold LamX.CodeO at z; cases z⟩
theorem TB.upd (h : TB w H) {a : Addr} {o : HO} (f : Fr H a) : TB w (upd H a o) := fun p hp => by
  obtain ⟨o0, e0, n1, n2⟩ := f
  obtain ⟨ps, e1, e2, e3⟩ := h p hp
  refine ⟨ps, by rw [upd_ne (fun z => n1 ps (by rw [z, e0] at e1; exact Option.some.inj e1))]; exact e1, e2, fun pos cv hc => ?_⟩
  obtain ⟨c, e4, e5⟩ := e3 pos cv hc
  exact ⟨c, e4, by rw [upd_ne (fun z => n2 c qL (by rw [z] at e5; rw [e0] at e5; rw [z]; exact Option.some.inj e5))]; exact e5⟩
end
/-- pure data -/
inductive D where
  | non | bl (b : Bool) | int (i : Int) | tup (xs : List D) | lst (xs : List D)
/-- what a name may hold: data; a dict by data; a dict by ints; a list, a dict that the frame alone has and may change -/
inductive C where
  | d (x : D) | dn (kvs : List (D × D)) | di (kvs : List (Int × D)) | ol (ds : List D) | on (kvs : List (D × D)) | raw (v : V)

mutual
inductive Rp (H : Hp) : V → D → Prop
  | non : Rp H .non .non
  | bl (b : Bool) : Rp H (.bl b) (.bl b)
  | int (i : Int) : Rp H (.int i) (.int i)
  | tup {a : Addr} {xs : List V} {ds : List D} : H a = some (.tup xs) → RpA H xs ds → Rp H (.ref a) (.tup ds)
  | lst {a : Addr} {xs : List V} {ds : List D} : H a = some (.lst xs) → RpA H xs ds → Rp H (.ref a) (.lst ds)
inductive RpA (H : Hp) : List V → List D → Prop
  | nil : RpA H [] []
  | cons {v : V} {vs : List V} {d : D} {ds : List D} : Rp H v d → RpA H vs ds → RpA H (v :: vs) (d :: ds)
end
mutual
theorem Rp.mono {H H' : Hp} (k : Sub H H') : ∀ {d : D} {v : V}, Rp H v d → Rp H' v d
  | .non, _, h => by cases h; exact .non
  | .bl b, _, h => by cases h; exact .bl b
  | .int i, _, h => by cases h; exact .int i
  | .tup ds, _, h => by cases h with | tup e r => exact .tup (k.ap e) (RpA.mono k r)
  | .lst ds, _, h => by cases h with | lst e r => exact .lst (k.ap e) (RpA.mono k r)
theorem RpA.mono {H H' : Hp} (k : Sub H H') : ∀ {ds : List D} {vs : List V}, RpA H vs ds → RpA H' vs ds
  | [], _, h => by cases h; exact .nil
  | d :: ds, _, h => by cases h with | cons a b => exact .cons (Rp.mono k a) (RpA.mono k b)
end
theorem RpA.length {H : Hp} : ∀ {ds : List D} {vs : List V}, RpA H vs ds → vs.length = ds.length
  | [], _, h => by cases h; rfl
  | d :: ds, _, h => by cases h with | cons a b => exact congrArg (· + 1) (RpA.length b)
theorem RpA.get {H : Hp} : ∀ {ds : List D} {vs : List V} {i : Nat} {d : D}, RpA H vs ds → ds[i]? = some d → ∃ v, vs[i]? = some v ∧ Rp H v d
  | [], _, _, _, _, e => by simp at e
  | d :: ds, _, 0, _, h, e => by cases h with | cons a b => simp at e; subst e; exact ⟨_, rfl, a⟩
  | d :: ds, _, i + 1, x, h, e => by cases h with | cons a b => simpa using RpA.get (i := i) b (by simpa using e)
theorem RpA.getV {H : Hp} : ∀ {ds : List D} {vs : List V} {i : Nat} {v : V}, RpA H vs ds → vs[i]? = some v → ∃ d, ds[i]? = some d ∧ Rp H v d
  | [], _, _, _, h, e => by cases h; simp at e
  | d :: ds, _, 0, _, h, e => by cases h with | cons a b => simp at e; subst e; exact ⟨_, rfl, a⟩
  | d :: ds, _, i + 1, x, h, e => by cases h with | cons a b => simpa using RpA.getV (i := i) b (by simpa using e)
theorem RpA.append {H : Hp} : ∀ {ds es : List D} {vs us : List V}, RpA H vs ds → RpA H us es → RpA H (vs ++ us) (ds ++ es)
  | [], _, _, _, h, k => by cases h; exact k
  | d :: ds, _, _, _, h, k => by cases h with | cons a b => exact .cons a (RpA.append b k)
theorem RpA.set {H : Hp} {v : V} {d : D} (r : Rp H v d) : ∀ {ds : List D} {vs : List V} (i : Nat), RpA H vs ds → RpA H (vs.set i v) (ds.set i d)
  | [], _, _, h => by cases h; exact .nil
  | _ :: ds, _, 0, h => by cases h with | cons a b => exact .cons r b
  | _ :: ds, _, i + 1, h => by cases h with | cons a b => exact .cons a (RpA.set r i b)
theorem RpA.drop {H : Hp} : ∀ {ds : List D} {vs : List V} (n : Nat), RpA H vs ds → RpA H (vs.drop n) (ds.drop n)
  | _, _, 0, h => by simpa using h
  | [], _, n + 1, h => by cases h; simpa using RpA.nil
  | d :: ds, _, n + 1, h => by cases h with | cons a b => simpa using RpA.drop n b
theorem RpA.take {H : Hp} : ∀ {ds : List D} {vs : List V} (n : Nat), RpA H vs ds → RpA H (vs.take n) (ds.take n)
  | _, _, 0, h => by simpa using RpA.nil
  | [], _, n + 1, h => by cases h; simpa using RpA.nil
  | d :: ds, _, n + 1, h => by cases h with | cons a b => simpa using RpA.cons a (RpA.take n b)
theorem RpA.reverse {H : Hp} : ∀ {ds : List D} {vs : List V}, RpA H vs ds → RpA H vs.reverse ds.reverse
  | [], _, h => by cases h; exact .nil
  | d :: ds, _, h => by cases h with | cons a b => rw [List.reverse_cons, List.reverse_cons]; exact (RpA.reverse b).append (.cons a .nil)

/-! ### dicts whose keys are data -/
mutual
/-- the key that a datum is -/
def keyOf : D → Option NestedKey
  | .non => some .none
  | .bl _ => none
  | .int i => some (.num i)
  | .tup xs => match keysOf xs with
    | some ks => some (.tup ks)
    | none => none
  | .lst _ => none
def keysOf : List D → Option (List NestedKey)
  | [] => some []
  | d :: ds => match keyOf d with
    | some k => match keysOf ds with
      | some ks => some (k :: ks)
      | none => none
    | none => none
end
/-- the dict at a: the keys, their tuples' addresses, the values; its epoch -/
def DN (w : World) (a : Addr) (ks : List (NestedKey × Addr × V)) (ep : Nat) : HO := .ext fun h =>
  ∃ xs : List (NestedKey × Addr × Value), Paired (fun (p : NestedKey × Addr × V) (q : NestedKey × Addr × Value) => p.1 = q.1 ∧ p.2.1 = q.2.1 ∧ RelV p.2.2 q.2.2) ks xs ∧ (a == sysModules) = false ∧ ks.length ≤ sizeLine ∧
    ∃ o es, h.get? a = some o ∧ o.ExactDict ∧ o.data = .dict es ep ∧ es.toList = xs.map (fun x => (⟨x.1.hash w, .ref x.2.1, x.2.2⟩ : DictEntry)) ∧ (xs.map (·.1)).Nodup
instance {w : World} {a : Addr} {ks : List (NestedKey × Addr × V)} {ep : Nat} : NT (DN w a ks ep) := ⟨fun _ h => nomatch h⟩
def DAt (w : World) (H : Hp) (a : Addr) (ks : List (NestedKey × Addr × V)) : Prop := ∃ ep, H a = some (DN w a ks ep)
theorem DAt.mono {w : World} {H H' : Hp} {a : Addr} {ks : List (NestedKey × Addr × V)} (h : DAt w H a ks) (k : Sub H H') : DAt w H' a ks := let ⟨ep, e⟩ := h; ⟨ep, k.ap e⟩
theorem DAt.ne {w : World} {H : Hp} {a b : Addr} {o : HO} {ks : List (NestedKey × Addr × V)} (h : DAt w H a ks) (n : a ≠ b) : DAt w (upd H b o) a ks := let ⟨ep, e⟩ := h; ⟨ep, by rw [upd_ne n]; exact e⟩
theorem DAt.some {w : World} {H : Hp} {a : Addr} {ks : List (NestedKey × Addr × V)} (h : DAt w H a ks) : ∃ o, H a = Option.some o := let ⟨_, e⟩ := h; ⟨_, e⟩
inductive RpK (H : Hp) : List (NestedKey × Addr × V) → List (D × D) → Prop
  | nil : RpK H [] []
  | cons {k : NestedKey} {b : Addr} {v : V} {ks : List (NestedKey × Addr × V)} {d e : D} {kvs : List (D × D)} : keyOf d = some k → k.depth ≤ 8 → Rp H (.ref b) d → Rp H v e → RpK H ks kvs → RpK H ((k, b, v) :: ks) ((d, e) :: kvs)
inductive RpI (H : Hp) : List (Key × V) → List (Int × D) → Prop
  | nil : RpI H [] []
  | cons {i : Int} {v : V} {ks : List (Key × V)} {e : D} {kvs : List (Int × D)} : Rp H v e → RpI H ks kvs → RpI H ((.inl i, v) :: ks) ((i, e) :: kvs)
theorem RpK.mono {H H' : Hp} (k : Sub H H') {ks : List (NestedKey × Addr × V)} {kvs : List (D × D)} (h : RpK H ks kvs) : RpK H' ks kvs := by
  induction h with
  | nil => exact .nil
  | cons a b c d _ ih => exact .cons a b (c.mono k) (d.mono k) ih
theorem RpI.mono {H H' : Hp} (k : Sub H H') {ks : List (Key × V)} {kvs : List (Int × D)} (h : RpI H ks kvs) : RpI H' ks kvs := by
  induction h with
  | nil => exact .nil
  | cons a _ ih => exact .cons (a.mono k) ih
theorem RpK.length {H : Hp} {ks : List (NestedKey × Addr × V)} {kvs : List (D × D)} (h : RpK H ks kvs) : ks.length = kvs.length := by
  induction h with
  | nil => rfl
  | cons a b c d _ ih => exact congrArg (· + 1) ih

/-- a value as what a name may hold, nothing that may be changed -/
inductive RpC (w : W2) (H : Hp) : V → C → Prop
  | d {v : V} {x : D} : Rp H v x → RpC w H v (.d x)
  | dn {a : Addr} {ks : List (NestedKey × Addr × V)} {kvs : List (D × D)} : DAt w.w H a ks → RpK H ks kvs → RpC w H (.ref a) (.dn kvs)
  | di {a : Addr} {ks : List (Key × V)} {kvs : List (Int × D)} : H a = some (.dK ks) → RpI H ks kvs → RpC w H (.ref a) (.di kvs)
  | raw {v : V} : RpC w H v (.raw v)
theorem RpC.mono {w : W2} {H H' : Hp} (k : Sub H H') {v : V} {c : C} (h : RpC w H v c) : RpC w H' v c := by
  cases h with
  | d r => exact .d (r.mono k)
  | dn e r => exact .dn (e.mono k) (r.mono k)
  | di e r => exact .di (k.ap e) (r.mono k)
  | raw => exact .raw
inductive RpCA (w : W2) (H : Hp) : List V → List C → Prop
  | nil : RpCA w H [] []
  | cons {v : V} {vs : List V} {d : C} {ds : List C} : RpC w H v d → RpCA w H vs ds → RpCA w H (v :: vs) (d :: ds)
theorem RpCA.mono {w : W2} {H H' : Hp} (k : Sub H H') {vs : List V} {cs : List C} (h : RpCA w H vs cs) : RpCA w H' vs cs := by
  induction h with
  | nil => exact .nil
  | cons a _ ih => exact .cons (a.mono k) ih
theorem RpCA.length {w : W2} {H : Hp} {vs : List V} {cs : List C} (h : RpCA w H vs cs) : vs.length = cs.length := by
  induction h with
  | nil => rfl
  | cons a _ ih => exact congrArg (· + 1) ih
theorem RpCA.get {w : W2} {H : Hp} : ∀ {cs : List C} {vs : List V} {i : Nat} {c : C}, RpCA w H vs cs → cs[i]? = some c → ∃ v, vs[i]? = some v ∧ RpC w H v c
  | [], _, _, _, _, e => by simp at e
  | d :: ds, _, 0, _, h, e => by cases h with | cons a b => simp at e; subst e; exact ⟨_, rfl, a⟩
  | d :: ds, _, i + 1, x, h, e => by cases h with | cons a b => simpa using RpCA.get (i := i) b (by simpa using e)

/-! ### a hidden part -/
open Classical in
noncomputable def hid (O : Addr → Prop) (H : Hp) : Hp := fun a => if O a then none else H a
theorem hid_some {O : Addr → Prop} {H : Hp} {a : Addr} {o : HO} : hid O H a = some o ↔ H a = some o ∧ ¬ O a := by
  unfold hid
  split
  · rename_i h; simp [h]
  · rename_i h; simp [h]
theorem hid_le {O : Addr → Prop} {H : Hp} : Sub (hid O H) H := .of fun a o h => (hid_some.mp h).1
theorem hid_ap {O : Addr → Prop} {H : Hp} {a : Addr} {o : HO} (h : hid O H a = some o) : H a = some o := (hid_some.mp h).1
theorem hid_monoS {O : Addr → Prop} {H H' : Hp} (k : Sub H H') : Sub (hid O H) (hid O H') := ⟨fun a o h n => by
  obtain ⟨h1, h2⟩ := hid_some.mp h
  exact hid_some.mpr ⟨k.keep a o h1 n, h2⟩, fun a ⟨o, h⟩ => by
  obtain ⟨h1, h2⟩ := hid_some.mp h
  obtain ⟨o', e⟩ := k.live a ⟨o, h1⟩
  exact ⟨o', hid_some.mpr ⟨e, h2⟩⟩⟩
theorem hid_mono {w : W2} {O : Addr → Prop} {H H' : Hp} (k : Same w H H') : Sub (hid O H) (hid O H') := hid_monoS k.sub
theorem hid_anti {O O' : Addr → Prop} {H : Hp} (k : ∀ a, O' a → O a) : Sub (hid O H) (hid O' H) := .of fun a o h => by
  obtain ⟨h1, h2⟩ := hid_some.mp h
  exact hid_some.mpr ⟨h1, fun z => h2 (k a z)⟩
theorem hid_upd {O : Addr → Prop} {H : Hp} {a : Addr} {o : HO} (h : O a) : hid O (upd H a o) = hid O H := by
  funext b
  unfold hid
  split
  · rfl
  · rename_i hb
    exact upd_ne fun e => hb (e ▸ h)
theorem Same.upd {w : W2} {H : Hp} {a : Addr} {o : HO} (h : H a = none) : Same w H (L2.upd H a o) := .of fun b u e => by
  rw [upd_ne (ne_of_none e h)]; exact e

theorem Sub.hid {H H' : Hp} {O O' : Addr → Prop} (k : Sub H H') (h : ∀ a o, H a = some o → ¬ O a → ¬ O' a) : Sub (Ev.hid O H) (Ev.hid O' H') := ⟨fun a o e n => by
  obtain ⟨e1, e2⟩ := hid_some.mp e
  exact hid_some.mpr ⟨k.keep a o e1 n, h a o e1 e2⟩, fun a ⟨o, e⟩ => by
  obtain ⟨e1, e2⟩ := hid_some.mp e
  obtain ⟨o', e'⟩ := k.live a ⟨o, e1⟩
  exact ⟨o', hid_some.mpr ⟨e', h a o e1 e2⟩⟩⟩
theorem Sub.upd {H : Hp} {a : Addr} {o : HO} (h : H a = none) : Sub H (L2.upd H a o) := .of fun b u e => by
  rw [upd_ne (ne_of_none e h)]; exact e
theorem Sub.toHid {H H' : Hp} {O : Addr → Prop} (k : Sub H H') (h : ∀ a o, H a = some o → ¬ O a) : Sub H (Ev.hid O H') := ⟨fun a o e n => hid_some.mpr ⟨k.keep a o e n, h a o e⟩, fun a ⟨o, e⟩ => by
  obtain ⟨o', e'⟩ := k.live a ⟨o, e⟩
  exact ⟨o', hid_some.mpr ⟨e', h a o e⟩⟩⟩
theorem Sub.updN {H H' : Hp} {a : Addr} {o : HO} (k : Sub H H') (h : H a = none) : Sub H (L2.upd H' a o) := ⟨fun b u e n => by
  rw [upd_ne (ne_of_none e h)]; exact k.keep b u e n, fun b ⟨u, e⟩ => by
  rw [upd_ne (ne_of_none e h)]; exact k.live b ⟨u, e⟩⟩

theorem Same.updF {w : W2} {H H' : Hp} {a : Addr} {o : HO} (k : Same w H H') (h : H a = none) (f : Fr H' a) : Same w H (L2.upd H' a o) := ⟨k.sub.updN h, fun z => (k.tab z).upd f⟩

/-- the names' values as data: O hidden, own: which slots have lists, dicts that may change -/
structure EnvOk (w : W2) (O : Addr → Prop) (own : Nat → Option Addr) (H : Hp) (σ : St) (env : List (Option C)) : Prop where
  len : env.length = σ.length
  there : ∀ a, O a → ∃ o, H a = some o
  inO : ∀ i a, own i = some a → O a
  inj : ∀ i j a, own i = some a → own j = some a → i = j
  val : ∀ i c, env[i]? = some (some c) → (∃ v, σ[i]? = some (some v) ∧ RpC w (hid O H) v c) ∨
    (∃ a xs ds, c = .ol ds ∧ own i = some a ∧ σ[i]? = some (some (.ref a)) ∧ H a = some (.lst xs) ∧ RpA (hid O H) xs ds) ∨
    (∃ a ks kvs, c = .on kvs ∧ own i = some a ∧ σ[i]? = some (some (.ref a)) ∧ DAt w.w H a ks ∧ RpK (hid O H) ks kvs)
  tab : TB w H
section
variable {w : W2} {O : Addr → Prop} {own : Nat → Option Addr} {H H' : Hp} {σ : St} {env : List (Option C)}
theorem EnvOk.mono (E : EnvOk w O own H σ env) (k : Same w H H') : EnvOk w O own H' σ env where
  tab := k.tab E.tab
  len := E.len
  there := fun a h => k.sub.live a (E.there a h)
  inO := E.inO
  inj := E.inj
  val := fun i c e => by
    rcases E.val i c e with ⟨v, e1, r⟩ | ⟨a, xs, ds, e1, e2, e3, e4, r⟩ | ⟨a, ks, kvs, e1, e2, e3, e4, r⟩
    · exact .inl ⟨v, e1, r.mono (hid_mono k)⟩
    · exact .inr (.inl ⟨a, xs, ds, e1, e2, e3, k.ap e4, r.mono (hid_mono k)⟩)
    · exact .inr (.inr ⟨a, ks, kvs, e1, e2, e3, e4.mono k.sub, r.mono (hid_mono k)⟩)
/-- more is hidden: what is new -/
theorem EnvOk.hide (E : EnvOk w O own H σ env) {a : Addr} {o : HO} (h : H a = none) : EnvOk w (fun b => b = a ∨ O b) own (upd H a o) σ env := by
  have k : Sub (hid O H) (hid (fun b => b = a ∨ O b) (upd H a o)) := .of fun b u e => by
    obtain ⟨e1, e2⟩ := hid_some.mp e
    have ne : b ≠ a := ne_of_none e1 h
    exact hid_some.mpr ⟨by rw [upd_ne ne]; exact e1, fun z => z.elim ne e2⟩
  refine ⟨E.len, fun b hb => ?_, fun i b e => .inr (E.inO i b e), E.inj, fun i c e => ?_, (Same.upd h).tab E.tab⟩
  · by_cases q : b = a
    · subst q; exact ⟨o, upd_same⟩
    · rw [upd_ne q]; exact E.there b (hb.resolve_left q)
  · rcases E.val i c e with ⟨v, e1, r⟩ | ⟨b, xs, ds, e1, e2, e3, e4, r⟩ | ⟨b, ks, kvs, e1, e2, e3, e4, r⟩
    · exact .inl ⟨v, e1, r.mono k⟩
    · exact .inr (.inl ⟨b, xs, ds, e1, e2, e3, by rw [upd_ne (ne_of_none e4 h)]; exact e4, r.mono k⟩)
    · exact .inr (.inr ⟨b, ks, kvs, e1, e2, e3, e4.ne (fun q => by obtain ⟨_, z⟩ := e4; rw [q, h] at z; cases z), r.mono k⟩)
/-- a name gets a value -/
theorem EnvOk.set (E : EnvOk w O own H σ env) (i : Nat) {v : V} {c : C} (r : RpC w (hid O H) v c) : EnvOk w O own H (σ.set i (some v)) (env.set i (some c)) where
  tab := E.tab
  len := by rw [List.length_set, List.length_set]; exact E.len
  there := E.there
  inO := E.inO
  inj := E.inj
  val := fun j c' e => by
    by_cases q : i = j
    · subst q
      by_cases hl : i < env.length
      · rw [List.getElem?_set_self hl] at e
        cases e
        exact .inl ⟨v, List.getElem?_set_self (by rw [← E.len]; exact hl), r⟩
      · rw [List.getElem?_eq_none (by rw [List.length_set]; omega)] at e; cases e
    · rw [List.getElem?_set_ne q] at e ⊢
      exact E.val j c' e
/-- names are forgotten -/
theorem EnvOk.forget (E : EnvOk w O own H σ env) {σ' : St} {env' : List (Option C)} (hl : env'.length = σ'.length) (h : ∀ (i : Nat) c, env'[i]? = some (some c) → env[i]? = some (some c) ∧ σ'[i]? = σ[i]?) : EnvOk w O own H σ' env' where
  tab := E.tab
  len := hl
  there := E.there
  inO := E.inO
  inj := E.inj
  val := fun i c e => by
    obtain ⟨e1, e2⟩ := h i c e
    rw [e2]
    exact E.val i c e1
end
/-- where the table of passed_by's code stands -/
def IsP (K : PySem.W.Frag) (mg : Str → Option Value) (base : Heap) : Addr → Prop := fun P => P = (He.cT K ("passed_by", none)).2
abbrev wX (X : Cx) : W2 := ⟨X.w, IsP X.K X.mg X.base⟩
end Ev

set_option Elab.async false
set_option linter.all false
set_option autoImplicit false
set_option maxRecDepth 100000
set_option maxHeartbeats 4000000
/-! Ev2: what a piece of syntax computes on data: expressions -/
namespace Ev
open PySem PySem.Spec L2
abbrev Env := List (Option C)

/-! ### readings -/
/-- an expression that computes f on data -/
def tE (w : W2) (f : Env → Option D) : TE := fun σ H Q => ∃ O own env d, EnvOk w O own H σ env ∧ f env = some d ∧ ∀ v H', Same w H H' → Rp (hid O H') v d → Q v H'
def tEC (w : W2) (f : Env → Option C) : TE := fun σ H Q => ∃ O own env d, EnvOk w O own H σ env ∧ f env = some d ∧ ∀ v H', Same w H H' → RpC w (hid O H') v d → Q v H'
/-- a list that is looked at -/
def tEL (w : W2) (f : Env → Option (List D)) : TE := fun σ H Q => ∃ O own env ds, EnvOk w O own H σ env ∧ f env = some ds ∧ ∀ a xs H', Same w H H' → H' a = some (.lst xs) → RpA (hid O H') xs ds → Q (.ref a) H'
/-- a dict that is looked at -/
def tEN (w : W2) (f : Env → Option (List (D × D))) : TE := fun σ H Q => ∃ O own env ds, EnvOk w O own H σ env ∧ f env = some ds ∧ ∀ a ks H', Same w H H' → DAt w.w H' a ks → RpK (hid O H') ks ds → Q (.ref a) H'
def tT (w : W2) (f : Env → Option Bool) : TT := fun σ H Q => ∃ O own env b, EnvOk w O own H σ env ∧ f env = some b ∧ ∀ H', Same w H H' → Q b H'
def tA (w : W2) (f : Env → Option (List C)) : TA := fun σ H Q => ∃ O own env ds, EnvOk w O own H σ env ∧ f env = some ds ∧ ∀ vs H', Same w H H' → RpCA w (hid O H') vs ds → Q vs H'
def RE (X : Cx) (e : Expr) (f : Env → Option D) : Prop := PE X e (tE (wX X) f)
def REC (X : Cx) (e : Expr) (f : Env → Option C) : Prop := PE X e (tEC (wX X) f)
def REL (X : Cx) (e : Expr) (f : Env → Option (List D)) : Prop := PE X e (tEL (wX X) f)
def REN (X : Cx) (e : Expr) (f : Env → Option (List (D × D))) : Prop := PE X e (tEN (wX X) f)
def RT (X : Cx) (e : Expr) (f : Env → Option Bool) : Prop := PT X e (tT (wX X) f)
def RA (X : Cx) (es : List Expr) (f : Env → Option (List C)) : Prop := PA X es (tA (wX X) f)

theorem peI {X : Cx} {e : Expr} {t t' : TE} (h : PE X e t) (k : ∀ σ H Q, t' σ H Q → t σ H Q) : PE X e t' := ⟨fun pins s σ H Q I q => h.run pins s σ H Q I (k σ H Q q)⟩
theorem ptI {X : Cx} {e : Expr} {t t' : TT} (h : PT X e t) (k : ∀ σ H Q, t' σ H Q → t σ H Q) : PT X e t' := ⟨fun pins s σ H Q I q => h.run pins s σ H Q I (k σ H Q q)⟩
theorem pwI {X : Cx} {e : Expr} {t t' : TT} (h : PW X e t) (k : ∀ σ H Q, t' σ H Q → t σ H Q) : PW X e t' := ⟨fun wh pins s σ H Q I q => h.run wh pins s σ H Q I (k σ H Q q)⟩
theorem paI {X : Cx} {e : List Expr} {t t' : TA} (h : PA X e t) (k : ∀ σ H Q, t' σ H Q → t σ H Q) : PA X e t' := ⟨fun pos pins s σ H Q I q => h.run pos pins s σ H Q I (k σ H Q q)⟩

/-! ### options, opened -/
def bD (o : Option D) (k : D → Option D) : Option D := match o with
  | some d => k d
  | none => none
theorem bD_some {o : Option D} {k : D → Option D} {r : D} (h : bD o k = some r) : ∃ d, o = some d ∧ k d = some r := by
  cases o with
  | none => cases h
  | some d => exact ⟨d, rfl, h⟩

/-! ### names -/
def look : Env → Nat → Option C
  | [], _ => none
  | o :: _, 0 => o
  | _ :: r, i + 1 => look r i
theorem look_some : ∀ {env : Env} {i : Nat} {c : C}, look env i = some c → env[i]? = some (some c)
  | [], _, _, h => by cases h
  | o :: r, 0, _, h => by have e : o = some _ := h; simp [e]
  | _ :: r, i + 1, _, h => by simpa using look_some (env := r) (i := i) h
def xD : Option C → Option D
  | some (.d x) => some x
  | _ => none
theorem xD_some {o : Option C} {d : D} (h : xD o = some d) : o = some (.d d) := by
  unfold xD at h
  split at h
  · cases h; rfl
  · cases h
def eVar (i : Nat) : Env → Option D := fun env => xD (look env i)
def xC : Option C → Option C
  | some (.d x) => some (.d x)
  | some (.dn x) => some (.dn x)
  | some (.di x) => some (.di x)
  | _ => none
def eVarC (i : Nat) : Env → Option C := fun env => xC (look env i)
def xL : Option C → Option (List D)
  | some (.d (.lst xs)) => some xs
  | some (.ol xs) => some xs
  | _ => none
def eVarL (i : Nat) : Env → Option (List D) := fun env => xL (look env i)
def xN : Option C → Option (List (D × D))
  | some (.dn xs) => some xs
  | some (.on xs) => some xs
  | _ => none
def eVarN (i : Nat) : Env → Option (List (D × D)) := fun env => xN (look env i)
section
variable {X : Cx} {pos : Pos}
theorem r_var (i : Nat) {x : Str} (h : PE X (.Name x pos) (tVar i)) : RE X (.Name x pos) (eVar i) := by
  refine peI h fun σ H Q ⟨O, own, env, d, E, e, q⟩ => ?_
  have e1 := look_some (xD_some e)
  rcases E.val i _ e1 with ⟨v, e2, r⟩ | ⟨_, _, _, z, _⟩ | ⟨_, _, _, z, _⟩
  · cases r with | d r => exact ⟨v, e2, q v H (Same.refl H) r⟩
  · cases z
  · cases z
theorem r_varC (i : Nat) {x : Str} (h : PE X (.Name x pos) (tVar i)) : REC X (.Name x pos) (eVarC i) := by
  refine peI h fun σ H Q ⟨O, own, env, d, E, e, q⟩ => ?_
  have e0 : look env i = some d ∧ (∀ z, d ≠ .ol z) ∧ ∀ z, d ≠ .on z := by
    unfold eVarC xC at e
    split at e <;> first | (cases e; done) | (cases e; rename_i h; exact ⟨h, (fun _ z => nomatch z), (fun _ z => nomatch z)⟩)
  obtain ⟨e1, n1, n2⟩ := e0
  rcases E.val i _ (look_some e1) with ⟨v, e2, r⟩ | ⟨_, _, _, z, _⟩ | ⟨_, _, _, z, _⟩
  · exact ⟨v, e2, q v H (Same.refl H) r⟩
  · exact absurd z (n1 _)
  · exact absurd z (n2 _)
theorem r_varL (i : Nat) {x : Str} (h : PE X (.Name x pos) (tVar i)) : REL X (.Name x pos) (eVarL i) := by
  refine peI h fun σ H Q ⟨O, own, env, ds, E, e, q⟩ => ?_
  have e0 : look env i = some (.d (.lst ds)) ∨ look env i = some (.ol ds) := by
    unfold eVarL xL at e
    split at e <;> first | (cases e; done) | (cases e; rename_i h; first | exact .inl h | exact .inr h)
  rcases e0 with e1 | e1
  · rcases E.val i _ (look_some e1) with ⟨v, e2, r⟩ | ⟨_, _, _, z, _⟩ | ⟨_, _, _, z, _⟩
    · cases r with | d r => cases r with | lst h1 h2 => exact ⟨_, e2, q _ _ H (Same.refl H) (hid_ap h1) h2⟩
    · cases z
    · cases z
  · rcases E.val i _ (look_some e1) with ⟨v, e2, r⟩ | ⟨a, xs, ds', z, e2, e3, e4, r⟩ | ⟨_, _, _, z, _⟩
    · cases r
    · cases z; exact ⟨_, e3, q _ _ H (Same.refl H) e4 r⟩
    · cases z
theorem r_varN (i : Nat) {x : Str} (h : PE X (.Name x pos) (tVar i)) : REN X (.Name x pos) (eVarN i) := by
  refine peI h fun σ H Q ⟨O, own, env, ds, E, e, q⟩ => ?_
  have e0 : look env i = some (.dn ds) ∨ look env i = some (.on ds) := by
    unfold eVarN xN at e
    split at e <;> first | (cases e; done) | (cases e; rename_i h; first | exact .inl h | exact .inr h)
  rcases e0 with e1 | e1
  · rcases E.val i _ (look_some e1) with ⟨v, e2, r⟩ | ⟨_, _, _, z, _⟩ | ⟨_, _, _, z, _⟩
    · cases r with | dn h1 h2 => exact ⟨_, e2, q _ _ H (Same.refl H) (h1.mono hid_le) h2⟩
    · cases z
    · cases z
  · rcases E.val i _ (look_some e1) with ⟨v, e2, r⟩ | ⟨_, _, _, z, _⟩ | ⟨a, xs, ds', z, e2, e3, e4, r⟩
    · cases r
    · cases z
    · cases z; exact ⟨_, e3, q _ _ H (Same.refl H) e4 r⟩
/-- data as what a name may hold -/
def eToC (f : Env → Option D) : Env → Option C := fun env => match f env with
  | some d => some (.d d)
  | none => none
def eOfC (f : Env → Option C) : Env → Option D := fun env => xD (f env)
def eToL (f : Env → Option D) : Env → Option (List D) := fun env => match f env with
  | some (.lst ds) => some ds
  | _ => none
def eToN (f : Env → Option C) : Env → Option (List (D × D)) := fun env => match f env with
  | some (.dn ds) => some ds
  | _ => none
theorem r_toC {e : Expr} {f : Env → Option D} (h : RE X e f) : REC X e (eToC f) := by
  refine peI h fun σ H Q ⟨O, own, env, d, E, e, q⟩ => ?_
  unfold eToC at e
  split at e
  · rename_i x hx
    cases e
    exact ⟨O, own, env, x, E, hx, fun v H' k r => q v H' k (.d r)⟩
  · cases e
theorem r_ofC {e : Expr} {f : Env → Option C} (h : REC X e f) : RE X e (eOfC f) := by
  refine peI h fun σ H Q ⟨O, own, env, d, E, e, q⟩ => ?_
  exact ⟨O, own, env, _, E, xD_some e, fun v H' k r => by cases r with | d r => exact q v H' k r⟩
theorem r_toL {e : Expr} {f : Env → Option D} (h : RE X e f) : REL X e (eToL f) := by
  refine peI h fun σ H Q ⟨O, own, env, ds, E, e, q⟩ => ?_
  unfold eToL at e
  split at e
  · rename_i x hx
    cases e
    exact ⟨O, own, env, _, E, hx, fun v H' k r => by cases r with | lst h1 h2 => exact q _ _ H' k (hid_ap h1) h2⟩
  · cases e
theorem r_toN {e : Expr} {f : Env → Option C} (h : REC X e f) : REN X e (eToN f) := by
  refine peI h fun σ H Q ⟨O, own, env, ds, E, e, q⟩ => ?_
  unfold eToN at e
  split at e
  · rename_i x hx
    cases e
    exact ⟨O, own, env, _, E, hx, fun v H' k r => by cases r with | dn h1 h2 => exact q _ _ H' k (h1.mono hid_le) h2⟩
  · cases e

/-! ### constants -/
def eInt (i : Int) : Env → Option D := fun _ => some (.int i)
def eBl (b : Bool) : Env → Option D := fun _ => some (.bl b)
def eNon : Env → Option D := fun _ => some .non
theorem r_int {i j} : RE X (.Constant (.int i) j pos) (eInt i) := peI pe_int fun σ H Q ⟨O, own, env, d, E, e, q⟩ => by cases e; exact q _ H (Same.refl H) (.int i)
theorem r_bl {i j} : RE X (.Constant (.bool i) j pos) (eBl i) := peI pe_bl fun σ H Q ⟨O, own, env, d, E, e, q⟩ => by cases e; exact q _ H (Same.refl H) (.bl i)
theorem r_non {j} : RE X (.Constant .none j pos) eNon := peI pe_non fun σ H Q ⟨O, own, env, d, E, e, q⟩ => by cases e; exact q _ H (Same.refl H) .non
theorem r_glob {x : Str} {i : Int} {t : Tok} (hg : Gl X x) (hm : X.mg x = some (.int i t)) (hd : (x == ("__debug__" : Str)) = false := by decide) : RE X (.Name x pos) (eInt i) :=
  peI (pe_glob (v := .int i) hg hm ⟨t, rfl⟩ hd) fun σ H Q ⟨O, own, env, d, E, e, q⟩ => by cases e; exact q _ H (Same.refl H) (.int i)

/-! ### two-place operations by values -/
/-- f on values gives g on data, and changes nothing; new: a new object may come -/
def Op2 (X : Cx) (f : Value → Value → Sem Value) (g : D → D → Option D) : Prop :=
  OpR X f (fun x y H Q => ∃ O d e r, Rp (hid O H) x d ∧ Rp (hid O H) y e ∧ g d e = some r ∧ (∀ a, O a → ∃ o, H a = some o) ∧ ∀ v H', Same (wX X) H H' → Rp (hid O H') v r → Q v H')
def e2 (g : D → D → Option D) (f1 f2 : Env → Option D) : Env → Option D := fun env => match f1 env with
  | some d => match f2 env with
    | some e => g d e
    | none => none
  | none => none
theorem e2_some {g : D → D → Option D} {f1 f2 : Env → Option D} {env : Env} {r : D} (h : e2 g f1 f2 env = some r) : ∃ d e, f1 env = some d ∧ f2 env = some e ∧ g d e = some r := by
  unfold e2 at h
  split at h
  · rename_i d h1
    split at h
    · rename_i e h2
      exact ⟨d, e, h1, h2, h⟩
    · cases h
  · cases h
theorem tOp2 {w : W2} {r2 : R2} {g : D → D → Option D} {f1 f2 : Env → Option D} (hr : ∀ x y H Q, (∃ O d e r, Rp (hid O H) x d ∧ Rp (hid O H) y e ∧ g d e = some r ∧ (∀ a, O a → ∃ o, H a = some o) ∧ ∀ v H', Same w H H' → Rp (hid O H') v r → Q v H') → r2 x y H Q)
    (σ : St) (H : Hp) (Q : VK) (h : tE w (e2 g f1 f2) σ H Q) : tOp r2 (tE w f1) (tE w f2) σ H Q := by
  obtain ⟨O, own, env, d, E, e, q⟩ := h
  obtain ⟨d1, d2, h1, h2, h3⟩ := e2_some e
  refine ⟨O, own, env, d1, E, h1, fun v1 H1 k1 r1 => ⟨O, own, env, d2, E.mono k1, h2, fun v2 H2 k2 r2 => hr _ _ _ _ ⟨O, d1, d2, d, r1.mono (hid_mono k2), r2, h3, ((E.mono k1).mono k2).there, fun v H' k r => q v H' ((k1.trans k2).trans k) r⟩⟩⟩
theorem r_bin {a b : Expr} {op : Operator} {g : D → D → Option D} {f1 f2 : Env → Option D} (ho : Op2 X (binaryOp op) g) (ha : RE X a f1) (hb : RE X b f2) : RE X (.BinOp a op b pos) (e2 g f1 f2) :=
  peI (pe_op ho ha hb) (tOp2 fun _ _ _ _ h => h)
theorem r_cmp {a b : Expr} {op : CmpOp} {g : D → D → Option D} {f1 f2 : Env → Option D} (ho : Op2 X (compareOp op) g) (ha : RE X a f1) (hb : RE X b f2) (hm : behindInMarks op b = false := by first | exact nomark _ | rfl) : RE X (.Compare a [op] [b] pos) (e2 g f1 f2) :=
  peI (pe_cmpR ho ha hb hm) (tOp2 fun _ _ _ _ h => h)
/-- a value as a test -/
def xB : Option D → Option Bool
  | some (.bl b) => some b
  | _ => none
theorem xB_some {o : Option D} {b : Bool} (h : xB o = some b) : o = some (.bl b) := by
  unfold xB at h
  split at h
  · cases h; rfl
  · cases h
def eB (f : Env → Option D) : Env → Option Bool := fun env => xB (f env)
theorem tE_B {w : W2} {f : Env → Option D} {σ : St} {H : Hp} {Q : Bool → Hp → Prop} (h : tT w (eB f) σ H Q) : tE w f σ H fun x H' => ∃ k, x = .bl k ∧ Q k H' := by
  obtain ⟨O, own, env, b, E, e, q⟩ := h
  exact ⟨O, own, env, _, E, xB_some e, fun v H' k r => by cases r; exact ⟨b, rfl, q H' k⟩⟩
theorem r_cmpT {a b : Expr} {op : CmpOp} {g : D → D → Option D} {f1 f2 : Env → Option D} (ho : Op2 X (compareOp op) g) (ha : RE X a f1) (hb : RE X b f2) (hm : behindInMarks op b = false := by first | exact nomark _ | rfl) : RT X (.Compare a [op] [b] pos) (eB (e2 g f1 f2)) :=
  ptI (pt_cmpR ho ha hb hm) fun σ H Q h => tOp2 (fun _ _ _ _ h => h) σ H _ (tE_B h)
/-- any other expression as a test -/
theorem r_test {e : Expr} {f : Env → Option D} (h : RE X e f) (he : ∀ whole, isTrue e X.env whole = (do let v ← whole; standAt e.pos; holding [v] (truthy v)) := by intro _; rfl) : RT X e (eB f) :=
  ptI (pt_val h he) fun σ H Q q => tE_B q
/-- bools behind tests: and, or, not -/
def tAndF (f1 f2 : Env → Option Bool) : Env → Option Bool := fun env => match f1 env with
  | some true => f2 env
  | some false => some false
  | none => none
def tOrF (f1 f2 : Env → Option Bool) : Env → Option Bool := fun env => match f1 env with
  | some true => some true
  | some false => f2 env
  | none => none
def tNotF (f1 : Env → Option Bool) : Env → Option Bool := fun env => match f1 env with
  | some b => some (!b)
  | none => none
def RW (X : Cx) (e : Expr) (f : Env → Option Bool) : Prop := PW X e (tT (wX X) f)
theorem r_w {e : Expr} {f : Env → Option Bool} (h : RW X e f) : RT X e f := PW.pt h
section
variable {a b : Expr} {rest : List Expr} {f1 f2 : Env → Option Bool}
theorem w_and1 (ha : RT X a f1) : RW X (.BoolOp .And [a] pos) f1 := pw_and1 ha
theorem w_or1 (ha : RT X a f1) : RW X (.BoolOp .Or [a] pos) f1 := pw_or1 ha
theorem w_and (ha : RT X a f1) (hb : RW X (.BoolOp .And (b :: rest) pos) f2) : RW X (.BoolOp .And (a :: b :: rest) pos) (tAndF f1 f2) := by
  refine pwI (pw_and ha hb) fun σ H Q ⟨O, own, env, d, E, e, q⟩ => ?_
  unfold tAndF at e
  split at e
  · rename_i h1; exact ⟨O, own, env, true, E, h1, fun H1 k => iteT ⟨O, own, env, d, E.mono k, e, fun H2 k2 => q H2 (k.trans k2)⟩⟩
  · rename_i h1; cases e; exact ⟨O, own, env, false, E, h1, fun H1 k => iteF (q H1 k)⟩
  · cases e
theorem w_or (ha : RT X a f1) (hb : RW X (.BoolOp .Or (b :: rest) pos) f2) : RW X (.BoolOp .Or (a :: b :: rest) pos) (tOrF f1 f2) := by
  refine pwI (pw_or ha hb) fun σ H Q ⟨O, own, env, d, E, e, q⟩ => ?_
  unfold tOrF at e
  split at e
  · rename_i h1; cases e; exact ⟨O, own, env, true, E, h1, fun H1 k => iteT (q H1 k)⟩
  · rename_i h1; exact ⟨O, own, env, false, E, h1, fun H1 k => iteF ⟨O, own, env, d, E.mono k, e, fun H2 k2 => q H2 (k.trans k2)⟩⟩
  · cases e
theorem r_notT (ha : RT X a f1) : RT X (.UnaryOp .Not a pos) (tNotF f1) := by
  refine ptI (pt_not ha) fun σ H Q ⟨O, own, env, d, E, e, q⟩ => ?_
  unfold tNotF at e
  split at e
  · rename_i b h1; cases e; exact ⟨O, own, env, b, E, h1, fun H1 k => q H1 k⟩
  · cases e
end
/-- .. as values -/
def eAnd (f1 f2 : Env → Option D) : Env → Option D := fun env => match f1 env with
  | some (.bl true) => f2 env
  | some (.bl false) => some (.bl false)
  | _ => none
def eOr (f1 f2 : Env → Option D) : Env → Option D := fun env => match f1 env with
  | some (.bl true) => some (.bl true)
  | some (.bl false) => f2 env
  | _ => none
def eNot (f1 : Env → Option D) : Env → Option D := fun env => match f1 env with
  | some (.bl b) => some (.bl (!b))
  | _ => none
section
variable {a b : Expr} {rest : List Expr} {f1 f2 : Env → Option D}
theorem r_one {op} (ha : RE X a f1) : RE X (.BoolOp op [a] pos) f1 := pe_one ha
end
end
end Ev

set_option Elab.async false
set_option linter.all false
set_option autoImplicit false
set_option maxRecDepth 100000
set_option maxHeartbeats 4000000
/-! Ev3: operators and comparisons on data -/
namespace Ev
open PySem PySem.Spec L2

/-! ### ints, quick in the kernel -/
def iadd : Int → Int → Int
  | .ofNat a, .ofNat b => .ofNat (a + b)
  | i, j => i + j
theorem iadd_eq (i j : Int) : iadd i j = i + j := by
  unfold iadd
  split <;> rfl
def isub : Int → Int → Int
  | .ofNat a, .ofNat b => match Nat.ble b a with
    | true => .ofNat (a - b)
    | false => .negSucc (b - a - 1)
  | i, j => i - j
theorem isub_eq (i j : Int) : isub i j = i - j := by
  unfold isub
  split
  · rename_i a b
    split
    · rename_i h
      have h := Nat.le_of_ble_eq_true h
      show ((a - b : Nat) : Int) = (a : Int) - (b : Int)
      omega
    · rename_i h
      have h : ¬ b ≤ a := fun z => by rw [Nat.ble_eq_true_of_le z] at h; cases h
      show Int.negSucc (b - a - 1) = (a : Int) - (b : Int)
      omega
  · rfl
def ilt : Int → Int → Bool
  | .ofNat a, .ofNat b => Nat.blt a b
  | .negSucc _, .ofNat _ => true
  | .ofNat _, .negSucc _ => false
  | .negSucc a, .negSucc b => Nat.blt b a
theorem nblt {a b : Nat} : Nat.blt a b = decide (a < b) := by
  rw [Bool.eq_iff_iff, Nat.blt_eq, decide_eq_true_iff]
theorem ilt_eq (i j : Int) : ilt i j = decide (i < j) := by
  unfold ilt
  split
  · rename_i a b; rw [nblt]; exact decide_eq_decide.mpr (by show a < b ↔ (a : Int) < (b : Int); omega)
  · rename_i a b; exact (decide_eq_true (by show Int.negSucc a < (b : Int); omega)).symm
  · rename_i a b; exact (decide_eq_false (by show ¬ ((a : Int) < Int.negSucc b); omega)).symm
  · rename_i a b; rw [nblt]; exact decide_eq_decide.mpr (by show b < a ↔ Int.negSucc a < Int.negSucc b; omega)
def ile (i j : Int) : Bool := match ilt j i with
  | true => false
  | false => true
theorem ile_eq (i j : Int) : ile i j = decide (i ≤ j) := by
  unfold ile
  rw [ilt_eq]
  by_cases h : j < i
  · rw [decide_eq_true h]; exact (decide_eq_false (by omega)).symm
  · rw [decide_eq_false h]; exact (decide_eq_true (by omega)).symm
def ieq : Int → Int → Bool
  | .ofNat a, .ofNat b => Nat.beq a b
  | .negSucc a, .negSucc b => Nat.beq a b
  | _, _ => false
theorem nbeq {a b : Nat} : Nat.beq a b = decide (a = b) := by
  rw [Bool.eq_iff_iff, Nat.beq_eq, decide_eq_true_iff]
theorem ieq_eq (i j : Int) : ieq i j = (i == j) := by
  rw [Bool.beq_eq_decide_eq]
  cases i <;> cases j <;> unfold ieq
  · rename_i a b; show Nat.beq a b = _; rw [nbeq]; exact decide_eq_decide.mpr (by show a = b ↔ Int.ofNat a = Int.ofNat b; exact ⟨fun h => by rw [h], fun h => Int.ofNat.inj h⟩)
  · exact (decide_eq_false (fun h => nomatch h)).symm
  · exact (decide_eq_false (fun h => nomatch h)).symm
  · rename_i a b; show Nat.beq a b = _; rw [nbeq]; exact decide_eq_decide.mpr (by show a = b ↔ Int.negSucc a = Int.negSucc b; exact ⟨fun h => by rw [h], fun h => Int.negSucc.inj h⟩)

/-! ### == of data -/
mutual
def deq : D → D → Bool
  | .non, .non => true
  | .bl a, .bl b => match a, b with
    | true, true => true
    | false, false => true
    | _, _ => false
  | .bl a, .int j => ieq (match a with | true => 1 | false => 0) j
  | .int i, .bl b => ieq i (match b with | true => 1 | false => 0)
  | .int i, .int j => ieq i j
  | .tup xs, .tup ys => deqs xs ys
  | .lst xs, .lst ys => deqs xs ys
  | _, _ => false
def deqs : List D → List D → Bool
  | [], [] => true
  | x :: xs, y :: ys => match deq x y with
    | true => deqs xs ys
    | false => false
  | _, _ => false
end
mutual
def toP : D → PyData
  | .non => .none
  | .bl b => .bool b
  | .int i => .int i
  | .tup xs => .tuple (toPs xs)
  | .lst xs => .list (toPs xs)
def toPs : List D → List PyData
  | [] => []
  | x :: xs => toP x :: toPs xs
end
mutual
theorem deq_eq : ∀ d e : D, deq d e = PyData.eqv (toP d) (toP e)
  | .non, e => by cases e <;> simp [deq, toP, PyData.eqv]
  | .bl a, e => by cases e <;> cases a <;> simp [deq, toP, PyData.eqv, ieq_eq] <;> (rename_i b; cases b <;> simp)
  | .int i, e => by cases e <;> simp [deq, toP, PyData.eqv, ieq_eq] <;> (rename_i b; cases b <;> simp)
  | .tup xs, .tup ys => by simp only [deq, toP, PyData.eqv]; exact deqs_eq xs ys
  | .lst xs, .lst ys => by simp only [deq, toP, PyData.eqv]; exact deqs_eq xs ys
  | .tup xs, .non => by simp [deq, toP, PyData.eqv]
  | .tup xs, .bl _ => by simp [deq, toP, PyData.eqv]
  | .tup xs, .int _ => by simp [deq, toP, PyData.eqv]
  | .tup xs, .lst _ => by simp [deq, toP, PyData.eqv]
  | .lst xs, .non => by simp [deq, toP, PyData.eqv]
  | .lst xs, .bl _ => by simp [deq, toP, PyData.eqv]
  | .lst xs, .int _ => by simp [deq, toP, PyData.eqv]
  | .lst xs, .tup _ => by simp [deq, toP, PyData.eqv]
theorem deqs_eq : ∀ d e : List D, deqs d e = PyData.eqvAll (toPs d) (toPs e)
  | [], [] => by simp [deqs, toPs, PyData.eqvAll]
  | [], _ :: _ => by simp [deqs, toPs, PyData.eqvAll]
  | _ :: _, [] => by simp [deqs, toPs, PyData.eqvAll]
  | x :: xs, y :: ys => by
    simp only [deqs, toPs, PyData.eqvAll]
    rw [← deq_eq x y, ← deqs_eq xs ys]
    cases deq x y <;> rfl
end
mutual
theorem canLay_toP : ∀ d : D, (toP d).canLay0 = true
  | .non => by simp [toP, PyData.canLay0]
  | .bl _ => by simp [toP, PyData.canLay0]
  | .int _ => by simp [toP, PyData.canLay0]
  | .tup xs => by simp only [toP, PyData.canLay0]; exact canLay_toPs xs
  | .lst xs => by simp only [toP, PyData.canLay0]; exact canLay_toPs xs
theorem canLay_toPs : ∀ d : List D, PyData.canLayAll0 (toPs d) = true
  | [] => by simp [toPs, PyData.canLayAll0]
  | x :: xs => by simp only [toPs, PyData.canLayAll0]; rw [canLay_toP x, canLay_toPs xs]; rfl
end
mutual
/-- nested no deeper -/
def dle : D → Nat → Bool
  | .tup xs, n => match n with
    | 0 => false
    | m + 1 => dles xs m
  | .lst xs, n => match n with
    | 0 => false
    | m + 1 => dles xs m
  | _, _ => true
def dles : List D → Nat → Bool
  | [], _ => true
  | x :: xs, n => match dle x n with
    | true => dles xs n
    | false => false
end
mutual
theorem dle_ok : ∀ (d : D) (n : Nat), dle d n = true → (toP d).depth ≤ n
  | .non, n, _ => by simp [toP, PyData.depth]
  | .bl _, n, _ => by simp [toP, PyData.depth]
  | .int _, n, _ => by simp [toP, PyData.depth]
  | .tup xs, 0, h => by simp [dle] at h
  | .lst xs, 0, h => by simp [dle] at h
  | .tup xs, n + 1, h => by simp only [toP, PyData.depth]; have := dles_ok xs n (by simpa [dle] using h); omega
  | .lst xs, n + 1, h => by simp only [toP, PyData.depth]; have := dles_ok xs n (by simpa [dle] using h); omega
theorem dles_ok : ∀ (d : List D) (n : Nat), dles d n = true → PyData.depthAll (toPs d) ≤ n
  | [], n, _ => by simp [toPs, PyData.depthAll]
  | x :: xs, n, h => by
    have h1 : dle x n = true ∧ dles xs n = true := by
      cases q : dle x n
      · rw [dles, q] at h; cases h
      · rw [dles, q] at h; exact ⟨rfl, h⟩
    simp only [toPs, PyData.depthAll]
    have := dle_ok x n h1.1
    have := dles_ok xs n h1.2
    omega
end
mutual
theorem Rp.dp {K : PySem.W.Frag} {H : Hp} : ∀ {d : D} {v : V}, Rp H v d → Dp K H v (toP d)
  | .non, _, h => by cases h; exact .non
  | .bl b, _, h => by cases h; exact .bl b
  | .int i, _, h => by cases h; exact .int i
  | .tup ds, _, h => by cases h with | tup e r => exact .tup (SqT.of e) (RpA.dp r)
  | .lst ds, _, h => by cases h with | lst e r => exact .lst (SqL.of e) (RpA.dp r)
theorem RpA.dp {K : PySem.W.Frag} {H : Hp} : ∀ {ds : List D} {vs : List V}, RpA H vs ds → DpAll K H vs (toPs ds)
  | [], _, h => by cases h; exact .nil
  | d :: ds, _, h => by cases h with | cons a b => exact .cons (Rp.dp a) (RpA.dp b)
end

/-! ### values that are looked at: comparisons -/
def tEV (w : W2) (f : Env → Option D) : TE := fun σ H Q => ∃ O own env d, EnvOk w O own H σ env ∧ f env = some d ∧ ∀ v H', Same w H H' → Rp H' v d → Q v H'
def REV (X : Cx) (e : Expr) (f : Env → Option D) : Prop := PE X e (tEV (wX X) f)
def eLV (f : Env → Option (List D)) : Env → Option D := fun env => match f env with
  | some ds => some (.lst ds)
  | none => none
section
variable {X : Cx} {pos : Pos} {a b : Expr}
theorem r_V {e : Expr} {f : Env → Option D} (h : RE X e f) : REV X e f := peI h fun σ H Q ⟨O, own, env, d, E, e, q⟩ => ⟨O, own, env, d, E, e, fun v H' k r => q v H' k (r.mono hid_le)⟩
theorem r_LV {e : Expr} {f : Env → Option (List D)} (h : REL X e f) : REV X e (eLV f) := by
  refine peI h fun σ H Q ⟨O, own, env, d, E, e, q⟩ => ?_
  unfold eLV at e
  split at e
  · rename_i ds hd
    cases e
    exact ⟨O, own, env, ds, E, hd, fun a xs H' k h1 h2 => q _ H' k (.lst h1 (h2.mono hid_le))⟩
  · cases e
/-- a comparison on data -/
def CmpD (X : Cx) (op : CmpOp) (g : D → D → Option Bool) : Prop :=
  OpR X (compareOp op) (fun x y H Q => ∃ d e r, Rp H x d ∧ Rp H y e ∧ g d e = some r ∧ Q (.bl r) H)
def c2 (g : D → D → Option Bool) (f1 f2 : Env → Option D) : Env → Option Bool := fun env => match f1 env with
  | some d => match f2 env with
    | some e => g d e
    | none => none
  | none => none
theorem c2_some {g : D → D → Option Bool} {f1 f2 : Env → Option D} {env : Env} {r : Bool} (h : c2 g f1 f2 env = some r) : ∃ d e, f1 env = some d ∧ f2 env = some e ∧ g d e = some r := by
  unfold c2 at h
  split at h
  · rename_i d h1
    split at h
    · rename_i e h2
      exact ⟨d, e, h1, h2, h⟩
    · cases h
  · cases h
def eOfB (f : Env → Option Bool) : Env → Option D := fun env => match f env with
  | some b => some (.bl b)
  | none => none
theorem eOfB_some {f : Env → Option Bool} {env : Env} {d : D} (h : eOfB f env = some d) : ∃ b, f env = some b ∧ d = .bl b := by
  unfold eOfB at h
  split at h
  · rename_i b hb; cases h; exact ⟨b, hb, rfl⟩
  · cases h
theorem cmp_core {w : W2} {g : D → D → Option Bool} {f1 f2 : Env → Option D} {O : Addr → Prop} {own : Nat → Option Addr} {env : Env} {σ : St} {H : Hp} {Q : VK} {r : Bool} (E : EnvOk w O own H σ env) (e : c2 g f1 f2 env = some r) (q : ∀ H', Same w H H' → Q (.bl r) H') :
    tOp (fun x y H Q => ∃ d e r, Rp H x d ∧ Rp H y e ∧ g d e = some r ∧ Q (.bl r) H) (tEV w f1) (tEV w f2) σ H Q := by
  obtain ⟨d1, d2, h1, h2, h3⟩ := c2_some e
  exact ⟨O, own, env, d1, E, h1, fun v1 H1 k1 r1 => ⟨O, own, env, d2, E.mono k1, h2, fun v2 H2 k2 r2 => ⟨d1, d2, r, r1.mono k2.sub, r2, h3, q H2 (k1.trans k2)⟩⟩⟩
theorem r_cmpV {op : CmpOp} {g : D → D → Option Bool} {f1 f2 : Env → Option D} (ho : CmpD X op g) (ha : REV X a f1) (hb : REV X b f2) (hm : behindInMarks op b = false := by first | exact nomark _ | rfl) : RE X (.Compare a [op] [b] pos) (eOfB (c2 g f1 f2)) := by
  refine peI (pe_cmpR ho ha hb hm) fun σ H Q ⟨O, own, env, d, E, e, q⟩ => ?_
  obtain ⟨r, hr, rfl⟩ := eOfB_some e
  exact cmp_core E hr fun H' k => q _ H' k (.bl r)
theorem r_cmpVT {op : CmpOp} {g : D → D → Option Bool} {f1 f2 : Env → Option D} (ho : CmpD X op g) (ha : REV X a f1) (hb : REV X b f2) (hm : behindInMarks op b = false := by first | exact nomark _ | rfl) : RT X (.Compare a [op] [b] pos) (c2 g f1 f2) := by
  refine ptI (pt_cmpR ho ha hb hm) fun σ H Q ⟨O, own, env, r, E, e, q⟩ => ?_
  exact cmp_core E e fun H' k => ⟨r, rfl, q H' k⟩
/-- a op1 b op2 c -/
def c3 (g1 g2 : D → D → Option Bool) (f1 f2 f3 : Env → Option D) : Env → Option Bool := fun env => match f1 env with
  | some d => match f2 env with
    | some e => match g1 d e with
      | some true => match f3 env with
        | some f => g2 e f
        | none => none
      | some false => some false
      | none => none
    | none => none
  | none => none
theorem c3_core {w : W2} {g1 g2 : D → D → Option Bool} {f1 f2 f3 : Env → Option D} {O : Addr → Prop} {own : Nat → Option Addr} {env : Env} {σ : St} {H : Hp} {Q : VK} {r : Bool} (E : EnvOk w O own H σ env) (e : c3 g1 g2 f1 f2 f3 env = some r) (q : ∀ H', Same w H H' → Q (.bl r) H') :
    tChain (fun x y H Q => ∃ d e r, Rp H x d ∧ Rp H y e ∧ g1 d e = some r ∧ Q (.bl r) H) (fun x y H Q => ∃ d e r, Rp H x d ∧ Rp H y e ∧ g2 d e = some r ∧ Q (.bl r) H) (tEV w f1) (tEV w f2) (tEV w f3) σ H Q := by
  unfold c3 at e
  split at e
  · rename_i d1 h1
    split at e
    · rename_i d2 h2
      refine ⟨O, own, env, d1, E, h1, fun v1 H1 k1 r1 => ⟨O, own, env, d2, E.mono k1, h2, fun v2 H2 k2 r2 => ?_⟩⟩
      split at e
      · rename_i h3
        split at e
        · rename_i d3 h4
          exact ⟨d1, d2, true, r1.mono k2.sub, r2, h3, true, rfl, iteT ⟨O, own, env, d3, (E.mono k1).mono k2, h4, fun v3 H3 k3 r3 => ⟨d2, d3, r, r2.mono k3.sub, r3, e, q H3 ((k1.trans k2).trans k3)⟩⟩⟩
        · cases e
      · rename_i h3
        cases e
        exact ⟨d1, d2, false, r1.mono k2.sub, r2, h3, false, rfl, iteF (q H2 (k1.trans k2))⟩
      · cases e
    · cases e
  · cases e
theorem r_chain {c : Expr} {op op' : CmpOp} {g1 g2 : D → D → Option Bool} {f1 f2 f3 : Env → Option D} (ho : CmpD X op g1) (ho' : CmpD X op' g2) (ha : REV X a f1) (hb : REV X b f2) (hc : REV X c f3)
    (hm : lastMarks [op, op'] [b, c] = false := by with_unfolding_all rfl) : RE X (.Compare a [op, op'] [b, c] pos) (eOfB (c3 g1 g2 f1 f2 f3)) := by
  refine peI (pe_chain ho ho' ha hb hc hm) fun σ H Q ⟨O, own, env, d, E, e, q⟩ => ?_
  obtain ⟨r, hr, rfl⟩ := eOfB_some e
  exact c3_core E hr fun H' k => q _ H' k (.bl r)
theorem r_chainT {c : Expr} {op op' : CmpOp} {g1 g2 : D → D → Option Bool} {f1 f2 f3 : Env → Option D} (ho : CmpD X op g1) (ho' : CmpD X op' g2) (ha : REV X a f1) (hb : REV X b f2) (hc : REV X c f3)
    (hm : lastMarks [op, op'] [b, c] = false := by with_unfolding_all rfl) : RT X (.Compare a [op, op'] [b, c] pos) (c3 g1 g2 f1 f2 f3) := by
  refine ptI (pt_chain ho ho' ha hb hc hm) fun σ H Q ⟨O, own, env, r, E, e, q⟩ => ?_
  exact c3_core E e fun H' k => ⟨r, rfl, q H' k⟩
end
/-! ### the comparisons -/
def gEq (d e : D) : Option Bool := match dle e 40 with
  | true => some (deq d e)
  | false => none
def gNe (d e : D) : Option Bool := match dle e 40 with
  | true => some (match deq d e with | true => false | false => true)
  | false => none
def gInt (p : Int → Int → Bool) : D → D → Option Bool
  | .int i, .int j => some (p i j)
  | _, _ => none
def gLt := gInt ilt
def gLe := gInt ile
def gGt := gInt fun i j => ilt j i
def gGe := gInt fun i j => ile j i
def dmem (d : D) : List D → Bool
  | [] => false
  | x :: xs => match deq x d with
    | true => true
    | false => dmem d xs
def gIn (d : D) (e : D) : Option Bool := match dle d 40 with
  | true => match e with
    | .lst xs => some (dmem d xs)
    | .tup xs => some (dmem d xs)
    | _ => none
  | false => none
def gNotIn (d e : D) : Option Bool := match gIn d e with
  | some true => some false
  | some false => some true
  | none => none
def gIsN (d : D) (e : D) : Option Bool := match e with
  | .non => some (match d with | .non => true | _ => false)
  | _ => none
def gNotN (d : D) (e : D) : Option Bool := match e with
  | .non => some (match d with | .non => false | _ => true)
  | _ => none
theorem dmem_eq (d : D) : ∀ xs : List D, dmem d xs = (toPs xs).any fun y => PyData.eqv y (toP d)
  | [] => rfl
  | x :: xs => by
    rw [dmem, toPs, List.any_cons, ← deq_eq x d, ← dmem_eq d xs]
    cases deq x d <;> rfl
section
variable {X : Cx}
theorem c_eq (hu : X.A.units + 64 < cLine) : CmpD X .Eq gEq := by
  intro pins s σ H x y v u Q I rx ry h
  obtain ⟨d, e, r, hd, he, hg, q⟩ := h
  obtain ⟨as, r1⟩ := Dp.reads I _ x v hd.dp rx
  obtain ⟨bs, r2⟩ := Dp.reads I _ y u he.dp ry
  unfold gEq at hg
  split at hg
  · rename_i hz
    have := dle_ok e 40 hz
    cases hg
    refine SeqAt.compareEq_reads r1 r2 (canLay_toP d) (canLay_toP e) (by omega) ⟨.bl _, H, I, rfl, ?_⟩
    rw [← deq_eq]
    exact q
  · cases hg
theorem c_ne (hu : X.A.units + 64 < cLine) : CmpD X .NotEq gNe := by
  intro pins s σ H x y v u Q I rx ry h
  obtain ⟨d, e, r, hd, he, hg, q⟩ := h
  obtain ⟨as, r1⟩ := Dp.reads I _ x v hd.dp rx
  obtain ⟨bs, r2⟩ := Dp.reads I _ y u he.dp ry
  unfold gNe at hg
  split at hg
  · rename_i hz
    have := dle_ok e 40 hz
    cases hg
    refine SeqAt.compareNe_reads r1 r2 (canLay_toP d) (canLay_toP e) (by omega) ⟨.bl _, H, I, rfl, ?_⟩
    rw [← deq_eq]
    cases hh : deq d e <;> (rw [hh] at q; exact q)
  · cases hg
theorem c_int {op : CmpOp} {p : Int → Int → Bool} (ho : OpR X (compareOp op) (rI0 fun i j => .bl (p i j))) : CmpD X op (gInt p) := by
  intro pins s σ H x y v u Q I rx ry h
  obtain ⟨d, e, r, hd, he, hg, q⟩ := h
  unfold gInt at hg
  split at hg
  · cases hg
    cases hd
    cases he
    exact ho pins s σ H _ _ v u Q I rx ry ⟨_, _, rfl, rfl, q⟩
  · cases hg
theorem c_lt : CmpD X .Lt gLt := c_int (by simp only [ilt_eq]; exact op_lt)
theorem c_le : CmpD X .LtE gLe := c_int (by simp only [ile_eq]; exact op_le)
theorem c_gt : CmpD X .Gt gGt := c_int (by simp only [ilt_eq]; exact op_gt)
theorem c_ge : CmpD X .GtE gGe := c_int (by simp only [ile_eq]; exact op_ge)
theorem c_isN : CmpD X .Is gIsN := by
  intro pins s σ H x y v u Q I rx ry h
  obtain ⟨d, e, r, hd, he, hg, q⟩ := h
  unfold gIsN at hg
  split at hg
  · cases he
    refine op_isN pins s σ H _ _ v u Q I rx ry ⟨rfl, ?_⟩
    cases hg
    cases hd <;> exact q
  · cases hg
theorem c_notN : CmpD X .IsNot gNotN := by
  intro pins s σ H x y v u Q I rx ry h
  obtain ⟨d, e, r, hd, he, hg, q⟩ := h
  unfold gNotN at hg
  split at hg
  · cases he
    refine op_notN pins s σ H _ _ v u Q I rx ry ⟨rfl, ?_⟩
    cases hg
    cases hd <;> exact q
  · cases hg
theorem gIn_some {d e : D} {r : Bool} (h : gIn d e = some r) : dle d 40 = true ∧ ((∃ xs, e = .lst xs ∧ r = dmem d xs) ∨ ∃ xs, e = .tup xs ∧ r = dmem d xs) := by
  unfold gIn at h
  split at h
  · rename_i hz
    refine ⟨hz, ?_⟩
    split at h
    · cases h; exact .inl ⟨_, rfl, rfl⟩
    · cases h; exact .inr ⟨_, rfl, rfl⟩
    · cases h
  · cases h
theorem c_in (hu : X.A.units + 64 < cLine) : CmpD X .In gIn := by
  intro pins s σ H x y v u Q I rx ry h
  obtain ⟨d, e, r, hd, he, hg, q⟩ := h
  obtain ⟨as, r1⟩ := Dp.reads I _ x v hd.dp rx
  obtain ⟨bs, r2⟩ := Dp.reads I _ y u he.dp ry
  obtain ⟨hz, hh⟩ := gIn_some hg
  have := dle_ok d 40 hz
  rcases hh with ⟨xs, rfl, rfl⟩ | ⟨xs, rfl, rfl⟩
  · refine SeqAt.in_list_reads r2 r1 (canLay_toPs xs) (canLay_toP d) (by omega) ⟨.bl _, H, I, rfl, ?_⟩
    rw [← dmem_eq]; exact q
  · refine SeqAt.in_tuple_reads r2 r1 (canLay_toPs xs) (canLay_toP d) (by omega) ⟨.bl _, H, I, rfl, ?_⟩
    rw [← dmem_eq]; exact q
theorem c_notIn (hu : X.A.units + 64 < cLine) : CmpD X .NotIn gNotIn := by
  intro pins s σ H x y v u Q I rx ry h
  obtain ⟨d, e, r, hd, he, hg, q⟩ := h
  obtain ⟨as, r1⟩ := Dp.reads I _ x v hd.dp rx
  obtain ⟨bs, r2⟩ := Dp.reads I _ y u he.dp ry
  have hg' : gIn d e = some (!r) := by
    unfold gNotIn at hg
    split at hg <;> first | (cases hg; assumption) | cases hg
  obtain ⟨hz, hh⟩ := gIn_some hg'
  have := dle_ok d 40 hz
  rcases hh with ⟨xs, rfl, e1⟩ | ⟨xs, rfl, e1⟩
  · refine SeqAt.notIn_list_reads r2 r1 (canLay_toPs xs) (canLay_toP d) (by omega) ⟨.bl _, H, I, rfl, ?_⟩
    rw [← dmem_eq, ← e1, Bool.not_not]; exact q
  · refine SeqAt.notIn_tuple_reads r2 r1 (canLay_toPs xs) (canLay_toP d) (by omega) ⟨.bl _, H, I, rfl, ?_⟩
    rw [← dmem_eq, ← e1, Bool.not_not]; exact q
end
/-! ### the operators -/
def oI (p : Int → Int → Option Int) : D → D → Option D
  | .int i, .int j => match p i j with
    | some k => some (.int k)
    | none => none
  | _, _ => none
def oAdd := oI fun i j => some (iadd i j)
def oSub := oI fun i j => some (isub i j)
def smallI (i : Int) : Bool := match ilt i 1000000000 with
  | true => ilt (-1000000000) i
  | false => false
def oMul := oI fun i j => match smallI i with
  | true => some (i * j)
  | false => none
def oDiv := oI fun i j => match ilt 0 j with
  | true => match ilt j 1000000000 with
    | true => some (i / j)
    | false => none
  | false => none
def oMod := oI fun i j => match ilt 0 j with
  | true => some (i % j)
  | false => none
section
variable {X : Cx}
theorem oI_op {f : Value → Value → Sem Value} {CC : Int → Int → Prop} {g : Int → Int → Int} {p : Int → Int → Option Int} (ho : OpR X f (rI CC fun i j => .int (g i j))) (hp : ∀ i j k, p i j = some k → CC i j ∧ g i j = k) : Op2 X f (oI p) := by
  intro pins s σ H x y v u Q I rx ry h
  obtain ⟨O, d, e, r, hd, he, hg, _, q⟩ := h
  unfold oI at hg
  split at hg
  · split at hg
    · rename_i k hk
      cases hg
      cases hd
      cases he
      obtain ⟨h1, h2⟩ := hp _ _ _ hk
      exact ho pins s σ H _ _ v u Q I rx ry ⟨_, _, rfl, rfl, h1, q _ H (Same.refl H) (by dsimp only; rw [h2]; exact .int _)⟩
    · cases hg
  · cases hg
theorem o_add : Op2 X (binaryOp .Add) oAdd := oI_op (CC := fun _ _ => True) (g := fun i j => i + j) (fun pins s σ H x y v u Q I rx ry ⟨i, j, a, b, _, q⟩ => op_add pins s σ H x y v u Q I rx ry ⟨i, j, a, b, q⟩) fun i j k h => ⟨trivial, by rw [← iadd_eq]; exact Option.some.inj h⟩
theorem o_sub : Op2 X (binaryOp .Sub) oSub := oI_op (CC := fun _ _ => True) (g := fun i j => i - j) (fun pins s σ H x y v u Q I rx ry ⟨i, j, a, b, _, q⟩ => op_sub pins s σ H x y v u Q I rx ry ⟨i, j, a, b, q⟩) fun i j k h => ⟨trivial, by rw [← isub_eq]; exact Option.some.inj h⟩
theorem smallI_ok {i : Int} (h : smallI i = true) : -1000000000 < i ∧ i < 1000000000 := by
  unfold smallI at h
  split at h
  · rename_i h1
    rw [ilt_eq] at h1 h
    exact ⟨of_decide_eq_true h, of_decide_eq_true h1⟩
  · cases h
theorem o_mul : Op2 X (binaryOp .Mult) oMul := oI_op (CC := CMul) (g := fun i j => i * j) op_mul fun i j k h => by
  split at h
  · rename_i h1
    have := smallI_ok h1
    exact ⟨.inl ⟨by omega, by omega⟩, Option.some.inj h⟩
  · cases h
theorem o_div : Op2 X (binaryOp .FloorDiv) oDiv := oI_op (CC := CDiv) (g := fun i j => i / j) op_fdiv fun i j k h => by
  split at h
  · rename_i h1
    split at h
    · rename_i h2
      rw [ilt_eq] at h1 h2
      have h1 := of_decide_eq_true h1
      have h2 := of_decide_eq_true h2
      exact ⟨⟨h1, by omega⟩, Option.some.inj h⟩
    · cases h
  · cases h
theorem o_mod : Op2 X (binaryOp .Mod) oMod := oI_op (CC := fun _ j => 0 < j) (g := fun i j => i % j) op_mod fun i j k h => by
  split at h
  · rename_i h1
    rw [ilt_eq] at h1
    exact ⟨of_decide_eq_true h1, Option.some.inj h⟩
  · cases h
/-- so short -/
def short {α : Type} : List α → Nat → Bool
  | [], _ => true
  | _ :: r, n => match n with
    | 0 => false
    | m + 1 => short r m
theorem short_ok {α : Type} : ∀ {l : List α} {n : Nat}, short l n = true → l.length ≤ n
  | [], _, _ => Nat.zero_le _
  | _ :: r, 0, h => by cases h
  | _ :: r, n + 1, h => Nat.succ_le_succ (short_ok (l := r) (n := n) h)
theorem short_line {α : Type} {l : List α} (h : short l 1000 = true) : l.length < sizeLine := Nat.lt_of_le_of_lt (short_ok h) (by rw [sizeLine_eq]; decide)
/-- tuples put together -/
def oCat : D → D → Option D
  | .tup xs, .tup ys => match short (xs ++ ys) 1000 with
    | true => some (.tup (xs ++ ys))
    | false => none
  | _, _ => none
theorem fresh_of {O : Addr → Prop} {H : Hp} (th : ∀ a, O a → ∃ o, H a = some o) {p : Addr} (h : H p = none) : ¬ O p := fun z => by
  obtain ⟨o, e⟩ := th p z
  rw [h] at e; cases e
/-- a new tuple, a new list -/
theorem Rp.newT {O : Addr → Prop} {H : Hp} {p : Addr} {xs : List V} {ds : List D} (h : H p = none) (n : ¬ O p) (r : RpA (hid O H) xs ds) : Rp (hid O (upd H p (.tup xs))) (.ref p) (.tup ds) :=
  .tup (hid_some.mpr ⟨upd_same, n⟩) (r.mono (hid_monoS (Sub.upd h)))
theorem Rp.newL {O : Addr → Prop} {H : Hp} {p : Addr} {xs : List V} {ds : List D} (h : H p = none) (n : ¬ O p) (r : RpA (hid O H) xs ds) : Rp (hid O (upd H p (.lst xs))) (.ref p) (.lst ds) :=
  .lst (hid_some.mpr ⟨upd_same, n⟩) (r.mono (hid_monoS (Sub.upd h)))
theorem RpA.nilD {H : Hp} {ds : List D} (h : RpA H [] ds) : ds = [] := by cases h; rfl
theorem o_cat : Op2 X (binaryOp .Add) oCat := by
  intro pins s σ H x y v u Q I rx ry h
  obtain ⟨O, d, e, r, hd, he, hg, th, q⟩ := h
  unfold oCat at hg
  split at hg
  · rename_i ds es
    split at hg
    · rename_i hs
      cases hg
      cases hd with
      | @tup a xs _ ea ra =>
      cases he with
      | @tup b ys _ eb rb =>
        have hl : xs.length + ys.length ≤ sizeLine := by
          have := short_line hs
          rw [List.length_append] at this
          rw [ra.length, rb.length]
          omega
        refine op_catA pins s σ H _ _ v u Q I rx ry ⟨a, b, xs, ys, rfl, rfl, SqT.of (hid_ap ea), SqT.of (hid_ap eb), hl, fun z => ?_, fun _ z => ?_, fun _ _ p hp => ?_⟩
        · subst z
          cases ra.nilD
          exact q _ H (Same.refl H) (.tup eb rb)
        · subst z
          cases rb.nilD
          exact q _ H (Same.refl H) (by rw [List.append_nil]; exact .tup ea ra)
        · exact q _ _ (Same.upd hp) (Rp.newT hp (fresh_of th hp) (ra.append rb))
    · cases hg
  · cases hg
/-- lists put together -/
def eCatL (f1 f2 : Env → Option (List D)) : Env → Option D := fun env => match f1 env with
  | some xs => match f2 env with
    | some ys => match short (xs ++ ys) 1000 with
      | true => some (.lst (xs ++ ys))
      | false => none
    | none => none
  | none => none
theorem r_catL {a b : Expr} {pos : Pos} {f1 f2 : Env → Option (List D)} (ha : REL X a f1) (hb : REL X b f2) : RE X (.BinOp a .Add b pos) (eCatL f1 f2) := by
  refine peI (pe_op op_cat ha hb) fun σ H Q ⟨O, own, env, d, E, e, q⟩ => ?_
  unfold eCatL at e
  split at e
  · rename_i ds h1
    split at e
    · rename_i es h2
      split at e
      · rename_i hs
        cases e
        refine ⟨O, own, env, ds, E, h1, fun a xs H1 k1 e1 r1 => ⟨O, own, env, es, E.mono k1, h2, fun b ys H2 k2 e2 r2 => ?_⟩⟩
        have r1' := r1.mono (hid_mono (O := O) k2)
        have hl : xs.length + ys.length ≤ sizeLine := by
          have := short_line hs
          rw [List.length_append] at this
          rw [r1'.length, r2.length]
          omega
        exact ⟨a, b, xs, ys, rfl, rfl, k2.ap e1, e2, hl, fun p hp => q _ _ ((k1.trans k2).trans (Same.upd hp)) (Rp.newL hp (fresh_of ((E.mono k1).mono k2).there hp) (r1'.append r2))⟩
      · cases e
    · cases e
  · cases e
end
end Ev

set_option Elab.async false
set_option linter.all false
set_option autoImplicit false
set_option maxRecDepth 100000
set_option maxHeartbeats 4000000
/-! Ev4: displays, places, calls -/
namespace Ev
open PySem PySem.Spec L2

/-! ### arguments, displays -/
def aNil : Env → Option (List C) := fun _ => some []
def aCons (f : Env → Option C) (g : Env → Option (List C)) : Env → Option (List C) := fun env => match f env with
  | some c => match g env with
    | some cs => some (c :: cs)
    | none => none
  | none => none
theorem aCons_some {f : Env → Option C} {g : Env → Option (List C)} {env : Env} {cs : List C} (h : aCons f g env = some cs) : ∃ c r, f env = some c ∧ g env = some r ∧ cs = c :: r := by
  unfold aCons at h
  split at h
  · rename_i c h1
    split at h
    · rename_i r h2
      cases h
      exact ⟨c, r, h1, h2, rfl⟩
    · cases h
  · cases h
/-- data alone -/
def dsOf : List C → Option (List D)
  | [] => some []
  | .d x :: r => match dsOf r with
    | some ds => some (x :: ds)
    | none => none
  | _ :: _ => none
theorem RpCA.data {w : W2} {H : Hp} : ∀ {cs : List C} {vs : List V} {ds : List D}, RpCA w H vs cs → dsOf cs = some ds → RpA H vs ds
  | [], _, _, h, e => by cases h; cases e; exact .nil
  | .d x :: r, _, _, h, e => by
    cases h with
    | cons a b =>
      unfold dsOf at e
      split at e
      · rename_i ds hd
        cases e
        cases a with
        | d a => exact .cons a (RpCA.data b hd)
      · cases e
  | .dn _ :: r, _, _, h, e => by cases e
  | .di _ :: r, _, _, h, e => by cases e
  | .ol _ :: r, _, _, h, e => by cases e
  | .on _ :: r, _, _, h, e => by cases e
  | .raw _ :: r, _, _, h, e => by cases e
def eTup (f : Env → Option (List C)) : Env → Option D := fun env => match f env with
  | some cs => match dsOf cs with
    | some ds => match short ds 1000 with
      | true => some (.tup ds)
      | false => none
    | none => none
  | none => none
def eLst (f : Env → Option (List C)) : Env → Option D := fun env => match f env with
  | some cs => match dsOf cs with
    | some ds => match short ds 1000 with
      | true => some (.lst ds)
      | false => none
    | none => none
  | none => none
section
variable {X : Cx} {pos : Pos} {e : Expr} {es : List Expr}
theorem r_anil : RA X [] aNil := paI pa_nil fun σ H Q ⟨O, own, env, d, E, e, q⟩ => by cases e; exact q [] H (Same.refl H) .nil
theorem r_acons {f : Env → Option C} {g : Env → Option (List C)} (h : REC X e f) (hr : RA X es g) (hs : starEach (e :: es) X.env = (false, eval e X.env) :: starEach es X.env := by rfl) : RA X (e :: es) (aCons f g) := by
  refine paI (pa_cons h hr hs) fun σ H Q ⟨O, own, env, cs, E, e, q⟩ => ?_
  obtain ⟨c, r, h1, h2, rfl⟩ := aCons_some e
  exact ⟨O, own, env, c, E, h1, fun v H1 k1 r1 => ⟨O, own, env, r, E.mono k1, h2, fun vs H2 k2 r2 => q (v :: vs) H2 (k1.trans k2) (.cons (r1.mono (hid_mono k2)) r2)⟩⟩
/-- an argument that is data -/
theorem r_acd {f : Env → Option D} {g : Env → Option (List C)} (h : RE X e f) (hr : RA X es g) (hs : starEach (e :: es) X.env = (false, eval e X.env) :: starEach es X.env := by rfl) : RA X (e :: es) (aCons (eToC f) g) := r_acons (r_toC h) hr hs
theorem r_tup {k} {f : Env → Option (List C)} (h : RA X es f) : RE X (.Tuple es k pos) (eTup f) := by
  refine peI (pe_tup h) fun σ H Q ⟨O, own, env, d, E, e, q⟩ => ?_
  unfold eTup at e
  split at e
  · rename_i cs h1
    split at e
    · rename_i ds h2
      split at e
      · rename_i h3
        cases e
        refine ⟨O, own, env, cs, E, h1, fun vs H1 k1 r1 => ?_⟩
        have r2 := r1.data h2
        exact ⟨by rw [r2.length]; exact Nat.le_of_lt (short_line h3), fun p hp => q _ _ (k1.trans (Same.upd hp)) (Rp.newT hp (fresh_of (E.mono k1).there hp) r2)⟩
      · cases e
    · cases e
  · cases e
theorem r_lst {f : Env → Option (List C)} (h : RA X es f) : RE X (.List es pos) (eLst f) := by
  refine peI (pe_lst h) fun σ H Q ⟨O, own, env, d, E, e, q⟩ => ?_
  unfold eLst at e
  split at e
  · rename_i cs h1
    split at e
    · rename_i ds h2
      split at e
      · rename_i h3
        cases e
        refine ⟨O, own, env, cs, E, h1, fun vs H1 k1 r1 => ?_⟩
        have r2 := r1.data h2
        exact ⟨by rw [r2.length]; exact Nat.le_of_lt (short_line h3), fun p hp => q _ _ (k1.trans (Same.upd hp)) (Rp.newL hp (fresh_of (E.mono k1).there hp) r2)⟩
      · cases e
    · cases e
  · cases e

/-! ### if -/
def eIf (c : Env → Option Bool) (f g : Env → Option D) : Env → Option D := fun env => match c env with
  | some true => f env
  | some false => g env
  | none => none
def eIfC (c : Env → Option Bool) (f g : Env → Option C) : Env → Option C := fun env => match c env with
  | some true => f env
  | some false => g env
  | none => none
theorem r_if {c a b : Expr} {tc : Env → Option Bool} {f g : Env → Option D} (hc : RT X c tc) (ha : RE X a f) (hb : RE X b g) : RE X (.IfExp c a b pos) (eIf tc f g) := by
  refine peI (pe_ifExp hc ha hb) fun σ H Q ⟨O, own, env, d, E, e, q⟩ => ?_
  unfold eIf at e
  split at e
  · rename_i h1; exact ⟨O, own, env, true, E, h1, fun H1 k => iteT ⟨O, own, env, d, E.mono k, e, fun v H2 k2 r => q v H2 (k.trans k2) r⟩⟩
  · rename_i h1; exact ⟨O, own, env, false, E, h1, fun H1 k => iteF ⟨O, own, env, d, E.mono k, e, fun v H2 k2 r => q v H2 (k.trans k2) r⟩⟩
  · cases e
/-! ### and, or, not as values -/
theorem r_and {a b : Expr} {rest : List Expr} {f g : Env → Option D} (ha : RE X a f) (hb : RE X (.BoolOp .And (b :: rest) pos) g) : RE X (.BoolOp .And (a :: b :: rest) pos) (eAnd f g) := by
  refine peI (pe_and ha hb) fun σ H Q ⟨O, own, env, d, E, e, q⟩ => ?_
  unfold eAnd at e
  split at e
  · rename_i h1; exact ⟨O, own, env, _, E, h1, fun v H1 k r => by cases r; exact ⟨true, rfl, iteT ⟨O, own, env, d, E.mono k, e, fun v H2 k2 r => q v H2 (k.trans k2) r⟩⟩⟩
  · rename_i h1; cases e; exact ⟨O, own, env, _, E, h1, fun v H1 k r => by cases r; exact ⟨false, rfl, iteF (q _ H1 k (.bl false))⟩⟩
  · cases e
theorem r_or {a b : Expr} {rest : List Expr} {f g : Env → Option D} (ha : RE X a f) (hb : RE X (.BoolOp .Or (b :: rest) pos) g) : RE X (.BoolOp .Or (a :: b :: rest) pos) (eOr f g) := by
  refine peI (pe_or ha hb) fun σ H Q ⟨O, own, env, d, E, e, q⟩ => ?_
  unfold eOr at e
  split at e
  · rename_i h1; cases e; exact ⟨O, own, env, _, E, h1, fun v H1 k r => by cases r; exact ⟨true, rfl, iteT (q _ H1 k (.bl true))⟩⟩
  · rename_i h1; exact ⟨O, own, env, _, E, h1, fun v H1 k r => by cases r; exact ⟨false, rfl, iteF ⟨O, own, env, d, E.mono k, e, fun v H2 k2 r => q v H2 (k.trans k2) r⟩⟩⟩
  · cases e
theorem r_not {a : Expr} {f : Env → Option D} (ha : RE X a f) : RE X (.UnaryOp .Not a pos) (eNot f) := by
  refine peI (pe_not ha) fun σ H Q ⟨O, own, env, d, E, e, q⟩ => ?_
  unfold eNot at e
  split at e
  · rename_i b h1; cases e; exact ⟨O, own, env, _, E, h1, fun v H1 k r => by cases r; exact ⟨b, rfl, q _ H1 k (.bl _)⟩⟩
  · cases e
/-- -1 -/
def eNeg (f : Env → Option D) : Env → Option D := fun env => match f env with
  | some (.int i) => some (.int (-i))
  | _ => none
theorem r_neg {a : Expr} {f : Env → Option D} (ha : RE X a f) : RE X (.UnaryOp .USub a pos) (eNeg f) := by
  refine peI (pe_un un_neg ha) fun σ H Q ⟨O, own, env, d, E, e, q⟩ => ?_
  unfold eNeg at e
  split at e
  · rename_i b h1; cases e; exact ⟨O, own, env, _, E, h1, fun v H1 k r => by cases r; exact ⟨b, rfl, q _ H1 k (.int _)⟩⟩
  · cases e
end

/-! ### places -/
def nth : List D → Nat → Option D
  | [], _ => none
  | x :: _, 0 => some x
  | _ :: r, n + 1 => nth r n
theorem nth_eq : ∀ (l : List D) (n : Nat), nth l n = l[n]?
  | [], _ => by simp [nth]
  | x :: _, 0 => by simp [nth]
  | _ :: r, n + 1 => by simpa [nth] using nth_eq r n
/-- xs[i]; of the negative ones -1 alone -/
def dget (xs : List D) : Int → Option D
  | .ofNat n => nth xs n
  | .negSucc 0 => nth xs.reverse 0
  | _ => none
theorem dget_at {H : Hp} {xs : List V} {ds : List D} {i : Int} {d : D} (r : RpA H xs ds) (h : dget ds i = some d) : ∃ v, atI xs i = some v ∧ Rp H v d := by
  unfold dget at h
  split at h
  · rename_i n
    rw [nth_eq] at h
    obtain ⟨v, e, rv⟩ := r.get h
    exact ⟨v, atI_nat e, rv⟩
  · rw [nth_eq] at h
    obtain ⟨v, e, rv⟩ := r.reverse.get h
    refine ⟨v, ?_, rv⟩
    obtain ⟨ys, hy⟩ : ∃ ys, xs = ys ++ [v] := by
      cases hx : xs.reverse with
      | nil => rw [hx] at e; cases e
      | cons z zs =>
        rw [hx] at e
        cases e
        exact ⟨zs.reverse, by have := congrArg List.reverse hx; simpa using this⟩
    subst hy
    exact atI_last ys v
  · cases h
def gIx : D → D → Option D
  | .tup xs, .int i => dget xs i
  | .lst xs, .int i => dget xs i
  | _, _ => none
def eIxL (f : Env → Option (List D)) (g : Env → Option D) : Env → Option D := fun env => match f env with
  | some xs => match g env with
    | some (.int i) => dget xs i
    | _ => none
  | none => none
section
variable {X : Cx} {pos : Pos} {a b : Expr}
theorem r_ix {f g : Env → Option D} (ha : RE X a f) (hb : RE X b g) (hs : PlainIx b := by exact fun _ _ => rfl) : RE X (.Subscript a b pos) (e2 gIx f g) := by
  refine peI (pe_ix ix_seq ha hb hs) (tOp2 fun x y H Q ⟨O, d, e, r, hd, he, hg, th, q⟩ => ?_)
  unfold gIx at hg
  split at hg
  · cases hd with
    | tup h1 h2 =>
      cases he
      obtain ⟨v, e, rv⟩ := dget_at h2 hg
      exact .inr (.inl ⟨_, _, _, v, rfl, rfl, SqT.of (hid_ap h1), e, q v H (Same.refl H) rv⟩)
  · cases hd with
    | lst h1 h2 =>
      cases he
      obtain ⟨v, e, rv⟩ := dget_at h2 hg
      exact .inl ⟨_, _, _, v, rfl, rfl, SqL.of (hid_ap h1), e, q v H (Same.refl H) rv⟩
  · cases hg
theorem r_ixL {f : Env → Option (List D)} {g : Env → Option D} (ha : REL X a f) (hb : RE X b g) (hs : PlainIx b := by exact fun _ _ => rfl) : RE X (.Subscript a b pos) (eIxL f g) := by
  refine peI (pe_ix ix_list ha hb hs) fun σ H Q ⟨O, own, env, d, E, e, q⟩ => ?_
  unfold eIxL at e
  split at e
  · rename_i ds h1
    split at e
    · rename_i i h2
      refine ⟨O, own, env, ds, E, h1, fun p xs H1 k1 e1 r1 => ⟨O, own, env, _, E.mono k1, h2, fun v H2 k2 r2 => ?_⟩⟩
      cases r2
      obtain ⟨u, e3, ru⟩ := dget_at (r1.mono (hid_mono (O := O) k2)) e
      exact ⟨p, xs, i, u, rfl, rfl, SqL.of (k2.ap e1), e3, q u H2 (k1.trans k2) ru⟩
    · cases e
  · cases e
/-- t[1:] -/
def eTail (f : Env → Option D) : Env → Option D := fun env => match f env with
  | some (.tup (_ :: r)) => some (.tup r)
  | _ => none
theorem r_tail {j p1 p2} {f : Env → Option D} (ha : RE X a f) : RE X (.Subscript a (.Slice (some (.Constant (.int 1) j p1)) none none p2) pos) (eTail f) := by
  refine peI (pe_slice sl_tupA ha (po_some pe_int) po_none) fun σ H Q ⟨O, own, env, d, E, e, q⟩ => ?_
  unfold eTail at e
  split at e
  · rename_i x r h1
    cases e
    refine ⟨O, own, env, _, E, h1, fun v H1 k1 r1 => ⟨1, rfl, ?_⟩⟩
    cases r1 with
    | @tup p xs _ e1 r1 =>
      cases r1 with
      | @cons v vs _ _ rv rr =>
        have s1 : HT.sIx (v :: vs).length 0 (some 1) = 1 := by
          have := HT.sIx_nat (v :: vs).length 0 1
          rw [show ((1 : Nat) : Int) = 1 from rfl] at this
          rw [this, List.length_cons]
          omega
        have s2 : HT.sIx (v :: vs).length (v :: vs).length none = (v :: vs).length := HT.sIx_none _ _
        have hc : cutV (v :: vs) (some 1) none = vs := by
          unfold cutV
          rw [s1, s2]
          simp
        refine ⟨p, _, rfl, SqT.of (hid_ap e1), fun ⟨z, _⟩ => ?_, fun _ t ht => ?_⟩
        · rw [s1] at z; exact absurd z (by decide)
        · rw [hc]
          exact q _ _ (k1.trans (Same.upd ht)) (Rp.newT ht (fresh_of (E.mono k1).there ht) rr)
  · cases e
end

/-! ### calls of the text's defs -/
/-- what a def keeps: on data that F takes it gives F's data, and leaves all as it was -/
def spF (w : W2) (F : List C → Option C) (n : Nat) : Sp := fun vs H Q _ => vs.length = n ∧ ∃ O cs r, RpCA w (hid O H) vs cs ∧ F cs = some r ∧ (∀ a, O a → ∃ o, H a = some o) ∧ TB w H ∧ ∀ v H', Same w H H' → RpC w (hid O H') v r → Q v H'
/-- F takes so many -/
def Takes (F : List C → Option C) (n : Nat) : Prop := ∀ cs r, F cs = some r → cs.length = n
def eCall (F : List C → Option C) (f : Env → Option (List C)) : Env → Option C := fun env => match f env with
  | some cs => F cs
  | none => none
section
variable {X : Cx} {k : Nat} {f : Addr} {fd : FuncData} {ps : List Str} {x : Str} {p pos : Pos} {e : Expr} {es : List Expr} {F : List C → Option C}
theorem tCallF {w : W2} {n : Nat} {g : Env → Option (List C)} (hT : Takes F n) {σ : St} {H : Hp} {Q : VK} (h : tEC w (eCall F g) σ H Q) : tCall (spF w F n) [] E0 (tA w g) σ H Q := by
  obtain ⟨O, own, env, d, E, e, q⟩ := h
  unfold eCall at e
  split at e
  · rename_i cs h1
    refine ⟨O, own, env, cs, E, h1, fun vs H1 k1 r1 => ?_⟩
    show spF w F n (vs ++ []) H1 Q E0
    rw [List.append_nil]
    exact ⟨by rw [r1.length]; exact hT cs d e, O, cs, d, r1, e, (E.mono k1).there, (E.mono k1).tab, fun v H' k2 r => q v H' (k1.trans k2) r⟩
  · cases e
theorem r_call (G : FnOk X.prog X.w X.K X.mg X.base CX0 k f fd ps (spF (wX X) F ps.length)) (hT : Takes F ps.length) (hr : Room k X.A) (hg : Gl X x) (hm : X.mg x = some (.ref f)) (hk : PySem.W.keepIn X.K (.ref f) = true) (hb : Binds X.K fd ps []) {g : Env → Option (List C)}
    (ha : RA X (e :: es) g) (hdb : (x == ("__debug__" : Str)) = false := by decide) (he : starEach (e :: es) X.env = (false, eval e X.env) :: starEach es X.env := by rfl) (hpl : (backTo pos (starEach es X.env)).any (·.1) = false := by rfl) :
    REC X (.Call (.Name x p) (e :: es) [] pos) (eCall F g) :=
  peI (pe_call G hr hg hm hk hb .nil pass0 ha hdb he hpl) fun σ H Q h => tCallF hT h
theorem r_call0 (G : FnOk X.prog X.w X.K X.mg X.base CX0 k f fd [] (spF (wX X) F 0)) (hT : Takes F 0) (hr : Room k X.A) (hg : Gl X x) (hm : X.mg x = some (.ref f)) (hk : PySem.W.keepIn X.K (.ref f) = true) (hb : Binds X.K fd [] [])
    (hdb : (x == ("__debug__" : Str)) = false := by decide) : REC X (.Call (.Name x p) [] [] pos) (eCall F aNil) :=
  peI (pe_call0 G hr hg hm hk hb .nil pass0 hdb) fun σ H Q h => by
    obtain ⟨O, own, env, d, E, e, q⟩ := h
    exact ⟨rfl, O, [], d, .nil, e, E.there, E.tab, fun v H' k2 r => q v H' k2 r⟩
end

/-! ### built-ins of one argument -/
/-- f of a value that is looked at -/
def e1 (g : D → Option D) (f : Env → Option D) : Env → Option D := fun env => match f env with
  | some d => g d
  | none => none
theorem e1_some {g : D → Option D} {f : Env → Option D} {env : Env} {r : D} (h : e1 g f env = some r) : ∃ d, f env = some d ∧ g d = some r := by
  unfold e1 at h
  split at h
  · rename_i d hd; exact ⟨d, hd, h⟩
  · cases h
/-- a built-in f gives g on a datum that is looked at: a scalar -/
def Call1V (X : Cx) (f : Value) (g : D → Option D) : Prop := CallR X f (fun xs H Q => ∃ x d r, xs = [x] ∧ Rp H x d ∧ g d = some r ∧ ∀ v, (∀ H', Rp H' v r) → Q v H)
/-- .. on a datum: new objects may come -/
def Call1 (X : Cx) (f : Value) (g : D → Option D) : Prop := CallR X f (fun xs H Q => ∃ O x d r, xs = [x] ∧ Rp (hid O H) x d ∧ g d = some r ∧ (∀ a, O a → ∃ o, H a = some o) ∧ ∀ v H', Same (wX X) H H' → Rp (hid O H') v r → Q v H')
section
variable {X : Cx} {x : Str} {p pos : Pos} {e : Expr} {g : D → Option D} {f : Env → Option D} {id T : String}
theorem r_b1V (hc : Call1V X (.builtin id) g) (hg : Gl X x) (hm : X.mg x = none) (hv : bootBuiltins x = some (.builtin id)) (ha : REV X e f) (hn : x ≠ "__name__" := by decide) (hdb : (x == ("__debug__" : Str)) = false := by decide)
    (he : starEach [e] X.env = (false, eval e X.env) :: starEach [] X.env := by rfl) : RE X (.Call (.Name x p) [e] [] pos) (e1 g f) := by
  refine peI (pe_callB hc hg hm hv (pa_cons ha pa_nil he) hn hdb he rfl) fun σ H Q ⟨O, own, env, d, E, e, q⟩ => ?_
  obtain ⟨d1, h1, h2⟩ := e1_some e
  exact ⟨O, own, env, d1, E, h1, fun v H1 k1 r1 => ⟨v, d1, d, rfl, r1, h2, fun u ru => q u H1 k1 (ru _)⟩⟩
theorem r_ty1V (hc : Call1V X (.type T) g) (hg : Gl X x) (hm : X.mg x = none) (hv : bootBuiltins x = some (.type T)) (ha : REV X e f) (hn : x ≠ "__name__" := by decide) (hdb : (x == ("__debug__" : Str)) = false := by decide)
    (he : starEach [e] X.env = (false, eval e X.env) :: starEach [] X.env := by rfl) : RE X (.Call (.Name x p) [e] [] pos) (e1 g f) := by
  refine peI (pe_callTy hc hg hm hv (pa_cons ha pa_nil he) hn hdb he rfl) fun σ H Q ⟨O, own, env, d, E, e, q⟩ => ?_
  obtain ⟨d1, h1, h2⟩ := e1_some e
  exact ⟨O, own, env, d1, E, h1, fun v H1 k1 r1 => ⟨v, d1, d, rfl, r1, h2, fun u ru => q u H1 k1 (ru _)⟩⟩
theorem r_b1 (hc : Call1 X (.builtin id) g) (hg : Gl X x) (hm : X.mg x = none) (hv : bootBuiltins x = some (.builtin id)) (ha : RE X e f) (hn : x ≠ "__name__" := by decide) (hdb : (x == ("__debug__" : Str)) = false := by decide)
    (he : starEach [e] X.env = (false, eval e X.env) :: starEach [] X.env := by rfl) : RE X (.Call (.Name x p) [e] [] pos) (e1 g f) := by
  refine peI (pe_callB hc hg hm hv (pa_cons ha pa_nil he) hn hdb he rfl) fun σ H Q ⟨O, own, env, d, E, e, q⟩ => ?_
  obtain ⟨d1, h1, h2⟩ := e1_some e
  exact ⟨O, own, env, d1, E, h1, fun v H1 k1 r1 => ⟨O, v, d1, d, rfl, r1, h2, (E.mono k1).there, fun u H2 k2 ru => q u H2 (k1.trans k2) ru⟩⟩
theorem r_ty1 (hc : Call1 X (.type T) g) (hg : Gl X x) (hm : X.mg x = none) (hv : bootBuiltins x = some (.type T)) (ha : RE X e f) (hn : x ≠ "__name__" := by decide) (hdb : (x == ("__debug__" : Str)) = false := by decide)
    (he : starEach [e] X.env = (false, eval e X.env) :: starEach [] X.env := by rfl) : RE X (.Call (.Name x p) [e] [] pos) (e1 g f) := by
  refine peI (pe_callTy hc hg hm hv (pa_cons ha pa_nil he) hn hdb he rfl) fun σ H Q ⟨O, own, env, d, E, e, q⟩ => ?_
  obtain ⟨d1, h1, h2⟩ := e1_some e
  exact ⟨O, own, env, d1, E, h1, fun v H1 k1 r1 => ⟨O, v, d1, d, rfl, r1, h2, (E.mono k1).there, fun u H2 k2 ru => q u H2 (k1.trans k2) ru⟩⟩
end
/-! len, any, all, sum, max, tuple, list -/
def len_ : List D → Nat → Nat
  | [], n => n
  | _ :: r, n => len_ r (n + 1)
theorem len_eq : ∀ (l : List D) (n : Nat), len_ l n = l.length + n
  | [], n => by simp [len_]
  | x :: r, n => by rw [len_, len_eq r (n + 1), List.length_cons]; omega
def gLen : D → Option D
  | .tup xs => some (.int (.ofNat (len_ xs 0)))
  | .lst xs => some (.int (.ofNat (len_ xs 0)))
  | _ => none
def blsOf : List D → Option (List Bool)
  | [] => some []
  | .bl b :: r => match blsOf r with
    | some bs => some (b :: bs)
    | none => none
  | _ :: _ => none
def intsOf : List D → Option (List Int)
  | [] => some []
  | .int b :: r => match intsOf r with
    | some bs => some (b :: bs)
    | none => none
  | _ :: _ => none
theorem bls_of {H : Hp} : ∀ {ds : List D} {xs : List V} {bs : List Bool}, RpA H xs ds → blsOf ds = some bs → xs = bs.map V.bl
  | [], _, _, r, h => by cases r; cases h; rfl
  | .bl b :: r, _, _, h, e => by
    unfold blsOf at e
    split at e
    · rename_i bs hb
      cases e
      cases h with
      | cons h1 h2 => cases h1; rw [bls_of h2 hb]; rfl
    · cases e
  | .non :: _, _, _, _, e => by cases e
  | .int _ :: _, _, _, _, e => by cases e
  | .tup _ :: _, _, _, _, e => by cases e
  | .lst _ :: _, _, _, _, e => by cases e
theorem ints_of {H : Hp} : ∀ {ds : List D} {xs : List V} {bs : List Int}, RpA H xs ds → intsOf ds = some bs → xs = bs.map V.int
  | [], _, _, r, h => by cases r; cases h; rfl
  | .int b :: r, _, _, h, e => by
    unfold intsOf at e
    split at e
    · rename_i bs hb
      cases e
      cases h with
      | cons h1 h2 => cases h1; rw [ints_of h2 hb]; rfl
    · cases e
  | .non :: _, _, _, _, e => by cases e
  | .bl _ :: _, _, _, _, e => by cases e
  | .tup _ :: _, _, _, _, e => by cases e
  | .lst _ :: _, _, _, _, e => by cases e
theorem rpInts {H : Hp} : ∀ ns : List Int, RpA H (ns.map V.int) (ns.map D.int)
  | [] => .nil
  | n :: r => .cons (.int n) (rpInts r)
def anyB : List Bool → Bool
  | [] => false
  | b :: r => match b with
    | true => true
    | false => anyB r
def allB : List Bool → Bool
  | [] => true
  | b :: r => match b with
    | true => allB r
    | false => false
theorem anyB_eq : ∀ bs : List Bool, anyB bs = bs.any id
  | [] => rfl
  | b :: r => by cases b <;> simp [anyB, anyB_eq r]
theorem allB_eq : ∀ bs : List Bool, allB bs = bs.all id
  | [] => rfl
  | b :: r => by cases b <;> simp [allB, allB_eq r]
def gAny : D → Option D
  | .lst xs => match blsOf xs with
    | some bs => some (.bl (anyB bs))
    | none => none
  | _ => none
def gAll : D → Option D
  | .lst xs => match blsOf xs with
    | some bs => some (.bl (allB bs))
    | none => none
  | _ => none
def sumI : List Int → Int → Int
  | [], a => a
  | n :: r, a => sumI r (iadd a n)
theorem sumI_eq : ∀ (l : List Int) (a : Int), sumI l a = a + l.sum
  | [], a => by simp [sumI]
  | n :: r, a => by rw [sumI, sumI_eq r, iadd_eq, List.sum_cons]; omega
def gSum : D → Option D
  | .lst xs => match intsOf xs with
    | some ns => some (.int (sumI ns 0))
    | none => none
  | _ => none
def maxI : List Int → Int → Int
  | [], a => a
  | n :: r, a => match ilt a n with
    | true => maxI r n
    | false => maxI r a
theorem maxI_mem : ∀ (l : List Int) (a : Int), (maxI l a = a ∨ maxI l a ∈ l) ∧ a ≤ maxI l a ∧ ∀ y ∈ l, y ≤ maxI l a
  | [], a => ⟨.inl rfl, Int.le_refl _, fun _ h => by cases h⟩
  | n :: r, a => by
    have e0 : maxI (n :: r) a = if a < n then maxI r n else maxI r a := by
      rw [maxI, ilt_eq]
      by_cases h : a < n
      · rw [decide_eq_true h, if_pos h]
      · rw [decide_eq_false h, if_neg h]
    rw [e0]
    by_cases h : a < n
    · rw [if_pos h]
      obtain ⟨h1, h2, h3⟩ := maxI_mem r n
      refine ⟨.inr ?_, by omega, fun y hy => ?_⟩
      · rcases h1 with e | e
        · rw [e]; exact List.mem_cons_self
        · exact List.mem_cons_of_mem _ e
      · rcases List.mem_cons.mp hy with e | e
        · rw [e]; exact h2
        · exact h3 y e
    · rw [if_neg h]
      obtain ⟨h1, h2, h3⟩ := maxI_mem r a
      refine ⟨h1.imp id (List.mem_cons_of_mem _), h2, fun y hy => ?_⟩
      rcases List.mem_cons.mp hy with e | e
      · rw [e]; show n ≤ maxI r a; omega
      · exact h3 y e
def gMax : D → Option D
  | .lst xs => match intsOf xs with
    | some (n :: r) => some (.int (maxI r n))
    | _ => none
  | _ => none
def gTupleOf : D → Option D
  | .lst xs => some (.tup xs)
  | .tup xs => some (.tup xs)
  | _ => none
def gListOf : D → Option D
  | .lst xs => some (.lst xs)
  | .tup xs => some (.lst xs)
  | _ => none
section
variable {X : Cx}
theorem b_len : Call1V X (.builtin "len") gLen := by
  intro pins s σ H xs us Q I r h
  obtain ⟨x, d, r0, rfl, hd, hg, q⟩ := h
  unfold gLen at hg
  split at hg
  · cases hg
    cases hd with
    | tup h1 h2 =>
      refine call_len_seq pins s σ H _ us Q I r ⟨_, _, rfl, .inr (SqT.of h1), q _ fun H' => ?_⟩
      rw [len_eq, Nat.add_zero, h2.length]
      exact .int _
  · cases hg
    cases hd with
    | lst h1 h2 =>
      refine call_len_seq pins s σ H _ us Q I r ⟨_, _, rfl, .inl (SqL.of h1), q _ fun H' => ?_⟩
      rw [len_eq, Nat.add_zero, h2.length]
      exact .int _
  · cases hg
theorem b_any (hc : X.calm = true) : Call1V X (.builtin "any") gAny := by
  intro pins s σ H xs us Q I r h
  obtain ⟨x, d, r0, rfl, hd, hg, q⟩ := h
  unfold gAny at hg
  split at hg
  · split at hg
    · rename_i bs hb
      cases hg
      cases hd with
      | lst h1 h2 =>
        cases bls_of h2 hb
        exact cr_any hc pins s σ H _ us Q I r ⟨_, bs, rfl, SqL.of h1, q _ fun H' => by rw [anyB_eq]; exact .bl _⟩
    · cases hg
  · cases hg
theorem b_all (hc : X.calm = true) : Call1V X (.builtin "all") gAll := by
  intro pins s σ H xs us Q I r h
  obtain ⟨x, d, r0, rfl, hd, hg, q⟩ := h
  unfold gAll at hg
  split at hg
  · split at hg
    · rename_i bs hb
      cases hg
      cases hd with
      | lst h1 h2 =>
        cases bls_of h2 hb
        exact cr_all hc pins s σ H _ us Q I r ⟨_, bs, rfl, SqL.of h1, q _ fun H' => by rw [allB_eq]; exact .bl _⟩
    · cases hg
  · cases hg
theorem b_sum (hc : X.calm = true) : Call1V X (.builtin "sum") gSum := by
  intro pins s σ H xs us Q I r h
  obtain ⟨x, d, r0, rfl, hd, hg, q⟩ := h
  unfold gSum at hg
  split at hg
  · split at hg
    · rename_i bs hb
      cases hg
      cases hd with
      | lst h1 h2 =>
        cases ints_of h2 hb
        exact cr_sum hc pins s σ H _ us Q I r ⟨_, bs, rfl, SqL.of h1, q _ fun H' => by rw [sumI_eq, Int.zero_add]; exact .int _⟩
    · cases hg
  · cases hg
theorem b_max (hc : X.calm = true) : Call1V X (.builtin "max") gMax := by
  intro pins s σ H xs us Q I r h
  obtain ⟨x, d, r0, rfl, hd, hg, q⟩ := h
  unfold gMax at hg
  split at hg
  · split at hg
    · rename_i n bs hb
      cases hg
      cases hd with
      | lst h1 h2 =>
        cases ints_of h2 hb
        refine cr_max hc pins s σ H _ us Q I r ⟨_, n :: bs, rfl, SqL.of h1, Nat.zero_lt_succ _, fun m h3 h4 => ?_⟩
        obtain ⟨g1, g2, g3⟩ := maxI_mem bs n
        have e1 : m ≤ maxI bs n := by
          rcases List.mem_cons.mp h3 with e | e
          · rw [e]; exact g2
          · exact g3 m e
        have e2 : maxI bs n ≤ m := h4 _ (by
          rcases g1 with e | e
          · rw [e]; exact List.mem_cons_self
          · exact List.mem_cons_of_mem _ e)
        exact q _ fun H' => by rw [Int.le_antisymm e2 e1]; exact .int _
    · cases hg
  · cases hg
theorem b_tuple : Call1 X (.type "tuple") gTupleOf := by
  intro pins s σ H xs us Q I r h
  obtain ⟨O, x, d, r0, rfl, hd, hg, th, q⟩ := h
  unfold gTupleOf at hg
  split at hg
  · cases hg
    cases hd with
    | lst h1 h2 => exact call_tuple_of pins s σ H _ us Q I r ⟨_, _, rfl, .inl ⟨SqL.of (hid_ap h1), fun l hl => q _ _ (Same.upd hl) (Rp.newT hl (fresh_of th hl) h2)⟩⟩
  · cases hg
    cases hd with
    | tup h1 h2 => exact call_tuple_of pins s σ H _ us Q I r ⟨_, _, rfl, .inr ⟨SqT.of (hid_ap h1), q _ _ (Same.refl H) (.tup h1 h2)⟩⟩
  · cases hg
theorem b_list : Call1 X (.type "list") gListOf := by
  intro pins s σ H xs us Q I r h
  obtain ⟨O, x, d, r0, rfl, hd, hg, th, q⟩ := h
  unfold gListOf at hg
  split at hg
  · cases hg
    cases hd with
    | lst h1 h2 => exact call_list_of pins s σ H _ us Q I r ⟨_, _, rfl, .inl (SqL.of (hid_ap h1)), fun l hl => q _ _ (Same.upd hl) (Rp.newL hl (fresh_of th hl) h2)⟩
  · cases hg
    cases hd with
    | tup h1 h2 => exact call_list_of pins s σ H _ us Q I r ⟨_, _, rfl, .inr (SqT.of (hid_ap h1)), fun l hl => q _ _ (Same.upd hl) (Rp.newL hl (fresh_of th hl) h2)⟩
  · cases hg
end
end Ev

set_option Elab.async false
set_option linter.all false
set_option autoImplicit false
set_option maxRecDepth 100000
set_option maxHeartbeats 4000000
/-! Ev5: fresh lists, targets, statements -/
namespace Ev
open PySem PySem.Spec L2

/-! ### new lists that nobody else has -/
def tEF (w : W2) (f : Env → Option (List D)) : TE := fun σ H Q => ∃ O own env ds, EnvOk w O own H σ env ∧ f env = some ds ∧ ∀ p xs H', Same w H H' → H p = none → H' p = some (.lst xs) → RpA (hid (fun b => b = p ∨ O b) H') xs ds → Q (.ref p) H'
def REF (X : Cx) (e : Expr) (f : Env → Option (List D)) : Prop := PE X e (tEF (wX X) f)
theorem hid_new {O : Addr → Prop} {H : Hp} {p : Addr} {o : HO} (h : H p = none) : Sub (hid O H) (hid (fun b => b = p ∨ O b) (upd H p o)) := (Sub.upd h).hid fun b u e n z => z.elim (ne_of_none e h) n
theorem EnvOk.grow {w : W2} {O O' : Addr → Prop} {own : Nat → Option Addr} {H H' : Hp} {σ : St} {env : Env} (E : EnvOk w O own H σ env) (k : Same w H H') (h1 : ∀ a, O a → O' a) (h2 : ∀ a, O' a → O a ∨ H a = none) (h3 : ∀ a, O' a → ∃ o, H' a = some o) : EnvOk w O' own H' σ env := by
  have kk : Sub (hid O H) (hid O' H') := k.sub.hid fun b u e n z => (h2 b z).elim n fun q => by rw [q] at e; cases e
  refine ⟨E.len, h3, fun i a e => h1 a (E.inO i a e), E.inj, fun i c e => ?_, k.tab E.tab⟩
  rcases E.val i c e with ⟨v, e1, r⟩ | ⟨b, xs, ds, e1, e2, e3, e4, r⟩ | ⟨b, ks, kvs, e1, e2, e3, e4, r⟩
  · exact .inl ⟨v, e1, r.mono kk⟩
  · exact .inr (.inl ⟨b, xs, ds, e1, e2, e3, k.ap e4, r.mono kk⟩)
  · exact .inr (.inr ⟨b, ks, kvs, e1, e2, e3, e4.mono k.sub, r.mono kk⟩)
section
variable {X : Cx} {pos : Pos} {a b : Expr} {es : List Expr}
theorem r_F {e : Expr} {f : Env → Option (List D)} (h : REF X e f) : RE X e (eLV f) := by
  refine peI h fun σ H Q ⟨O, own, env, d, E, e, q⟩ => ?_
  unfold eLV at e
  split at e
  · rename_i ds hd
    cases e
    exact ⟨O, own, env, ds, E, hd, fun p xs H' k hp hq r => q _ H' k (.lst (hid_some.mpr ⟨hq, fresh_of E.there hp⟩) (r.mono (hid_anti fun b z => .inr z)))⟩
  · cases e
def eLstF (f : Env → Option (List C)) : Env → Option (List D) := fun env => match f env with
  | some cs => match dsOf cs with
    | some ds => match short ds 1000 with
      | true => some ds
      | false => none
    | none => none
  | none => none
theorem r_lstF {f : Env → Option (List C)} (h : RA X es f) : REF X (.List es pos) (eLstF f) := by
  refine peI (pe_lst h) fun σ H Q ⟨O, own, env, d, E, e, q⟩ => ?_
  unfold eLstF at e
  split at e
  · rename_i cs h1
    split at e
    · rename_i ds h2
      split at e
      · rename_i h3
        cases e
        refine ⟨O, own, env, cs, E, h1, fun vs H1 k1 r1 => ?_⟩
        have r2 := r1.data h2
        exact ⟨by rw [r2.length]; exact Nat.le_of_lt (short_line h3), fun p hp => q p vs _ (k1.trans (Same.upd hp)) (k1.free hp) upd_same (r2.mono (hid_new hp))⟩
      · cases e
    · cases e
  · cases e
def eCatF (f1 f2 : Env → Option (List D)) : Env → Option (List D) := fun env => match f1 env with
  | some xs => match f2 env with
    | some ys => match short (xs ++ ys) 1000 with
      | true => some (xs ++ ys)
      | false => none
    | none => none
  | none => none
theorem r_catF {f1 f2 : Env → Option (List D)} (ha : REL X a f1) (hb : REL X b f2) : REF X (.BinOp a .Add b pos) (eCatF f1 f2) := by
  refine peI (pe_op op_cat ha hb) fun σ H Q ⟨O, own, env, d, E, e, q⟩ => ?_
  unfold eCatF at e
  split at e
  · rename_i ds h1
    split at e
    · rename_i es h2
      split at e
      · rename_i hs
        cases e
        refine ⟨O, own, env, ds, E, h1, fun a xs H1 k1 e1 r1 => ⟨O, own, env, es, E.mono k1, h2, fun b ys H2 k2 e2 r2 => ?_⟩⟩
        have r1' := r1.mono (hid_mono (O := O) k2)
        have hl : xs.length + ys.length ≤ sizeLine := by
          have := short_line hs
          rw [List.length_append] at this
          rw [r1'.length, r2.length]
          omega
        exact ⟨a, b, xs, ys, rfl, rfl, k2.ap e1, e2, hl, fun p hp => q p _ _ ((k1.trans k2).trans (Same.upd hp)) ((k1.trans k2).free hp) upd_same ((r1'.append r2).mono (hid_new hp))⟩
      · cases e
    · cases e
  · cases e
end

/-! ### targets -/
def wipeE (env : Env) : List Nat → Env
  | [] => env
  | v :: vs => (wipeE env vs).set v none
theorem wipeE_length (env : Env) : ∀ vs : List Nat, (wipeE env vs).length = env.length
  | [] => rfl
  | v :: vs => by unfold wipeE; rw [List.length_set, wipeE_length env vs]
theorem wipeE_some {env : Env} {i : Nat} {c : C} : ∀ {vs : List Nat}, (wipeE env vs)[i]? = some (some c) → env[i]? = some (some c) ∧ i ∉ vs
  | [], h => ⟨h, by simp⟩
  | v :: vs, h => by
    unfold wipeE at h
    by_cases hi : v = i
    · subst hi
      by_cases hv : v < (wipeE env vs).length
      · rw [List.getElem?_set_self hv] at h; cases h
      · rw [List.getElem?_eq_none (by simpa using hv)] at h; cases h
    · rw [List.getElem?_set_ne hi] at h
      obtain ⟨h1, h2⟩ := wipeE_some h
      exact ⟨h1, by simp only [List.mem_cons, not_or]; exact ⟨fun e => hi e.symm, h2⟩⟩
theorem wipe_get {σ : St} {i : Nat} : ∀ {vs : List Nat}, i ∉ vs → (wipe σ vs)[i]? = σ[i]?
  | [], _ => rfl
  | v :: vs, h => by
    unfold wipe
    rw [List.getElem?_set_ne (fun (e : v = i) => h (by rw [e]; exact List.mem_cons_self))]
    exact wipe_get fun z => h (List.mem_cons_of_mem _ z)
theorem EnvOk.wipe {w : W2} {O : Addr → Prop} {own : Nat → Option Addr} {H : Hp} {σ : St} {env : Env} (E : EnvOk w O own H σ env) (vs : List Nat) : EnvOk w O own H (L2.wipe σ vs) (wipeE env vs) :=
  E.forget (by rw [wipeE_length, wipe_length]; exact E.len) fun i c e => by
    obtain ⟨h1, h2⟩ := wipeE_some e
    exact ⟨h1, wipe_get h2⟩
theorem wipe_wipe (σ : St) (vs : List Nat) : L2.wipe (L2.wipe σ vs) vs = L2.wipe σ vs := by
  refine List.ext_getElem? fun i => ?_
  by_cases h : i ∈ vs
  · have key : ∀ (τ : St) (l : List Nat), i ∈ l → (L2.wipe τ l)[i]? = if i < τ.length then some none else none := by
      intro τ l
      induction l with
      | nil => intro h; cases h
      | cons v vs ih =>
        intro h
        unfold L2.wipe
        by_cases e : v = i
        · subst e
          by_cases hl : v < τ.length
          · rw [List.getElem?_set_self (by rw [wipe_length]; exact hl), if_pos hl]
          · rw [List.getElem?_eq_none (by rw [List.length_set, wipe_length]; omega), if_neg hl]
        · rw [List.getElem?_set_ne e]
          exact ih ((List.mem_cons.mp h).resolve_left fun z => e z.symm)
    rw [key _ _ h, key _ _ h, wipe_length]
  · rw [wipe_get h]
/-- a target takes a value -/
def tG (w : W2) (sl : List Nat) (g : C → Env → Option Env) : TG := fun v σ H Q => ∃ O own env c env', EnvOk w O own H σ env ∧ RpC w (hid O H) v c ∧ g c env = some env' ∧ ∀ σ', EnvOk w O own H σ' env' → L2.wipe σ' sl = L2.wipe σ sl → Q σ' H
def tGs (w : W2) (sl : List Nat) (g : List D → Env → Option Env) : TGs := fun vs σ H Q => ∃ O own env ds env', EnvOk w O own H σ env ∧ RpA (hid O H) vs ds ∧ g ds env = some env' ∧ ∀ σ', EnvOk w O own H σ' env' → L2.wipe σ' sl = L2.wipe σ sl → Q σ' H
def RG (X : Cx) (tg : Expr) (sl : List Nat) (g : C → Env → Option Env) : Prop := PG X tg (tG (wX X) sl g)
def RGs (X : Cx) (tg : List Expr) (sl : List Nat) (g : List D → Env → Option Env) : Prop := PGs X tg (tGs (wX X) sl g)
theorem pgI {X : Cx} {e : Expr} {t t' : TG} (h : PG X e t) (k : ∀ v σ H Q, t' v σ H Q → t v σ H Q) : PG X e t' := ⟨fun pins s σ H v u Q I r q => h.run pins s σ H v u Q I r (k v σ H Q q)⟩
theorem pgsI {X : Cx} {e : List Expr} {t t' : TGs} (h : PGs X e t) (k : ∀ v σ H Q, t' v σ H Q → t v σ H Q) : PGs X e t' := ⟨fun pins s σ H v u Q I r q => h.run pins s σ H v u Q I r (k v σ H Q q)⟩
def gSet (i : Nat) : C → Env → Option Env := fun c env => some (env.set i (some c))
def gsNil : List D → Env → Option Env := fun ds env => match ds with
  | [] => some env
  | _ => none
def gsCons (i : Nat) (g : List D → Env → Option Env) : List D → Env → Option Env := fun ds env => match ds with
  | d :: r => g r (env.set i (some (.d d)))
  | [] => none
def gUnp (g : List D → Env → Option Env) : C → Env → Option Env := fun c env => match c with
  | .d (.tup ds) => g ds env
  | .d (.lst ds) => g ds env
  | _ => none
theorem wipe_set1 {σ : St} {i : Nat} {o : Option V} {sl : List Nat} (h : i ∈ sl) : L2.wipe (σ.set i o) sl = L2.wipe σ sl := by
  refine List.ext_getElem? fun j => ?_
  have key : ∀ (τ : St) (l : List Nat), j ∈ l → (L2.wipe τ l)[j]? = if j < τ.length then some none else none := by
    intro τ l
    induction l with
    | nil => intro h; cases h
    | cons v vs ih =>
      intro h
      unfold L2.wipe
      by_cases e : v = j
      · subst e
        by_cases hl : v < τ.length
        · rw [List.getElem?_set_self (by rw [wipe_length]; exact hl), if_pos hl]
        · rw [List.getElem?_eq_none (by rw [List.length_set, wipe_length]; omega), if_neg hl]
      · rw [List.getElem?_set_ne e]
        exact ih ((List.mem_cons.mp h).resolve_left fun z => e z.symm)
  by_cases hj : j ∈ sl
  · rw [key _ _ hj, key _ _ hj, List.length_set]
  · rw [wipe_get hj, wipe_get hj, List.getElem?_set_ne fun (e : i = j) => hj (by rw [← e]; exact h)]
section
variable {X : Cx} {pos : Pos}
theorem rg_name (i : Nat) {x : Str} (h : PG X (.Name x pos) (gName i)) : RG X (.Name x pos) [i] (gSet i) := by
  refine pgI h fun v σ H Q ⟨O, own, env, c, env', E, r, e, q⟩ => ?_
  cases e
  exact q _ (E.set i r) (wipe_set1 List.mem_cons_self)
theorem rgs_nil : RGs X [] [] gsNil := by
  refine pgsI pgs_nil fun vs σ H Q ⟨O, own, env, ds, env', E, r, e, q⟩ => ?_
  unfold gsNil at e
  split at e
  · cases e
    cases r
    exact ⟨rfl, q _ E rfl⟩
  · cases e
theorem rgs_cons {i : Nat} {x : Str} {es : List Expr} {sl : List Nat} {g : List D → Env → Option Env} (h : PG X (.Name x pos) (gName i)) (hr : RGs X es sl g) (hs : (assignEach (.Name x pos :: es) X.env).map (·.2) = assign (.Name x pos) X.env :: (assignEach es X.env).map (·.2) := by rfl) :
    RGs X (.Name x pos :: es) (i :: sl) (gsCons i g) := by
  refine pgsI (pgs_cons h hr hs) fun vs σ H Q ⟨O, own, env, ds, env', E, r, e, q⟩ => ?_
  unfold gsCons at e
  split at e
  · rename_i d r'
    cases r with
    | @cons v vs' _ _ rv rr =>
      refine ⟨v, vs', rfl, O, own, _, r', env', E.set i (.d rv), rr, e, fun σ' E' hw => q σ' E' ?_⟩
      show (L2.wipe σ' sl).set i none = _
      rw [hw]
      exact wipe_set1 (sl := i :: sl) List.mem_cons_self
  · cases e
theorem rg_tup {es : List Expr} {k : Nat} {sl : List Nat} {g : List D → Env → Option Env} {n : Nat} (hc : X.calm = true) (h : RGs X es sl g) (hn : (assignEach es X.env).length = n := by rfl) (hst : (assignEach es X.env).findIdx? (·.1) = none := by rfl)
    (hg : ∀ ds env env', g ds env = some env' → ds.length = n) : RG X (.Tuple es k pos) sl (gUnp g) := by
  refine ⟨fun pins s σ H v u Q I r ⟨O, own, env, c, env', E, rc, e, q⟩ => ?_⟩
  unfold gUnp at e
  split at e
  · cases rc with
    | d rc => cases rc with
      | tup h1 h2 => exact (pg_tup hc h hn hst).run pins s σ H _ u Q I r ⟨_, _, rfl, SqT.of (hid_ap h1), h2.length.trans (hg _ _ _ e), O, own, env, _, env', E, h2, e, q⟩
  · cases rc with
    | d rc => cases rc with
      | lst h1 h2 => exact (pg_lst hc h hn hst).run pins s σ H _ u Q I r ⟨_, _, rfl, SqL.of (hid_ap h1), h2.length.trans (hg _ _ _ e), O, own, env, _, env', E, h2, e, q⟩
  · cases e
end
theorem gs2 {i j : Nat} : ∀ ds env env', gsCons i (gsCons j gsNil) ds env = some env' → ds.length = 2 := by
  intro ds env env' h
  match ds, h with
  | [_, _], _ => rfl
theorem gs3 {i j k : Nat} : ∀ ds env env', gsCons i (gsCons j (gsCons k gsNil)) ds env = some env' → ds.length = 3 := by
  intro ds env env' h
  match ds, h with
  | [_, _, _], _ => rfl

/-! ### statements -/
inductive Out where
  | nx (env : Env) | rt (c : C)
structure SOk (w : W2) (H0 : Hp) (B : Addr → Prop) (H : Hp) (σ : St) (env : Env) : Prop where
  ex : ∃ O own, EnvOk w O own H σ env ∧ (∀ a, B a → O a) ∧ (∀ i a, own i = some a → ¬ B a) ∧ ∀ a, O a → B a ∨ H0 a = none
  base : Sub H0 H
def tS (w : W2) (g : Env → Option Out) : TS := fun D σ H => ∃ H0 B env out, SOk w H0 B H σ env ∧ g env = some out ∧
  (∀ env' σ' H', out = .nx env' → SOk w H0 B H' σ' env' → D.nx σ' H') ∧ ∀ c v H', out = .rt c → Sub H0 H' → TB w H' → RpC w (hid B H') v c → D.rt v H'
def RS (X : Cx) (st : Stmt) (g : Env → Option Out) : Prop := PS X st (tS (wX X) g)
def RSs (X : Cx) (st : List Stmt) (g : Env → Option Out) : Prop := PSs X st (tS (wX X) g)
theorem psI {X : Cx} {e : Stmt} {t t' : TS} (h : PS X e t) (k : ∀ D σ H, t' D σ H → t D σ H) : PS X e t' := ⟨fun pins s σ H D I q => h.run pins s σ H D I (k D σ H q)⟩
theorem pssI {X : Cx} {e : List Stmt} {t t' : TS} (h : PSs X e t) (k : ∀ D σ H, t' D σ H → t D σ H) : PSs X e t' := ⟨fun pins s σ H D I q => h.run pins s σ H D I (k D σ H q)⟩
section
variable {X : Cx} {pos : Pos} {st : Stmt} {rest : List Stmt} {g1 g2 : Env → Option Out}
def sNil : Env → Option Out := fun env => some (.nx env)
def sSeq (g1 g2 : Env → Option Out) : Env → Option Out := fun env => match g1 env with
  | some (.nx env') => g2 env'
  | some (.rt c) => some (.rt c)
  | none => none
def sNever : Env → Option Out := fun _ => none
theorem rs_nil : RSs X [] sNil := pssI pss_nil fun D σ H ⟨H0, B, env, out, S, e, q, _⟩ => by cases e; exact q _ _ _ rfl S
theorem rs_cons (h1 : RS X st g1) (h2 : RSs X rest g2) : RSs X (st :: rest) (sSeq g1 g2) := by
  refine pssI (pss_cons h1 h2) fun D σ H ⟨H0, B, env, out, S, e, q, qr⟩ => ?_
  unfold sSeq at e
  split at e
  · rename_i env' h
    exact ⟨H0, B, env, _, S, h, fun env'' σ' H' e1 S' => by cases e1; exact ⟨H0, B, _, out, S', e, q, qr⟩, fun c v H' e1 => by cases e1⟩
  · rename_i c h
    cases e
    exact ⟨H0, B, env, _, S, h, fun env'' σ' H' e1 => by (cases e1), fun c' v H' e1 => by cases e1; exact qr _ _ _ rfl⟩
  · cases e
theorem rs_one (h1 : RS X st g1) : RSs X [st] g1 := pss_one h1
theorem rs_never : RS X st sNever := psI ps_never fun D σ H ⟨H0, B, env, out, S, e, _⟩ => by cases e
theorem rss_never {sts : List Stmt} : RSs X sts sNever := pssI pss_never fun D σ H ⟨H0, B, env, out, S, e, _⟩ => by cases e
theorem rs_pass : RS X (.Pass pos) sNil := psI ps_pass fun D σ H ⟨H0, B, env, out, S, e, q, _⟩ => by cases e; exact q _ _ _ rfl S

/-- return -/
def sRet (f : Env → Option D) : Env → Option Out := fun env => match f env with
  | some d => some (.rt (.d d))
  | none => none
def sRetC (f : Env → Option C) : Env → Option Out := fun env => match f env with
  | some d => some (.rt d)
  | none => none
theorem rs_retC {e : Expr} {f : Env → Option C} (h : REC X e f) : RS X (.Return (some e) pos) (sRetC f) := by
  refine psI (ps_ret h) fun D σ H ⟨H0, B, env, out, ⟨⟨O, own, E, b1, b2, b3⟩, base⟩, e, q, qr⟩ => ?_
  unfold sRetC at e
  split at e
  · rename_i c h1
    cases e
    exact ⟨O, own, env, c, E, h1, fun v H' k r => qr c v H' rfl (base.trans k.sub) (k.tab E.tab) (r.mono (hid_anti b1))⟩
  · cases e
theorem rs_ret {e : Expr} {f : Env → Option D} (h : RE X e f) : RS X (.Return (some e) pos) (sRet f) := by
  refine psI (rs_retC (r_toC h)) fun D σ H ⟨H0, B, env, out, S, e, q⟩ => ⟨H0, B, env, out, S, ?_, q⟩
  unfold sRet at e
  unfold sRetC eToC
  cases hf : f env with
  | some d => rw [hf] at e; exact e
  | none => rw [hf] at e; cases e
/-- if -/
def sIf (c : Env → Option Bool) (g1 g2 : Env → Option Out) : Env → Option Out := fun env => match c env with
  | some true => g1 env
  | some false => g2 env
  | none => none
theorem SOk.mono {w : W2} {H0 H H' : Hp} {B : Addr → Prop} {σ : St} {env : Env} (S : SOk w H0 B H σ env) (k : Same w H H') : SOk w H0 B H' σ env :=
  let ⟨⟨O, own, E, b⟩, base⟩ := S
  ⟨⟨O, own, E.mono k, b⟩, base.trans k.sub⟩
theorem rs_if {c : Expr} {a b : List Stmt} {f : Env → Option Bool} (hc : RT X c f) (ha : RSs X a g1) (hb : RSs X b g2) : RS X (.If c a b pos) (sIf f g1 g2) := by
  refine psI (ps_if hc ha hb) fun D σ H ⟨H0, B, env, out, S, e, q, qr⟩ => ?_
  obtain ⟨⟨O, own, E, b1, b2, b3⟩, base⟩ := id S
  unfold sIf at e
  split at e
  · rename_i h1; exact ⟨O, own, env, true, E, h1, fun H1 k => iteT ⟨H0, B, env, out, S.mono k, e, q, qr⟩⟩
  · rename_i h1; exact ⟨O, own, env, false, E, h1, fun H1 k => iteF ⟨H0, B, env, out, S.mono k, e, q, qr⟩⟩
  · cases e
/-- a value dropped -/
def sDrop (f : Env → Option C) : Env → Option Out := fun env => match f env with
  | some _ => some (.nx env)
  | none => none
theorem rs_drop {e : Expr} {f : Env → Option C} (h : REC X e f) (hs : swapsWith e none pos.line X.env = pure false := by rfl) : RS X (.Expr e pos) (sDrop f) := by
  refine psI (ps_expr h hs) fun D σ H ⟨H0, B, env, out, S, e, q, qr⟩ => ?_
  obtain ⟨⟨O, own, E, b1, b2, b3⟩, base⟩ := id S
  unfold sDrop at e
  split at e
  · rename_i c h1
    cases e
    exact ⟨O, own, env, c, E, h1, fun v H' k r => q _ _ _ rfl (S.mono k)⟩
  · cases e
/-- a target takes an expression's value -/
def sAsg (f : Env → Option C) (g : C → Env → Option Env) : Env → Option Out := fun env => match f env with
  | some c => match g c env with
    | some env' => some (.nx env')
    | none => none
  | none => none
theorem rs_asgI {st : Stmt} {sl : List Nat} {f : Env → Option C} {g : C → Env → Option Env} (h : PS X st (tAsg (tEC (wX X) f) (tG (wX X) sl g))) : RS X st (sAsg f g) := by
  refine psI h fun D σ H ⟨H0, B, env, out, ⟨⟨O, own, E, b1, b2, b3⟩, base⟩, e, q, qr⟩ => ?_
  unfold sAsg at e
  split at e
  · rename_i c h1
    split at e
    · rename_i env' h2
      cases e
      exact ⟨O, own, env, c, E, h1, fun v H' k r => ⟨O, own, env, c, env', E.mono k, r, h2, fun σ' E' _ => q _ _ _ rfl ⟨⟨O, own, E', b1, b2, b3⟩, base.trans k.sub⟩⟩⟩
    · cases e
  · cases e
/-- name = e: h by ps_set .. rfl -/
theorem psAsg {st : Stmt} {t t' : TE} {i : Nat} (h : PS X st (tAsg t (gName i))) (k : ∀ σ H Q, t' σ H Q → t σ H Q) : PS X st (tAsg t' (gName i)) := psI h fun D σ H q => k σ H _ q
theorem rs_setI {st : Stmt} {i : Nat} {f : Env → Option C} (h : PS X st (tAsg (tEC (wX X) f) (gName i))) : RS X st (sAsg f (gSet i)) := by
  refine psI h fun D σ H ⟨H0, B, env, out, ⟨⟨O, own, E, b1, b2, b3⟩, base⟩, e, q, qr⟩ => ?_
  unfold sAsg at e
  split at e
  · rename_i c h1
    cases e
    exact ⟨O, own, env, c, E, h1, fun v H' k r => q _ _ _ rfl ⟨⟨O, own, (E.mono k).set i r, b1, b2, b3⟩, base.trans k.sub⟩⟩
  · cases e
theorem rs_setC {i : Nat} {x : Str} {e : Expr} {f : Env → Option C} {pos' : Pos} (hN : X.N.Nodup) (hi : X.N[i]? = some x) (hx : Loc X.env.scope x) (he : REC X e f) (hs : swapsWith e (some (.Name x pos')) pos.line X.env = pure false := by rfl) (hf : X.fn x = true ∨ X.env.scope.names.lookup x = some .local := by first | exact .inl rfl | exact .inr rfl) :
    RS X (.Assign [.Name x pos'] e pos) (sAsg f (gSet i)) := rs_setI (ps_set hN hi hx he hs hf)
theorem rs_set {i : Nat} {x : Str} {e : Expr} {f : Env → Option D} {pos' : Pos} (hN : X.N.Nodup) (hi : X.N[i]? = some x) (hx : Loc X.env.scope x) (he : RE X e f) (hs : swapsWith e (some (.Name x pos')) pos.line X.env = pure false := by rfl) (hf : X.fn x = true ∨ X.env.scope.names.lookup x = some .local := by first | exact .inl rfl | exact .inr rfl) :
    RS X (.Assign [.Name x pos'] e pos) (sAsg (eToC f) (gSet i)) := rs_setC hN hi hx (r_toC he) hs hf
/-- a, b = e -/
theorem rs_unp {tg e : Expr} {f : Env → Option D} {sl : List Nat} {g : C → Env → Option Env} (he : RE X e f) (hg : RG X tg sl g) (hs : swapsWithSole [tg] e pos.line X.env = pure false := by rfl) (hw : swappedStores [tg] e X.env = pure none := by rfl)
    (h1 : (assignEach [tg] X.env).map (·.2) = [assign tg X.env] := by rfl) : RS X (.Assign [tg] e pos) (sAsg (eToC f) g) :=
  rs_asgI (ps_asg (r_toC he) hg hs hw h1)

/-! ### owned lists -/
/-- an owned list at a slot that nobody else has -/
theorem EnvOk.setOwn {w : W2} {O : Addr → Prop} {own : Nat → Option Addr} {H : Hp} {σ : St} {env : Env} (E : EnvOk w O own H σ env) (i : Nat) {p : Addr} {xs : List V} {ds : List D} (hp : O p) (n : ∀ j, own j ≠ some p) (h : H p = some (.lst xs)) (r : RpA (hid O H) xs ds) :
    EnvOk w O (fun j => if j = i then some p else own j) H (σ.set i (some (.ref p))) (env.set i (some (.ol ds))) where
  tab := E.tab
  len := by rw [List.length_set, List.length_set]; exact E.len
  there := E.there
  inO := fun j a e => by
    by_cases q : j = i
    · rw [if_pos q] at e; cases e; exact hp
    · rw [if_neg q] at e; exact E.inO j a e
  inj := fun j k a e1 e2 => by
    by_cases q1 : j = i
    · rw [if_pos q1] at e1
      cases e1
      by_cases q2 : k = i
      · rw [q1, q2]
      · rw [if_neg q2] at e2; exact absurd e2 (n k)
    · rw [if_neg q1] at e1
      by_cases q2 : k = i
      · rw [if_pos q2] at e2; cases e2; exact absurd e1 (n j)
      · rw [if_neg q2] at e2; exact E.inj j k a e1 e2
  val := fun j c e => by
    by_cases q : i = j
    · subst q
      by_cases hl : i < env.length
      · rw [List.getElem?_set_self hl] at e
        cases e
        exact .inr (.inl ⟨p, xs, ds, rfl, if_pos rfl, List.getElem?_set_self (by rw [← E.len]; exact hl), h, r⟩)
      · rw [List.getElem?_eq_none (by rw [List.length_set]; omega)] at e; cases e
    · rw [List.getElem?_set_ne q] at e ⊢
      rw [if_neg (fun z => q z.symm)]
      exact E.val j c e
theorem EnvOk.setOwnN {w : W2} {O : Addr → Prop} {own : Nat → Option Addr} {H : Hp} {σ : St} {env : Env} (E : EnvOk w O own H σ env) (i : Nat) {p : Addr} {ks : List (NestedKey × Addr × V)} {kvs : List (D × D)} (hp : O p) (n : ∀ j, own j ≠ some p) (h : DAt w.w H p ks) (r : RpK (hid O H) ks kvs) :
    EnvOk w O (fun j => if j = i then some p else own j) H (σ.set i (some (.ref p))) (env.set i (some (.on kvs))) where
  tab := E.tab
  len := by rw [List.length_set, List.length_set]; exact E.len
  there := E.there
  inO := fun j a e => by
    by_cases q : j = i
    · rw [if_pos q] at e; cases e; exact hp
    · rw [if_neg q] at e; exact E.inO j a e
  inj := fun j k a e1 e2 => by
    by_cases q1 : j = i
    · rw [if_pos q1] at e1
      cases e1
      by_cases q2 : k = i
      · rw [q1, q2]
      · rw [if_neg q2] at e2; exact absurd e2 (n k)
    · rw [if_neg q1] at e1
      by_cases q2 : k = i
      · rw [if_pos q2] at e2; cases e2; exact absurd e1 (n j)
      · rw [if_neg q2] at e2; exact E.inj j k a e1 e2
  val := fun j c e => by
    by_cases q : i = j
    · subst q
      by_cases hl : i < env.length
      · rw [List.getElem?_set_self hl] at e
        cases e
        exact .inr (.inr ⟨p, ks, kvs, rfl, if_pos rfl, List.getElem?_set_self (by rw [← E.len]; exact hl), h, r⟩)
      · rw [List.getElem?_eq_none (by rw [List.length_set]; omega)] at e; cases e
    · rw [List.getElem?_set_ne q] at e ⊢
      rw [if_neg (fun z => q z.symm)]
      exact E.val j c e
/-- name = a new list, the name's own from here on -/
def sOwn (i : Nat) (f : Env → Option (List D)) : Env → Option Out := fun env => match f env with
  | some ds => some (.nx (env.set i (some (.ol ds))))
  | none => none
theorem rs_ownI {st : Stmt} {i : Nat} {f : Env → Option (List D)} (h : PS X st (tAsg (tEF (wX X) f) (gName i))) : RS X st (sOwn i f) := by
  refine psI h fun D σ H ⟨H0, B, env, out, ⟨⟨O, own, E, b1, b2, b3⟩, base⟩, e, q, qr⟩ => ?_
  unfold sOwn at e
  split at e
  · rename_i ds h1
    cases e
    refine ⟨O, own, env, ds, E, h1, fun p xs H' k hp hq r => q _ _ _ rfl ?_⟩
    have nO : ¬ O p := fresh_of E.there hp
    have E1 : EnvOk (wX X) (fun b => b = p ∨ O b) own H' σ env := E.grow k (fun a z => .inr z) (fun a z => z.elim (fun e => .inr (e ▸ hp)) .inl) fun a z => z.elim (fun e => ⟨_, e ▸ hq⟩) fun z => k.live a (E.there a z)
    refine ⟨⟨fun b => b = p ∨ O b, _, E1.setOwn i (.inl rfl) (fun j z => nO (E.inO j p z)) hq r, fun a z => .inr (b1 a z), fun j a z => ?_, fun a z => ?_⟩, base.trans k.sub⟩
    · by_cases hj : j = i
      · rw [if_pos hj] at z; cases z; exact fun z => nO (b1 _ z)
      · rw [if_neg hj] at z; exact b2 j a z
    · rcases z with z | z
      · rw [z]; exact .inr (base.free hp)
      · exact b3 a z
  · cases e
theorem rs_own {i : Nat} {x : Str} {e : Expr} {f : Env → Option (List D)} {pos' : Pos} (hN : X.N.Nodup) (hi : X.N[i]? = some x) (hx : Loc X.env.scope x) (he : REF X e f) (hs : swapsWith e (some (.Name x pos')) pos.line X.env = pure false := by rfl) (hf : X.fn x = true ∨ X.env.scope.names.lookup x = some .local := by first | exact .inl rfl | exact .inr rfl) :
    RS X (.Assign [.Name x pos'] e pos) (sOwn i f) := rs_ownI (ps_set hN hi hx he hs hf)
/-- nobody changes it from here on -/
def sFreeze (i : Nat) (g : Env → Option Out) : Env → Option Out := fun env => match look env i with
  | some (.ol ds) => g (env.set i (some (.d (.lst ds))))
  | some (.on kvs) => g (env.set i (some (.dn kvs)))
  | _ => none
theorem SOk.freeze {w : W2} {H0 H : Hp} {B : Addr → Prop} {σ : St} {env : Env} {i : Nat} (S : SOk w H0 B H σ env) : (∀ ds, look env i = some (.ol ds) → SOk w H0 B H σ (env.set i (some (.d (.lst ds))))) ∧ ∀ kvs, look env i = some (.on kvs) → SOk w H0 B H σ (env.set i (some (.dn kvs))) := by
  obtain ⟨⟨O, own, E, b1, b2, b3⟩, base⟩ := S
  have gen : ∀ a v c, own i = some a → σ[i]? = some (some v) → RpC w (hid (fun b => O b ∧ b ≠ a) H) v c → SOk w H0 B H σ (env.set i (some c)) := fun a v c ho hs hr => by
    have E1 : EnvOk w (fun b => O b ∧ b ≠ a) (fun j => if j = i then none else own j) H σ (env.set i none) := by
      refine ⟨by rw [List.length_set]; exact E.len, fun b z => E.there b z.1, fun j b e => ?_, fun j k b e1 e2 => ?_, fun j c' e => ?_, E.tab⟩
      · by_cases hj : j = i
        · rw [if_pos hj] at e; cases e
        · rw [if_neg hj] at e
          exact ⟨E.inO j b e, fun z => hj (E.inj j i a (z ▸ e) ho)⟩
      · by_cases h1 : j = i
        · rw [if_pos h1] at e1; cases e1
        · by_cases h2 : k = i
          · rw [if_pos h2] at e2; cases e2
          · rw [if_neg h1] at e1; rw [if_neg h2] at e2; exact E.inj j k b e1 e2
      · by_cases hj : i = j
        · subst hj
          by_cases hl : i < env.length
          · rw [List.getElem?_set_self hl] at e; cases e
          · rw [List.getElem?_eq_none (by rw [List.length_set]; omega)] at e; cases e
        · rw [List.getElem?_set_ne hj] at e
          have kk : Sub (hid O H) (hid (fun b => O b ∧ b ≠ a) H) := hid_anti fun b z => z.1
          rcases E.val j c' e with ⟨v', e1, r⟩ | ⟨b, xs, ds, e1, e2, e3, e4, r⟩ | ⟨b, ks, kvs, e1, e2, e3, e4, r⟩
          · exact .inl ⟨v', e1, r.mono kk⟩
          · exact .inr (.inl ⟨b, xs, ds, e1, by rw [if_neg fun z => hj z.symm]; exact e2, e3, e4, r.mono kk⟩)
          · exact .inr (.inr ⟨b, ks, kvs, e1, by rw [if_neg fun z => hj z.symm]; exact e2, e3, e4, r.mono kk⟩)
    have E2 := E1.set i hr
    have hl : i < σ.length := (List.getElem?_eq_some_iff.mp hs).1
    rw [List.set_set, show σ.set i (some v) = σ from by
      refine List.ext_getElem? fun j => ?_
      by_cases hj : i = j
      · subst hj; rw [List.getElem?_set_self hl, hs]
      · rw [List.getElem?_set_ne hj]] at E2
    refine ⟨⟨_, _, E2, fun b z => ⟨b1 b z, fun e => b2 i a ho (e ▸ z)⟩, fun j b e => ?_, fun b z => b3 b z.1⟩, base⟩
    by_cases hj : j = i
    · rw [if_pos hj] at e; cases e
    · rw [if_neg hj] at e; exact b2 j b e
  refine ⟨fun ds e => ?_, fun kvs e => ?_⟩
  · rcases E.val i _ (look_some e) with ⟨v, e1, r⟩ | ⟨a, xs, ds', z, e2, e3, e4, r⟩ | ⟨_, _, _, z, _⟩
    · cases r
    · cases z
      exact gen a _ _ e2 e3 (.d (.lst (hid_some.mpr ⟨e4, fun z => z.2 rfl⟩) (r.mono (hid_anti fun b z => z.1))))
    · cases z
  · rcases E.val i _ (look_some e) with ⟨v, e1, r⟩ | ⟨_, _, _, z, _⟩ | ⟨a, ks, kvs', z, e2, e3, e4, r⟩
    · cases r
    · cases z
    · cases z
      exact gen a _ _ e2 e3 (.dn (let ⟨ep, h4⟩ := e4; ⟨ep, hid_some.mpr ⟨h4, fun z => z.2 rfl⟩⟩) (r.mono (hid_anti fun b z => z.1)))
theorem freeze_core {w : W2} {g : Env → Option Out} {i : Nat} {D : Ends} {σ : St} {H : Hp} (h : tS w (sFreeze i g) D σ H) : tS w g D σ H := by
  obtain ⟨H0, B, env, out, S, e, q⟩ := h
  unfold sFreeze at e
  split at e
  · rename_i ds h1; exact ⟨H0, B, _, out, (S.freeze (i := i)).1 ds h1, e, q⟩
  · rename_i ds h1; exact ⟨H0, B, _, out, (S.freeze (i := i)).2 ds h1, e, q⟩
  · cases e
theorem rs_freeze (i : Nat) (h : RS X st g1) : RS X st (sFreeze i g1) := psI h fun D σ H q => freeze_core q
theorem rss_freeze (i : Nat) {sts : List Stmt} (h : RSs X sts g1) : RSs X sts (sFreeze i g1) := pssI h fun D σ H q => freeze_core q
end
end Ev

set_option Elab.async false
set_option linter.all false
set_option autoImplicit false
set_option maxRecDepth 100000
set_option maxHeartbeats 4000000
/-! Ev6: what is walked; for, while; comprehensions -/
namespace Ev
open PySem PySem.Spec L2

/-! ### what is walked -/
/-- the iterator yields these, while what stands in G stands -/
def Wk (G : Hp) (J : It) (ds : List D) : Prop := ∀ (i : Nat) (H : Hp) (O : Addr → Prop), Sub G (hid O H) → (∀ a, O a → ∃ o, H a = some o) →
  (∀ d, ds[i]? = some d → J.go i H ∧ ∀ x H', J.yld i H x H' → (∀ w, Same w H H') ∧ Rp (hid O H') x d) ∧ (ds.length ≤ i → J.stop i H)
def tI (w : W2) (f : Env → Option (List D)) : TI := fun σ H R => ∃ O own env ds, EnvOk w O own H σ env ∧ f env = some ds ∧ ∀ J H', Same w H H' → Wk (hid O H') J ds → R J H'
def RI (X : Cx) (tg iter : Expr) (f : Env → Option (List D)) : Prop := PI X tg iter (tI (wX X) f)
theorem piI {X : Cx} {tg e : Expr} {t t' : TI} (h : PI X tg e t) (k : ∀ σ H Q, t' σ H Q → t σ H Q) : PI X tg e t' := ⟨fun pins s σ H R I q => h.run pins s σ H R I (k σ H R q)⟩
theorem wk_list {K : PySem.W.Frag} {G : Hp} {a : Addr} {xs : List V} {ds : List D} (h : G a = some (.lst xs)) (r : RpA G xs ds) : Wk G (Itl K a) ds := by
  intro i H O k th
  have hq : H a = some (.lst xs) := hid_ap (k.ap h)
  refine ⟨fun d e => ?_, fun hl => ⟨xs, SqL.of hq, by rw [r.length]; exact hl⟩⟩
  obtain ⟨v, e1, rv⟩ := r.get e
  refine ⟨⟨xs, v, SqL.of hq, e1⟩, fun x H' ⟨e2, y⟩ => ?_⟩
  subst e2
  have := y xs (SqL.of hq)
  rw [e1] at this
  cases this
  exact ⟨fun _ => Same.refl _, rv.mono k⟩
theorem wk_tup {K : PySem.W.Frag} {G : Hp} {a : Addr} {xs : List V} {ds : List D} (h : G a = some (.tup xs)) (r : RpA G xs ds) : Wk G (Itt K a) ds := by
  intro i H O k th
  have hq : H a = some (.tup xs) := hid_ap (k.ap h)
  refine ⟨fun d e => ?_, fun hl => ⟨xs, SqT.of hq, by rw [r.length]; exact hl⟩⟩
  obtain ⟨v, e1, rv⟩ := r.get e
  refine ⟨⟨xs, v, SqT.of hq, e1⟩, fun x H' ⟨e2, y⟩ => ?_⟩
  subst e2
  have := y xs (SqT.of hq)
  rw [e1] at this
  cases this
  exact ⟨fun _ => Same.refl _, rv.mono k⟩
/-- lo, lo + 1, .. -/
def rangeD (lo : Int) : Nat → List D
  | 0 => []
  | n + 1 => .int lo :: rangeD (iadd lo 1) n
theorem rangeD_length : ∀ (n : Nat) (lo : Int), (rangeD lo n).length = n
  | 0, _ => rfl
  | n + 1, lo => by rw [rangeD, List.length_cons, rangeD_length n]
theorem rangeD_get : ∀ (n i : Nat) (lo : Int) (d : D), (rangeD lo n)[i]? = some d → i < n ∧ d = .int (lo + i)
  | 0, _, _, _, h => by simp [rangeD] at h
  | n + 1, 0, lo, d, h => by simp [rangeD] at h; subst h; simp
  | n + 1, i + 1, lo, d, h => by
    simp only [rangeD, List.getElem?_cons_succ] at h
    obtain ⟨h1, h2⟩ := rangeD_get n i _ d h
    rw [iadd_eq] at h2
    exact ⟨by omega, by rw [h2]; congr 1; push_cast; omega⟩
theorem wk_range {G : Hp} {lo : Int} {n : Nat} : Wk G (Itr lo n) (rangeD lo n) := by
  intro i H O k th
  refine ⟨fun d e => ?_, fun hl => by rw [rangeD_length] at hl; exact hl⟩
  obtain ⟨h1, h2⟩ := rangeD_get n i lo d e
  refine ⟨h1, fun x H' ⟨e2, y⟩ => ?_⟩
  subst e2
  rw [y, h2]
  exact ⟨fun _ => Same.refl _, .int _⟩
def zipD : List D → List D → List D
  | x :: xs, y :: ys => .tup [x, y] :: zipD xs ys
  | _, _ => []
theorem zipD_get : ∀ (xs ys : List D) (i : Nat) (d : D), (zipD xs ys)[i]? = some d → ∃ x y, xs[i]? = some x ∧ ys[i]? = some y ∧ d = .tup [x, y]
  | [], _, _, _, h => by simp [zipD] at h
  | _ :: _, [], _, _, h => by simp [zipD] at h
  | x :: xs, y :: ys, 0, d, h => by simp [zipD] at h; exact ⟨x, y, by simp, by simp, h.symm⟩
  | x :: xs, y :: ys, i + 1, d, h => by simpa using zipD_get xs ys i d (by simpa [zipD] using h)
theorem zipD_end : ∀ (xs ys : List D) (i : Nat), (zipD xs ys).length ≤ i → xs.length ≤ i ∨ ys.length ≤ i
  | [], _, i, _ => .inl (Nat.zero_le _)
  | _ :: _, [], i, _ => .inr (Nat.zero_le _)
  | x :: xs, y :: ys, 0, h => by simp [zipD] at h
  | x :: xs, y :: ys, i + 1, h => by
    have := zipD_end xs ys i (by simpa [zipD] using h)
    simpa using this
theorem wk_zipT {K : PySem.W.Frag} {G : Hp} {a b : Addr} {xs ys : List V} {ds es : List D} (ha : G a = some (.tup xs)) (ra : RpA G xs ds) (hb : G b = some (.tup ys)) (rb : RpA G ys es) : Wk G (RZ.ItzT K a b) (zipD ds es) := by
  intro i H O k th
  have hqa : H a = some (.tup xs) := hid_ap (k.ap ha)
  have hqb : H b = some (.tup ys) := hid_ap (k.ap hb)
  refine ⟨fun d e => ?_, fun hl => ⟨xs, ys, SqT.of hqa, SqT.of hqb, by rw [ra.length, rb.length]; exact zipD_end ds es i hl⟩⟩
  obtain ⟨x, y, h1, h2, rfl⟩ := zipD_get ds es i d e
  obtain ⟨v, e1, rv⟩ := ra.get h1
  obtain ⟨u, e2, ru⟩ := rb.get h2
  refine ⟨⟨xs, ys, v, u, SqT.of hqa, SqT.of hqb, e1, e2⟩, fun z H' ⟨T, x', y', e3, hT, e4, q1, q2⟩ => ?_⟩
  have := q1 xs (SqT.of hqa); rw [e1] at this; cases this
  have := q2 ys (SqT.of hqb); rw [e2] at this; cases this
  subst e3 e4
  exact ⟨fun _ => Same.upd hT, Rp.newT hT (fresh_of th hT) (.cons (rv.mono k) (.cons (ru.mono k) .nil))⟩
section
variable {X : Cx} {tg e : Expr}
def itL (f : Env → Option D) : Env → Option (List D) := fun env => match f env with
  | some (.lst xs) => some xs
  | _ => none
def itT (f : Env → Option D) : Env → Option (List D) := fun env => match f env with
  | some (.tup xs) => some xs
  | _ => none
theorem ri_list {f : Env → Option D} (h : RE X e f) : RI X tg e (itL f) := by
  refine piI (pi_list h) fun σ H R ⟨O, own, env, ds, E, e, q⟩ => ?_
  unfold itL at e
  split at e
  · rename_i xs h1
    cases e
    exact ⟨O, own, env, _, E, h1, fun v H' k r => by cases r with | lst h1 h2 => exact ⟨_, rfl, ⟨_, SqL.of (hid_ap h1)⟩, q _ H' k (wk_list h1 h2)⟩⟩
  · cases e
theorem ri_tup {f : Env → Option D} (h : RE X e f) : RI X tg e (itT f) := by
  refine piI (pi_tup h) fun σ H R ⟨O, own, env, ds, E, e, q⟩ => ?_
  unfold itT at e
  split at e
  · rename_i xs h1
    cases e
    exact ⟨O, own, env, _, E, h1, fun v H' k r => by cases r with | tup h1 h2 => exact ⟨_, rfl, ⟨_, SqT.of (hid_ap h1)⟩, q _ H' k (wk_tup h1 h2)⟩⟩
  · cases e
def okR (i : Int) : Bool := smallI i
def natOf : Int → Nat
  | .ofNat n => n
  | .negSucc _ => 0
theorem natOf_eq (i : Int) : natOf i = i.toNat := by cases i <;> rfl
def itR1 (f : Env → Option D) : Env → Option (List D) := fun env => match f env with
  | some (.int j) => match smallI j with
    | true => some (rangeD 0 (natOf j))
    | false => none
  | _ => none
def itR2 (f g : Env → Option D) : Env → Option (List D) := fun env => match f env with
  | some (.int i) => match g env with
    | some (.int j) => match smallI i with
      | true => match smallI j with
        | true => some (rangeD i (natOf (isub j i)))
        | false => none
      | false => none
    | _ => none
  | _ => none
variable {a b : Expr} {p pos : Pos}
theorem ri_range1 {f : Env → Option D} (hg : Gl X "range") (hm : X.mg "range" = none) (h : RE X a f) (hs : starEach [a] X.env = [(false, eval a X.env)] := by rfl) : RI X tg (.Call (.Name "range" p) [a] [] pos) (itR1 f) := by
  refine piI (pi_range1 hg hm (pa_cons h pa_nil hs) hs) fun σ H R ⟨O, own, env, ds, E, e, q⟩ => ?_
  unfold itR1 at e
  split at e
  · rename_i j h1
    split at e
    · rename_i h2
      cases e
      have := smallI_ok h2
      refine ⟨O, own, env, _, E, h1, fun v H' k r => ?_⟩
      cases r
      exact ⟨j, rfl, by omega, by omega, q _ H' k (by rw [natOf_eq]; exact wk_range)⟩
    · cases e
  · cases e
theorem ri_range2 {f g : Env → Option D} (hg : Gl X "range") (hm : X.mg "range" = none) (h : RE X a f) (h' : RE X b g) (hs : starEach [a, b] X.env = [(false, eval a X.env), (false, eval b X.env)] := by rfl) (hs2 : starEach [b] X.env = [(false, eval b X.env)] := by rfl) : RI X tg (.Call (.Name "range" p) [a, b] [] pos) (itR2 f g) := by
  refine piI (pi_range2 hg hm (pa_cons h (pa_cons h' pa_nil hs2) (by rw [hs, hs2])) hs hs2) fun σ H R ⟨O, own, env, ds, E, e, q⟩ => ?_
  unfold itR2 at e
  split at e
  · rename_i i h1
    split at e
    · rename_i j h2
      split at e
      · rename_i h3
        split at e
        · rename_i h4
          cases e
          have := smallI_ok h3
          have := smallI_ok h4
          refine ⟨O, own, env, _, E, h1, fun v H1 k1 r1 => ⟨O, own, env, _, E.mono k1, h2, fun v2 H2 k2 r2 => ?_⟩⟩
          cases r1
          cases r2
          exact ⟨i, j, rfl, ⟨by omega, by omega, by omega, by omega⟩, q _ H2 (k1.trans k2) (by rw [natOf_eq, isub_eq]; exact wk_range)⟩
        · cases e
      · cases e
    · cases e
  · cases e
def itZ (f g : Env → Option D) : Env → Option (List D) := fun env => match f env with
  | some (.tup xs) => match g env with
    | some (.tup ys) => some (zipD xs ys)
    | _ => none
  | _ => none
theorem ri_zip {elts : List Expr} {kk : Nat} {tpos : Pos} {f g : Env → Option D} (hg : Gl X "zip") (hm : X.mg "zip" = none) (h : RE X a f) (h' : RE X b g) (hs : starEach [a, b] X.env = (false, eval a X.env) :: starEach [b] X.env := by rfl) (hs2 : starEach [b] X.env = (false, eval b X.env) :: starEach [] X.env := by rfl) (hpl : (backTo pos (starEach [b] X.env)).any (·.1) = false := by rfl) :
    RI X (.Tuple elts kk tpos) (.Call (.Name "zip" p) [a, b] [] pos) (itZ f g) := by
  refine piI (RZ.pi_zipA hg hm (pa_cons h (pa_cons h' pa_nil hs2) hs) hs hpl) fun σ H R ⟨O, own, env, ds, E, e, q⟩ => ?_
  unfold itZ at e
  split at e
  · rename_i xs h1
    split at e
    · rename_i ys h2
      cases e
      refine ⟨O, own, env, _, E, h1, fun v H1 k1 r1 => ⟨O, own, env, _, E.mono k1, h2, fun v2 H2 k2 r2 => ?_⟩⟩
      cases r1.mono (hid_mono (O := O) k2) with
      | tup h3 h4 => cases r2 with
        | tup h5 h6 => exact ⟨_, _, _, _, rfl, .inr ⟨SqT.of (hid_ap h3), SqT.of (hid_ap h5), q _ H2 (k1.trans k2) (wk_zipT h3 h4 h5 h6)⟩⟩
    · cases e
  · cases e
end

/-! ### for -/
def forGo (g : C → Env → Option Env) (body : Env → Option Out) : List D → Env → Option Out
  | [], env => some (.nx env)
  | d :: r, env => match g (.d d) env with
    | some e1 => match body e1 with
      | some (.nx e2) => forGo g body r e2
      | some (.rt c) => some (.rt c)
      | none => none
    | none => none
def sFor (f : Env → Option (List D)) (g : C → Env → Option Env) (body : Env → Option Out) : Env → Option Out := fun env => match f env with
  | some ds => forGo g body ds env
  | none => none
theorem drop_get {ds : List D} {i : Nat} {d : D} {r : List D} (h : ds.drop i = d :: r) : ds[i]? = some d ∧ ds.drop (i + 1) = r ∧ i < ds.length := by
  have h1 : i < ds.length := by
    by_cases z : i < ds.length
    · exact z
    · rw [List.drop_eq_nil_of_le (by omega)] at h; cases h
  rw [List.drop_eq_getElem_cons h1] at h
  injection h with h2 h3
  exact ⟨by rw [List.getElem?_eq_getElem h1, h2], h3, h1⟩
section
variable {X : Cx} {pos : Pos} {tg iter : Expr} {body : List Stmt} {f : Env → Option (List D)} {sl : List Nat} {g : C → Env → Option Env} {tb : Env → Option Out}
/-- a nearer base: what is frozen now -/
theorem near {w : W2} {H0 H : Hp} {B O : Addr → Prop} {own : Nat → Option Addr} {σ : St} {env : Env} (E : EnvOk w O own H σ env) (b1 : ∀ a, B a → O a) (b2 : ∀ i a, own i = some a → ¬ B a) (b3 : ∀ a, O a → B a ∨ H0 a = none) (base : Sub H0 H) :
    ∃ Hb, SOk w Hb B H σ env ∧ (∀ H' σ' env', SOk w Hb B H' σ' env' → SOk w H0 B H' σ' env') ∧ Sub H0 Hb ∧
    ∀ H' σ' env', SOk w Hb B H' σ' env' → ∃ O' own', EnvOk w O' own' H' σ' env' ∧ (∀ a, B a → O' a) ∧ (∀ i a, own' i = some a → ¬ B a) ∧ (∀ a, O' a → B a ∨ Hb a = none) ∧ Sub Hb H' ∧ Sub (hid O H) (hid O' H') := by
  have s1 : Sub (hid (fun a => O a ∧ ¬ B a) H) H := hid_le
  have s0 : Sub H0 (hid (fun a => O a ∧ ¬ B a) H) := base.toHid fun a o e z => (b3 a z.1).elim z.2 fun q => by rw [q] at e; cases e
  refine ⟨hid (fun a => O a ∧ ¬ B a) H, ⟨⟨O, own, E, b1, b2, fun a z => ?_⟩, s1⟩, fun H' σ' env' S' => ?_, s0, fun H' σ' env' S' => ?_⟩
  · by_cases hb : B a
    · exact .inl hb
    · right
      cases q : hid (fun a => O a ∧ ¬ B a) H a with
      | none => rfl
      | some o => exact absurd ⟨z, hb⟩ (hid_some.mp q).2
  · obtain ⟨⟨O', own', E', c1, c2, c3⟩, base'⟩ := S'
    exact ⟨⟨O', own', E', c1, c2, fun a z => (c3 a z).imp id fun q => s0.free q⟩, s0.trans base'⟩
  · obtain ⟨⟨O', own', E', c1, c2, c3⟩, base'⟩ := S'
    refine ⟨O', own', E', c1, c2, c3, base', (Sub.trans (hid_anti fun a z => z.1) base').toHid fun a o e z => ?_⟩
    obtain ⟨h1, h2⟩ := hid_some.mp e
    have h3 : hid (fun a => O a ∧ ¬ B a) H a = some o := hid_some.mpr ⟨h1, fun z => h2 z.1⟩
    rcases c3 a z with q | q
    · exact h2 (b1 a q)
    · rw [q] at h3; cases h3
theorem rs_for (hp : PassesOwn (model X.prog X.w) X.A X.env X.xe) (hc : X.calm = true) (hi : RI X tg iter f) (hg : RG X tg sl g) (hb : RSs X body tb) (hs : ∀ x, foldedSetIterable iter X.env x = pure x := by intro _; rfl) : RS X (.For tg iter body [] pos) (sFor f g tb) := by
  refine psI (ps_for hp hc hi hg hb hs) fun D σ H ⟨H0, B, env, out, ⟨⟨O, own, E, b1, b2, b3⟩, base⟩, e, q, qr⟩ => ?_
  unfold sFor at e
  split at e
  · rename_i ds h1
    refine ⟨O, own, env, ds, E, h1, fun J H1 k1 wk => ?_⟩
    obtain ⟨Hb, Sb, back, s0, nr⟩ := near (E.mono k1) b1 b2 b3 (base.trans k1.sub)
    refine ⟨fun i m σ' H' => m = ds.length - i ∧ ∃ env', SOk (wX X) Hb B H' σ' env' ∧ forGo g tb (ds.drop i) env' = some out, ⟨ds.length, by simp, env, Sb, by simpa using e⟩, ?_⟩
    rintro i m σ' H' ⟨rfl, env', S', e'⟩
    obtain ⟨O', own', E', c1, c2, c3, base', kk⟩ := nr H' σ' env' S'
    obtain ⟨w1, w2⟩ := wk i H' O' kk E'.there
    cases hd : ds.drop i with
    | nil =>
      have hl : ds.length ≤ i := List.drop_eq_nil_iff.mp hd
      rw [hd] at e'
      cases e'
      exact .inl ⟨w2 hl, q _ _ _ rfl (back _ _ _ S')⟩
    | cons d r =>
      obtain ⟨g1, g2, g3⟩ := drop_get hd
      obtain ⟨go, yl⟩ := w1 d g1
      rw [hd] at e'
      unfold forGo at e'
      refine .inr ⟨go, fun σ2 H2 => ∃ env2, SOk (wX X) Hb B H2 σ2 env2 ∧ forGo g tb r env2 = some out, fun σ2 H2 ⟨env2, S2, e2⟩ => ⟨ds.length - (i + 1), by omega, rfl, env2, S2, by rw [g2]; exact e2⟩, fun x H2 y => ?_⟩
      obtain ⟨k2, rx⟩ := yl x H2 y
      have k2 := k2 (wX X)
      split at e'
      · rename_i e1 h2
        refine ⟨O', own', env', _, e1, E'.mono k2, .d rx, h2, fun σ3 E3 _ => ?_⟩
        have S3 : SOk (wX X) Hb B H2 σ3 e1 := ⟨⟨O', own', E3, c1, c2, c3⟩, base'.trans k2.sub⟩
        split at e'
        · rename_i env4 h4
          exact ⟨Hb, B, e1, _, S3, h4, fun env5 σ5 H5 e5 S5 => by cases e5; exact ⟨_, S5, e'⟩, fun c v H5 e5 => by cases e5⟩
        · rename_i c h4
          cases e'
          exact ⟨Hb, B, e1, _, S3, h4, fun env5 σ5 H5 e5 => by (cases e5), fun c v H5 e5 k5 t5 r5 => by cases e5; exact qr _ _ _ rfl (s0.trans k5) t5 r5⟩
        · cases e'
      · cases e'
  · cases e

/-! ### while -/
def whileGo (c : Env → Option Bool) (body : Env → Option Out) : Nat → Env → Option Out
  | 0, _ => none
  | n + 1, env => match c env with
    | some true => match body env with
      | some (.nx e2) => whileGo c body n e2
      | some (.rt c) => some (.rt c)
      | none => none
    | some false => some (.nx env)
    | none => none
def sWhile (n : Nat) (c : Env → Option Bool) (body : Env → Option Out) : Env → Option Out := whileGo c body n
theorem rs_while {c : Expr} {fc : Env → Option Bool} {n : Nat} (hp : PassesOwn (model X.prog X.w) X.A X.env X.xe) (hc : RT X c fc) (hb : RSs X body tb) : RS X (.While c body [] pos) (sWhile n fc tb) := by
  refine psI (ps_while hp hc hb) fun D σ H ⟨H0, B, env, out, S, e, q, qr⟩ => ?_
  refine ⟨fun m σ' H' => ∃ env', SOk (wX X) H0 B H' σ' env' ∧ whileGo fc tb m env' = some out, ⟨n, env, S, e⟩, ?_⟩
  rintro m σ' H' ⟨env', S', e'⟩
  obtain ⟨O, own, E, b⟩ := id S'.ex
  cases m with
  | zero => cases e'
  | succ m =>
    unfold whileGo at e'
    split at e'
    · rename_i h1
      refine ⟨O, own, env', true, E, h1, fun H1 k1 => iteT ⟨fun σ2 H2 => ∃ env2, SOk (wX X) H0 B H2 σ2 env2 ∧ whileGo fc tb m env2 = some out, fun σ2 H2 h2 => ⟨m, Nat.lt_succ_self m, h2⟩, ?_⟩⟩
      split at e'
      · rename_i env4 h4
        exact ⟨H0, B, env', _, S'.mono k1, h4, fun env5 σ5 H5 e5 S5 => by cases e5; exact ⟨_, S5, e'⟩, fun c v H5 e5 => by cases e5⟩
      · rename_i c h4
        cases e'
        exact ⟨H0, B, env', _, S'.mono k1, h4, fun env5 σ5 H5 e5 => by (cases e5), fun c v H5 e5 k5 t5 r5 => by cases e5; exact qr _ _ _ rfl k5 t5 r5⟩
      · cases e'
    · rename_i h1
      cases e'
      exact ⟨O, own, env', false, E, h1, fun H1 k1 => iteF (q _ _ _ rfl (S'.mono k1))⟩
    · cases e'
end

/-! ### comprehensions -/
def compGo (g : C → Env → Option Env) (c : Env → Option Bool) (f : Env → Option D) (env : Env) : List D → Option (List D)
  | [] => some []
  | d :: r => match g (.d d) env with
    | some e1 => match c e1 with
      | some true => match f e1 with
        | some x => match compGo g c f env r with
          | some xs => some (x :: xs)
          | none => none
        | none => none
      | some false => compGo g c f env r
      | none => none
    | none => none
def eComp (vs : List Nat) (it : Env → Option (List D)) (g : C → Env → Option Env) (c : Env → Option Bool) (f : Env → Option D) : Env → Option (List D) := fun env => match it env with
  | some ds => match short ds 1000 with
    | true => compGo g c f (wipeE env vs) ds
    | false => none
  | none => none
def cYes : Env → Option Bool := fun _ => some true
theorem compGo_len {g : C → Env → Option Env} {c : Env → Option Bool} {f : Env → Option D} {env : Env} : ∀ {ds xs : List D}, compGo g c f env ds = some xs → xs.length ≤ ds.length
  | [], xs, h => by cases h; exact Nat.le_refl _
  | d :: r, xs, h => by
    unfold compGo at h
    split at h
    · split at h
      · split at h
        · split at h
          · rename_i h1; cases h; exact Nat.succ_le_succ (compGo_len h1)
          · cases h
        · cases h
      · exact Nat.le_succ_of_le (compGo_len h)
      · cases h
    · cases h
def RTs (X : Cx) (ifs : List Expr) (f : Env → Option Bool) : Prop := PTs X ifs (tT (wX X) f)
theorem rts_nil {X : Cx} : RTs X [] cYes := ⟨fun pins s σ H Q I ⟨O, own, env, b, E, e, q⟩ => by cases e; exact pts_nil.run pins s σ H Q I (q H (Same.refl H))⟩
theorem rts_one {X : Cx} {c : Expr} {f : Env → Option Bool} (h : RT X c f) : RTs X [c] f := pts_one h
section
variable {X : Cx} {elt tg iter : Expr} {ifs : List Expr} {scope : Scope} {own : List (Str × Nat)} {pos spos : Pos} {it : Env → Option (List D)} {g : C → Env → Option Env} {c : Env → Option Bool} {f : Env → Option D}
theorem comp_core {w : W2} {σ : St} {H : Hp} {Q : VK} {vs : List Nat} (h : tEF w (eComp vs it g c f) σ H Q) : tLc (tI w it) (tG w vs g) (tT w c) (tE w f) vs σ H Q := by
  obtain ⟨O, own', env, rs, E, e, q⟩ := h
  unfold eComp at e
  split at e
  · rename_i ds h1
    split at e
    · rename_i hz
      have hz := short_line hz
      refine ⟨O, own', env, ds, E, h1, fun J H1 k1 wk Dd hD => ?_⟩
      have nD : ¬ O Dd := fresh_of (E.mono k1).there hD
      have hDH : H Dd = none := k1.free hD
      -- what stands at a turn
      refine ⟨fun i m H' => m = ds.length - i ∧ i ≤ ds.length ∧ Same w H1 H' ∧ ∃ acc as bs, H' Dd = some (.lst acc) ∧ RpA (hid (fun b => b = Dd ∨ O b) H') acc as ∧ compGo g c f (wipeE env vs) (ds.drop i) = some bs ∧ as ++ bs = rs ∧ as.length ≤ i,
        ⟨ds.length, by simp, Nat.zero_le _, Same.upd hD, [], [], rs, upd_same, .nil, by simpa using e, rfl, Nat.le_refl _⟩, ?_⟩
      rintro i m H' ⟨rfl, hi, k2, acc, as, bs, hacc, ra, hgo, hab, hla⟩
      have kO : Sub (hid O H1) (hid (fun b => b = Dd ∨ O b) H') := k2.sub.hid fun b o e n y => y.elim (ne_of_none e hD) n
      have E2 : EnvOk w (fun b => b = Dd ∨ O b) own' H' σ env := (E.mono k1).grow k2 (fun a z => .inr z) (fun a z => z.elim (fun y => .inr (y ▸ hD)) .inl) fun a z => z.elim (fun y => ⟨_, y ▸ hacc⟩) fun y => k2.live a ((E.mono k1).there a y)
      obtain ⟨w1, w2⟩ := wk i H' (fun b => b = Dd ∨ O b) kO E2.there
      cases hd : ds.drop i with
      | nil =>
        have hl : ds.length ≤ i := List.drop_eq_nil_iff.mp hd
        rw [hd] at hgo
        cases hgo
        rw [List.append_nil] at hab
        subst hab
        exact .inl ⟨w2 hl, q Dd acc H' (k1.trans k2) hDH hacc ra⟩
      | cons d r =>
        obtain ⟨g1, g2, g3⟩ := drop_get hd
        obtain ⟨go, yl⟩ := w1 d g1
        rw [hd] at hgo
        unfold compGo at hgo
        refine .inr ⟨go, fun H3 => Same w H1 H3 ∧ ∃ acc as bs, H3 Dd = some (.lst acc) ∧ RpA (hid (fun b => b = Dd ∨ O b) H3) acc as ∧ compGo g c f (wipeE env vs) r = some bs ∧ as ++ bs = rs ∧ as.length ≤ i + 1,
          fun H3 ⟨k3, acc, as, bs, x1, x2, x3, x4, x5⟩ => ⟨ds.length - (i + 1), by omega, rfl, g3, k3, acc, as, bs, x1, x2, by rw [g2]; exact x3, x4, x5⟩, fun x H3 y => ?_⟩
        obtain ⟨k3, rx⟩ := yl x H3 y
        have k3 := k3 w
        split at hgo
        · rename_i e1 h2
          refine ⟨_, own', wipeE env vs, .d d, e1, (E2.mono k3).wipe vs, .d rx, h2, fun σ3 E3 hw => ⟨by rw [hw, wipe_wipe], ?_⟩⟩
          split at hgo
          · rename_i h3
            split at hgo
            · rename_i xv h4
              split at hgo
              · rename_i xs h5
                cases hgo
                refine ⟨_, own', e1, true, E3, h3, fun H4 k4 => iteT ⟨_, own', e1, xv, E3.mono k4, h4, fun u H5 k5 ru => ?_⟩⟩
                have kk : Same w H' H5 := (k3.trans k4).trans k5
                have len : acc.length < sizeLine := by rw [ra.length]; omega
                refine ⟨acc, kk.ap hacc, len, (k2.trans kk).updF hD (Fr.lst (kk.ap hacc)), acc ++ [u], as ++ [xv], xs, upd_same, ?_, h5, by rw [List.append_assoc]; exact hab, by rw [List.length_append]; exact Nat.succ_le_succ hla⟩
                · rw [hid_upd (.inl rfl)]
                  exact (ra.mono (hid_mono kk)).append (.cons ru .nil)
              · cases hgo
            · cases hgo
          · rename_i h3
            refine ⟨_, own', e1, false, E3, h3, fun H4 k4 => iteF ⟨(k2.trans k3).trans k4, acc, as, bs, (k3.trans k4).ap hacc, ra.mono (hid_mono (k3.trans k4)), hgo, hab, Nat.le_succ_of_le hla⟩⟩
          · cases hgo
        · cases hgo
    · cases e
  · cases e
theorem r_lcF (hc : X.calm = true) (hN : X.N.Nodup) (hi : RI X tg iter it) (ok : BlkOk X.N X.env.scope scope own)
    (hg : ∀ (s : Shared) (H : Hp) (C : Addr) (cl : List (Str × Addr)) (fp : List Addr), RG (X.blk s H scope (compEnvC scope cl C X.env) fp) tg (own.map (·.2)) g)
    (ht : ∀ (s : Shared) (H : Hp) (C : Addr) (cl : List (Str × Addr)) (fp : List Addr), RTs (X.blk s H scope (compEnvC scope cl C X.env) fp) ifs c)
    (he : ∀ (s : Shared) (H : Hp) (C : Addr) (cl : List (Str × Addr)) (fp : List Addr), RE (X.blk s H scope (compEnvC scope cl C X.env) fp) elt f) (hs : ∀ x, foldedSetIterable iter X.env x = pure x := by intro _; rfl) :
    REF X (.ListComp elt [⟨tg, iter, ifs, 0⟩] scope pos) (eComp (own.map (·.2)) it g c f) :=
  peI (pe_lc (g := tG (wX X) (own.map fun (p : Str × Nat) => p.2) g) (tt := tT (wX X) c) (te := tE (wX X) f) hc hN hi ok hg ht he hs) fun σ H Q h => comp_core h
/-- name = [..] on one line, the name a local -/
theorem ps_lc {i : Nat} {y : Str} {py : Pos} (hc : X.calm = true) (hN : X.N.Nodup) (hy : X.N[i]? = some y) (hyl : X.env.scope.names.lookup y = some .local)
    (hsw : swapsWith (.ListComp elt [⟨tg, iter, ifs, 0⟩] scope pos) (some (.Name y py)) spos.line X.env = pure true) (hi : RI X tg iter it) (ok : BlkOk X.N X.env.scope scope own)
    (hg : ∀ (s : Shared) (H : Hp) (C : Addr) (cl : List (Str × Addr)) (fp : List Addr), RG (X.blk s H scope (compEnvC scope cl C X.env) fp) tg (own.map (·.2)) g)
    (ht : ∀ (s : Shared) (H : Hp) (C : Addr) (cl : List (Str × Addr)) (fp : List Addr), RTs (X.blk s H scope (compEnvC scope cl C X.env) fp) ifs c)
    (he : ∀ (s : Shared) (H : Hp) (C : Addr) (cl : List (Str × Addr)) (fp : List Addr), RE (X.blk s H scope (compEnvC scope cl C X.env) fp) elt f) (hs : ∀ x, foldedSetIterable iter X.env x = pure x := by intro _; rfl) :
    PS X (.Assign [.Name y py] (.ListComp elt [⟨tg, iter, ifs, 0⟩] scope pos) spos) (tAsg (tEF (wX X) (eComp (own.map (·.2)) it g c f)) (gName i)) :=
  psAsg (ps_setLc (g := tG (wX X) (own.map fun (p : Str × Nat) => p.2) g) (tt := tT (wX X) c) (te := tE (wX X) f) hc hN hy hyl hsw hi ok hg ht he hs) fun σ H Q h => comp_core h
theorem tEC_of_tEF {w : W2} {f : Env → Option (List D)} {σ : St} {H : Hp} {Q : VK} (h : tEC w (eToC (eLV f)) σ H Q) : tEF w f σ H Q := by
  obtain ⟨O, own, env, d, E, e, q⟩ := h
  unfold eToC eLV at e
  cases hf : f env with
  | none => rw [hf] at e; cases e
  | some ds =>
    rw [hf] at e
    cases e
    exact ⟨O, own, env, ds, E, hf, fun p xs H' k hp hq r => q _ H' k (.d (.lst (hid_some.mpr ⟨hq, fresh_of E.there hp⟩) (r.mono (hid_anti fun b z => .inr z))))⟩
theorem rs_setLc {st : Stmt} {i : Nat} {f : Env → Option (List D)} (h : PS X st (tAsg (tEF (wX X) f) (gName i))) : RS X st (sAsg (eToC (eLV f)) (gSet i)) :=
  rs_setI (psAsg h fun σ H Q q => tEC_of_tEF q)
end
end Ev

set_option Elab.async false
set_option linter.all false
set_option autoImplicit false
set_option maxRecDepth 100000
set_option maxHeartbeats 4000000
/-! Ev7: sorting -/
namespace Ev
open PySem PySem.Spec L2

/-! ### an insertion sort -/
section
variable {α : Type}
def ins (lt : α → α → Bool) (x : α) : List α → List α
  | [] => [x]
  | y :: r => match lt y x with
    | true => y :: ins lt x r
    | false => x :: y :: r
def isort (lt : α → α → Bool) : List α → List α
  | [] => []
  | x :: r => ins lt x (isort lt r)
theorem ins_perm (lt : α → α → Bool) (x : α) : ∀ l : List α, (ins lt x l).Perm (x :: l)
  | [] => List.Perm.refl _
  | y :: r => by
    unfold ins
    split
    · exact (List.Perm.cons y (ins_perm lt x r)).trans (List.Perm.swap x y r)
    · exact List.Perm.refl _
theorem isort_perm (lt : α → α → Bool) : ∀ l : List α, (isort lt l).Perm l
  | [] => List.Perm.refl _
  | x :: r => (ins_perm lt x _).trans (List.Perm.cons x (isort_perm lt r))
theorem ins_srtd {lt : α → α → Bool} (O : SrtO.Swo lt) (x : α) : ∀ {l : List α}, SrtO.Srtd lt l → SrtO.Srtd lt (ins lt x l)
  | [], _ => List.pairwise_singleton _ _
  | y :: r, h => by
    obtain ⟨h1, h2⟩ := List.pairwise_cons.mp h
    unfold ins
    split
    · rename_i hy
      refine List.pairwise_cons.mpr ⟨fun z hz => ?_, ins_srtd O x h2⟩
      rcases List.mem_cons.mp ((ins_perm lt x r).mem_iff.mp hz) with e | e
      · rw [e]; exact O.asym _ _ hy
      · exact h1 z e
    · rename_i hy
      refine List.pairwise_cons.mpr ⟨fun z hz => ?_, h⟩
      rcases List.mem_cons.mp hz with e | e
      · rw [e]; exact hy
      · exact O.tr _ _ _ hy (h1 z e)
theorem isort_srtd {lt : α → α → Bool} (O : SrtO.Swo lt) : ∀ l : List α, SrtO.Srtd lt (isort lt l)
  | [] => List.Pairwise.nil
  | x :: r => ins_srtd O x (isort_srtd O r)
theorem ins_cls {lt : α → α → Bool} (O : SrtO.Swo lt) (x z : α) : ∀ l : List α, (ins lt x l).filter (SrtO.eqv lt z) = (x :: l).filter (SrtO.eqv lt z)
  | [] => rfl
  | y :: r => by
    unfold ins
    split
    · rename_i hy
      have ih := ins_cls O x z r
      rw [List.filter_cons, ih]
      cases e1 : SrtO.eqv lt z y with
      | false => simp [List.filter_cons, e1]
      | true =>
        have e2 : SrtO.eqv lt z x = false := by
          cases e2 : SrtO.eqv lt z x with
          | false => rfl
          | true =>
            obtain ⟨a1, a2⟩ := SrtO.eqv_iff.mp e1
            obtain ⟨b1, b2⟩ := SrtO.eqv_iff.mp e2
            -- y ≤ z ≤ ... x ≤ z and z ≤ y: lt y x false
            have := O.tr x z y b1 a2
            rw [hy] at this; cases this
        simp [List.filter_cons, e1, e2]
    · rfl
theorem isort_stb {lt : α → α → Bool} (O : SrtO.Swo lt) : ∀ l : List α, SrtO.Stb lt (isort lt l) l
  | [] => SrtO.Stb.refl _
  | x :: r => ⟨isort_perm lt _, fun z => by
    rw [isort, ins_cls O x z, List.filter_cons, (isort_stb O r).cls z, ← List.filter_cons]⟩
theorem isort_uniq {lt : α → α → Bool} (O : SrtO.Swo lt) {l m : List α} (h1 : SrtO.Srtd lt m) (h2 : SrtO.Stb lt m l) : m = isort lt l :=
  SrtO.stb_uniq O h1 (isort_srtd O l) (h2.trans ⟨(isort_stb O l).perm.symm, fun x => ((isort_stb O l).cls x).symm⟩)
end
theorem ins_pair {α β : Type} {R : α → β → Prop} {lt : α → α → Bool} {lt' : β → β → Bool} (hlt : ∀ a b c d, R a b → R c d → lt a c = lt' b d) {x : α} {y : β} (hr : R x y) : ∀ {l : List α} {m : List β}, Paired R l m → Paired R (ins lt x l) (ins lt' y m)
  | _, _, .nil => .cons hr .nil
  | _, _, @Paired.cons _ _ _ a b l m h t => by
    unfold ins
    rw [hlt a b x y h hr]
    split
    · exact .cons h (ins_pair hlt hr t)
    · exact .cons hr (.cons h t)
theorem isort_pair {α β : Type} {R : α → β → Prop} {lt : α → α → Bool} {lt' : β → β → Bool} (hlt : ∀ a b c d, R a b → R c d → lt a c = lt' b d) : ∀ {l : List α} {m : List β}, Paired R l m → Paired R (isort lt l) (isort lt' m)
  | _, _, .nil => .nil
  | _, _, @Paired.cons _ _ _ a b l m h t => ins_pair hlt h (isort_pair hlt t)

/-! ### rows of ints, by their order -/
theorem lex_tot : ∀ a b : List Int, HT.lexLt a b = true → HT.lexLt b a = false
  | [], [], h => by cases h
  | [], _ :: _, _ => rfl
  | _ :: _, [], h => by cases h
  | x :: xs, y :: ys, h => by
    rw [HT.lexLt_cons] at h ⊢
    by_cases e : x = y
    · rw [if_pos e] at h; rw [if_pos e.symm]; exact lex_tot xs ys h
    · rw [if_neg e] at h; rw [if_neg fun z => e z.symm]
      have := of_decide_eq_true h
      exact decide_eq_false (by omega)
theorem lex_tr : ∀ a b c : List Int, HT.lexLt b a = false → HT.lexLt c b = false → HT.lexLt c a = false
  | [], _, [], _, _ => rfl
  | [], _, _ :: _, _, _ => rfl
  | _ :: _, [], _, h, _ => by cases h
  | _ :: _, _ :: _, [], _, h => by cases h
  | x :: xs, y :: ys, z :: zs, h1, h2 => by
    rw [HT.lexLt_cons] at h1 h2 ⊢
    by_cases e1 : y = x
    · rw [if_pos e1] at h1
      by_cases e2 : z = y
      · rw [if_pos e2] at h2; rw [if_pos (e2.trans e1)]; exact lex_tr xs ys zs h1 h2
      · rw [if_neg e2] at h2
        rw [if_neg (by omega)]
        have := of_decide_eq_false h2
        exact decide_eq_false (by omega)
    · rw [if_neg e1] at h1
      have := of_decide_eq_false h1
      by_cases e2 : z = y
      · rw [if_neg (by omega)]; exact decide_eq_false (by omega)
      · rw [if_neg e2] at h2
        have := of_decide_eq_false h2
        rw [if_neg (by omega)]; exact decide_eq_false (by omega)
theorem swo_lex {α : Type} (k : α → List Int) : SrtO.Swo fun v u => HT.lexLt (k v) (k u) := ⟨fun x y => lex_tot _ _, fun x y z => lex_tr _ _ _⟩
end Ev
namespace Ev
open PySem PySem.Spec PyProof.Rows
/-- v is a tuple of these ints -/
def TupI (h : Heap) (v : Value) (ns : List Int) : Prop := ∃ (a : Addr) (o : Obj) (its : List Value) (n : Nat), v = .ref a ∧ h.get? a = some o ∧ o.cls = .type "tuple" ∧ o.data = .seq its.toArray n ∧ IntsAre its ns
section
variable {prog : Program} {w : World} {A : Around} {E : Value → Shared → Prop} {s : Shared}
theorem kat_ints {b : Bool} {Q : Bool → Shared → Prop} : ∀ {us ws : List Value} {ns ms : List Int} (i : Nat), IntsAre us ns → IntsAre ws ms → Q (HT.lexLt ns ms) s → PySem.W.KatLex prog w A b (decide (ns.length < ms.length)) Q (us.zip ws) i s
  | [], [], _, _, i, h1, h2, q => by cases h1; cases h2; exact PySem.W.kat_nil q
  | [], _ :: _, _, _, i, h1, h2, q => by cases h1; cases h2; exact PySem.W.kat_nil (by simpa [HT.lexLt] using q)
  | _ :: _, [], _, _, i, h1, h2, q => by cases h1; cases h2; exact PySem.W.kat_nil (by simpa [HT.lexLt] using q)
  | _ :: us, _ :: ws, _, _, i, h1, h2, q => by
    cases h1 with
    | @cons x t _ ns h1 =>
      cases h2 with
      | @cons y u _ ms h2 =>
        rw [HT.lexLt_cons] at q
        have hl : decide ((x :: ns).length < (y :: ms).length) = decide (ns.length < ms.length) := decide_eq_decide.mpr (by simp)
        rw [hl]
        refine PySem.W.kat_cons (SeqAt.EqAt.int_int x t y u prog w _ _ ?_)
        refine PySem.W.kat_go (fun e1 => ?_) (fun e1 => ?_)
        · have ex : x = y := by simpa using e1
          rw [if_pos ex] at q
          exact PySem.W.kat_yes (kat_ints (i + 1) h1 h2 q)
        · have ex : ¬ x = y := by simpa using e1
          rw [if_neg ex] at q
          refine PySem.W.kat_no ?_
          cases hb : (b && i == 0) with
          | true => exact oneLt_int q
          | false => exact PySem.W.kat_one _ _ (PyProof.Rows.lt_int q)
theorem lex_cmp {vs : List Value} {k : Value → List Int} (hp : ∀ v ∈ vs, TupI s.heap v (k v)) : SrtO.Cmp prog w A s (tuples' true) (fun p => p.1 ∈ vs) (SrtO.lt2 fun v u => HT.lexLt (k v) (k u)) := by
  intro p q hm hm'
  show wpAny (model prog w) A (keyLt' (tuples' true) p.1 q.1) (fun r s' => s' = s ∧ r = HT.lexLt (k p.1) (k q.1)) (fun _ _ => False) s
  obtain ⟨a, o, its, n, e, ho, hc, hd, hi⟩ := hp _ hm
  obtain ⟨a', o', its', n', e', ho', hc', hd', hi'⟩ := hp _ hm'
  generalize k p.1 = ns at hi ⊢
  generalize k q.1 = ms at hi' ⊢
  rw [e, e']
  refine PySem.W.kat_lt ho hd ho' hd' ?_
  have hl : decide (its.toArray.size < its'.toArray.size) = decide (ns.length < ms.length) := by rw [List.size_toArray, List.size_toArray, hi.length, hi'.length]
  rw [hl]
  exact kat_ints 0 hi hi' ⟨rfl, rfl⟩
theorem firstsI {h : Heap} : ∀ {vs : List Value} {k : Value → List Int}, (∀ v ∈ vs, TupI h v (k v) ∧ k v ≠ []) → ∃ fs : List Value, PySem.W.KatTups h vs fs ∧ fs.length = vs.length ∧ ∀ f ∈ fs, ∃ x t, f = Value.int x t
  | [], _, _ => ⟨[], PySem.W.KatTups.nil, rfl, fun _ hm => by simp at hm⟩
  | v :: vs, k, hp => by
    obtain ⟨fs, h1, h2, h3⟩ := firstsI (vs := vs) fun v' hm => hp v' (List.mem_cons_of_mem _ hm)
    obtain ⟨⟨a, o, its, n, e, ho, hc, hd, hi⟩, ne⟩ := hp v List.mem_cons_self
    generalize k v = ns at hi ne
    subst e
    cases hi with
    | nil => exact absurd rfl ne
    | @cons x t its ns hi =>
      refine ⟨.int x t :: fs, PySem.W.KatTups.cons ho hc hd (by simp) h1, by rw [List.length_cons, List.length_cons, h2], fun f hm => ?_⟩
      rcases List.mem_cons.mp hm with e | e
      · exact ⟨x, t, e⟩
      · exact h3 f e
theorem lex_sortable {a : Addr} {vs : List Value} {k : Value → List Int} (h0 : 0 < vs.length) (hp : ∀ v ∈ vs, TupI s.heap v (k v) ∧ k v ≠ []) (ha : ∀ o, s.heap.get? a = some o → o.cls ≠ .type "tuple") : SrtO.SortableO prog w A s a vs fun v u => HT.lexLt (k v) (k u) := by
  intro h' keep
  have hp' : ∀ v ∈ vs, TupI h' v (k v) ∧ k v ≠ [] := fun v hm => by
    obtain ⟨⟨b, o, its, n, e, ho, hc, hd, hi⟩, ne⟩ := hp v hm
    exact ⟨⟨b, o, its, n, e, keep b o (fun z => by subst z; exact ha o ho hc) ho, hc, hd, hi⟩, ne⟩
  obtain ⟨fs, h1, h2, h3⟩ := firstsI hp'
  refine ⟨tuples' true, fun Q E hq => ?_, lex_cmp fun v hm => (hp' v hm).1⟩
  refine PySem.W.kat_kind (T := .type "int") h1 (by omega) (fun f hm => ?_) (by rfl) ?_
  · obtain ⟨x, t, rfl⟩ := h3 f hm
    exact PySem.W.Looks.now
  · have e : (Value.type "int" != Value.type "tuple") = true := by first | decide +kernel | rfl | decide
    rw [e]
    exact hq
theorem sorted_lex {l : Addr} {vs : List Value} {k : Value → List Int} {Q : Value → Shared → Prop} (hl : s.heap.IsList l vs.toArray) (hz : vs.length ≤ sizeLine) (hp : ∀ v ∈ vs, TupI s.heap v (k v) ∧ k v ≠ [])
    (h : ∀ (h' : Heap) (d : Addr), (∀ b o, s.heap.get? b = some o → h'.get? b = some o) → s.heap.objs.size ≤ d → (∃ n, h'.get? d = some (seqObj "list" (isort (fun v u => HT.lexLt (k v) (k u)) vs).toArray n)) → Q (.ref d) { s with heap := h' }) :
    wpAny (model prog w) A (call (.builtin "sorted") [.ref l]) Q E s := by
  refine SrtO.sorted_ord (swo_lex k) hl hz (fun h2 h₁ a ha kk => ?_) fun out hs hb => ?_
  · refine lex_sortable (s := { s with heap := h₁ }) (by omega) (fun v hm => ?_) fun o e => ?_
    · obtain ⟨⟨b, o, its, n, e, ho, hc, hd, hi⟩, ne⟩ := hp v hm
      exact ⟨⟨b, o, its, n, e, (kk b o ho).2, hc, hd, hi⟩, ne⟩
    · have e' : some o = some (seqObj "list" vs.toArray 0) := e.symm.trans ha
      cases e'
      intro c
      exact absurd (Value.type.inj c) (by decide)
  · have e := isort_uniq (swo_lex k) hs hb
    subst e
    exact h _ _ (fun b o e => sortedAll_old e) (Nat.le_succ _) (sortedAll_at s.heap vs _)
end
end Ev
namespace Ev
open PySem PySem.Spec L2
def lexI : List D → List D → Bool
  | [], [] => false
  | [], _ :: _ => true
  | _ :: _, [] => false
  | .int x :: xs, .int y :: ys => match ieq x y with
    | true => lexI xs ys
    | false => ilt x y
  | _ :: _, _ :: _ => false
def lexD : D → D → Bool
  | .tup xs, .tup ys => lexI xs ys
  | _, _ => false
theorem lexI_eq : ∀ {ds es : List D} {ns ms : List Int}, intsOf ds = some ns → intsOf es = some ms → lexI ds es = HT.lexLt ns ms
  | [], [], _, _, h1, h2 => by cases h1; cases h2; rfl
  | [], .int y :: ys, _, _, h1, h2 => by
    cases h1
    unfold intsOf at h2
    split at h2
    · cases h2; rfl
    · cases h2
  | .int x :: xs, [], _, _, h1, h2 => by
    cases h2
    unfold intsOf at h1
    split at h1
    · cases h1; rfl
    · cases h1
  | .int x :: xs, .int y :: ys, _, _, h1, h2 => by
    unfold intsOf at h1 h2
    split at h1
    · rename_i ns e1
      cases h1
      split at h2
      · rename_i ms e2
        cases h2
        rw [HT.lexLt_cons, lexI, ieq_eq, Bool.beq_eq_decide_eq, ilt_eq, ← lexI_eq e1 e2]
        by_cases e : x = y
        · rw [decide_eq_true e, if_pos e]
        · rw [decide_eq_false e, if_neg e]
      · cases h2
    · cases h1
  | .non :: _, _, _, _, h, _ => by cases h
  | .bl _ :: _, _, _, _, h, _ => by cases h
  | .tup _ :: _, _, _, _, h, _ => by cases h
  | .lst _ :: _, _, _, _, h, _ => by cases h
  | _, .non :: _, _, _, _, h => by cases h
  | _, .bl _ :: _, _, _, _, h => by cases h
  | _, .tup _ :: _, _, _, _, h => by cases h
  | _, .lst _ :: _, _, _, _, h => by cases h
/-- all are tuples of ints, not empty -/
def allTI : List D → Bool
  | [] => true
  | .tup (x :: xs) :: r => match intsOf (x :: xs) with
    | some _ => allTI r
    | none => false
  | _ :: _ => false
theorem allTI_mem : ∀ {ds : List D}, allTI ds = true → ∀ d ∈ ds, ∃ xs ns, d = .tup xs ∧ intsOf xs = some ns ∧ ns ≠ []
  | [], _, d, h => by cases h
  | .tup (x :: xs) :: r, h, d, hd => by
    unfold allTI at h
    split at h
    · rename_i ns hn
      rcases List.mem_cons.mp hd with e | e
      · refine ⟨_, ns, e, hn, fun z => ?_⟩
        subst z
        cases x <;> first | (cases hn; done) | skip
        unfold intsOf at hn
        split at hn <;> cases hn
      · exact allTI_mem h d e
    · cases h
  | .tup [] :: _, h, _, _ => by cases h
  | .non :: _, h, _, _ => by cases h
  | .bl _ :: _, h, _, _ => by cases h
  | .int _ :: _, h, _, _ => by cases h
  | .lst _ :: _, h, _, _ => by cases h
def gSortT : D → Option D
  | .lst xs => match allTI xs with
    | true => some (.lst (isort lexD xs))
    | false => none
  | _ => none
def ltId : D → D → Bool
  | .int x, .int y => ilt x y
  | _, _ => false
def gSortI : D → Option D
  | .lst xs => match intsOf xs with
    | some ns => match short ns 60 with
      | true => some (.lst (isort ltId xs))
      | false => none
    | none => none
  | _ => none
theorem RpA.paired {H : Hp} : ∀ {ds : List D} {vs : List V}, RpA H vs ds → Paired (Rp H) vs ds
  | [], _, h => by cases h; exact .nil
  | d :: ds, _, h => by cases h with | cons a b => exact .cons a (RpA.paired b)
theorem RpA.of_paired {H : Hp} : ∀ {ds : List D} {vs : List V}, Paired (Rp H) vs ds → RpA H vs ds
  | _, _, .nil => .nil
  | _, _, .cons a b => .cons a (RpA.of_paired b)
open Classical in
noncomputable def keyV (H : Hp) (v : V) : List Int := if h : ∃ (a : Addr) (ns : List Int), v = .ref a ∧ H a = some (.tup (ns.map V.int)) then Classical.choose (Classical.choose_spec h) else []
theorem map_int_inj : ∀ {ns ms : List Int}, ns.map V.int = ms.map V.int → ns = ms
  | [], [], _ => rfl
  | [], _ :: _, h => by cases h
  | _ :: _, [], h => by cases h
  | n :: ns, m :: ms, h => by
    simp only [List.map_cons, List.cons.injEq, V.int.injEq] at h
    rw [h.1, map_int_inj h.2]
theorem keyV_eq {H : Hp} {a : Addr} {ns : List Int} (h : H a = some (.tup (ns.map V.int))) : keyV H (.ref a) = ns := by
  have hx : ∃ (b : Addr) (ns : List Int), (V.ref a) = .ref b ∧ H b = some (.tup (ns.map V.int)) := ⟨a, ns, rfl, h⟩
  unfold keyV
  rw [dif_pos hx]
  obtain ⟨e1, e2⟩ := Classical.choose_spec (Classical.choose_spec hx)
  generalize Classical.choose (Classical.choose_spec hx) = z at e2 ⊢
  generalize Classical.choose hx = b at e1 e2
  cases e1
  rw [h] at e2
  exact (map_int_inj (HO.tup.inj (Option.some.inj e2))).symm
section
variable {X : Cx}
theorem b_sortT : Call1 X (.builtin "sorted") gSortT := by
  intro pins s σ H xs us Q I r h
  obtain ⟨O, x, d, r0, rfl, hd, hg, th, q⟩ := h
  unfold gSortT at hg
  split at hg
  · rename_i ds
    split at hg
    · rename_i hz
      cases hg
      cases hd with
      | @lst a vs _ h1 h2 =>
        obtain ⟨its, rv, hl, hzl⟩ := I.list (SqL.of (hid_ap h1))
        obtain ⟨u, rfl, ru⟩ := vals1 r
        obtain rfl : u = Value.ref a := ru
        have hm := allTI_mem hz
        have key : ∀ {v : V} {d : D}, Rp (hid O H) v d → d ∈ ds → ∃ b xs ns, v = .ref b ∧ d = .tup xs ∧ intsOf xs = some ns ∧ ns ≠ [] ∧ H b = some (.tup (ns.map V.int)) := fun {v d} rp hd => by
          obtain ⟨xs, ns, e, h3, h4⟩ := hm d hd
          subst e
          cases rp with
          | @tup b ys _ e1 r1 => exact ⟨b, xs, ns, rfl, rfl, h3, h4, by rw [← ints_of r1 h3]; exact hid_ap e1⟩
        have refs : ∀ x ∈ vs, ∃ a, x = V.ref a := fun x hx => by
          obtain ⟨i, hi⟩ := List.mem_iff_getElem?.mp hx
          obtain ⟨d, e1, rp⟩ := h2.getV hi
          obtain ⟨b, _, _, e, _⟩ := key rp (List.mem_of_getElem? e1)
          exact ⟨b, e⟩
        obtain ⟨e1, e2⟩ := refs_back rv refs
        refine sorted_lex (k := fun u => keyV H (backV u)) hl.isList (by rw [← rv.length]; exact hzl) (fun v hv => ?_) fun h' dd kp hdd hn => ?_
        · obtain ⟨t, rfl⟩ := e2 v hv
          have hm2 : V.ref t ∈ vs := by rw [e1]; exact List.mem_map.mpr ⟨_, hv, rfl⟩
          obtain ⟨i, hi⟩ := List.mem_iff_getElem?.mp hm2
          obtain ⟨d, e3, rp⟩ := h2.getV hi
          obtain ⟨b, _, ns, e, _, _, ne, hb⟩ := key rp (List.mem_of_getElem? e3)
          cases e
          have ek : keyV H (backV (.ref t)) = ns := keyV_eq hb
          refine ⟨?_, by rw [ek]; exact ne⟩
          rw [ek]
          obtain ⟨_, its2, r2, o, ho, hc, n, hd⟩ := I.hok _ _ hb
          exact ⟨t, o, its2, n, rfl, ho, hc, hd, r2.ints⟩
        · obtain ⟨n, hn⟩ := hn
          have h3 : ∀ u ∈ isort (fun v u => HT.lexLt (keyV H (backV v)) (keyV H (backV u))) its, ∃ a, u = Value.ref a := fun u hu => e2 u ((isort_perm _ _).mem_iff.mp hu)
          -- the sorted values and the sorted data
          have pr : Paired (fun v d => Rp (hid O H) v d ∧ d ∈ ds) vs ds := by
            have : ∀ {vs : List V} {es : List D}, RpA (hid O H) vs es → (∀ d ∈ es, d ∈ ds) → Paired (fun v d => Rp (hid O H) v d ∧ d ∈ ds) vs es := fun {vs es} r => by
              induction es generalizing vs with
              | nil => intro _; cases r; exact .nil
              | cons d es ih => intro hh; cases r with | cons a b => exact .cons ⟨a, hh d List.mem_cons_self⟩ (ih b fun x hx => hh x (List.mem_cons_of_mem _ hx))
            exact this h2 fun d hd => hd
          have ps := isort_pair (lt := fun v u => HT.lexLt (keyV H v) (keyV H u)) (lt' := lexD) (fun a b c d ⟨q1, m1⟩ ⟨q2, m2⟩ => by
            obtain ⟨b1, x1, n1, rfl, rfl, i1, _, k1⟩ := key q1 m1
            obtain ⟨b2, x2, n2, rfl, rfl, i2, _, k2⟩ := key q2 m2
            show HT.lexLt (keyV H (.ref b1)) (keyV H (.ref b2)) = lexI x1 x2
            rw [keyV_eq k1, keyV_eq k2, lexI_eq i1 i2]) pr
          have em : (isort (fun v u => HT.lexLt (keyV H (backV v)) (keyV H (backV u))) its).map backV = isort (fun v u => HT.lexLt (keyV H v) (keyV H u)) vs := by
            rw [e1]
            have gen : ∀ (l : List Value), (isort (fun v u => HT.lexLt (keyV H (backV v)) (keyV H (backV u))) l).map backV = isort (fun v u => HT.lexLt (keyV H v) (keyV H u)) (l.map backV) := by
              intro l
              induction l with
              | nil => rfl
              | cons y l ih =>
                rw [isort, List.map_cons, isort, ← ih]
                generalize isort (fun v u => HT.lexLt (keyV H (backV v)) (keyV H (backV u))) l = m
                induction m with
                | nil => rfl
                | cons z m ih2 =>
                  unfold ins
                  rw [List.map_cons]
                  dsimp only
                  split
                  · rename_i hh; rw [List.map_cons, ih2]
                  · rename_i hh; simp only [List.map_cons, hh]
            exact gen its
          have hlen : (isort (fun v u => HT.lexLt (keyV H v) (keyV H u)) vs).length ≤ sizeLine := by rw [(isort_perm _ _).length_eq]; exact hzl
          have Ild := I.laid (t' := s.toks) kp hdd (o := .lst (isort (fun v u => HT.lexLt (keyV H v) (keyV H u)) vs)) (by
            refine ⟨hlen, _, n, ?_, hn⟩
            rw [← em]
            exact vals_back h3)
          refine ⟨.ref dd, _, Ild, rfl, q _ _ (Same.upd (I.hok.fresh hdd)) (Rp.newL (I.hok.fresh hdd) (fresh_of th (I.hok.fresh hdd)) (RpA.of_paired (Paired.mapP ps fun a b z => z.1)))⟩
    · cases hg
  · cases hg
theorem swo_int {α : Type} (k : α → Int) : SrtO.Swo fun v u => decide (k v < k u) := by
  refine ⟨fun x y h => ?_, fun x y z h1 h2 => ?_⟩
  · have := of_decide_eq_true h; exact decide_eq_false (by omega)
  · have := of_decide_eq_false h1; have := of_decide_eq_false h2; exact decide_eq_false (by omega)
theorem isort_mapI : ∀ ns : List Int, isort ltId (ns.map D.int) = (isort (fun a b => decide (a < b)) ns).map D.int
  | [] => rfl
  | n :: ns => by
    rw [List.map_cons, isort, isort, isort_mapI ns]
    generalize isort (fun a b => decide (a < b)) ns = m
    induction m with
    | nil => rfl
    | cons y m ih =>
      rw [List.map_cons]
      unfold ins
      have e : ltId (D.int y) (D.int n) = decide (y < n) := by rw [ltId, ilt_eq]
      rw [e]
      cases decide (y < n) with
      | true => dsimp only; rw [ih]; rfl
      | false => rfl
theorem intsOf_map : ∀ {ds : List D} {ns : List Int}, intsOf ds = some ns → ds = ns.map D.int
  | [], _, h => by cases h; rfl
  | .int x :: xs, _, h => by
    unfold intsOf at h
    split at h
    · rename_i ns e; cases h; rw [intsOf_map e]; rfl
    · cases h
  | .non :: _, _, h => by cases h
  | .bl _ :: _, _, h => by cases h
  | .tup _ :: _, _, h => by cases h
  | .lst _ :: _, _, h => by cases h
theorem b_sortI : Call1 X (.builtin "sorted") gSortI := by
  intro pins s σ H xs us Q I r h
  obtain ⟨O, x, d, r0, rfl, hd, hg, th, q⟩ := h
  unfold gSortI at hg
  split at hg
  · rename_i ds
    split at hg
    · rename_i ns hn
      split at hg
      · rename_i hz
        cases hg
        cases hd with
        | @lst a vs _ h1 h2 =>
          have ev := ints_of h2 hn
          subst ev
          have := short_ok hz
          refine cr_sorted pins s σ H _ us Q I r ⟨a, ns, rfl, SqL.of (hid_ap h1), by omega, fun ns' p h3 h4 hp => ?_⟩
          have e : ns' = isort (fun a b => decide (a < b)) ns := by
            refine List.Perm.eq_of_pairwise (le := fun a b : Int => a ≤ b) (fun a b _ _ h1 h2 => Int.le_antisymm h1 h2) h4 ?_ (h3.trans (isort_perm _ _).symm)
            exact (isort_srtd (swo_int id) ns).imp fun {a b} h => by
              have := of_decide_eq_false (show decide (b < a) = false from h)
              omega
          rw [intsOf_map hn, isort_mapI, ← e] at q
          exact q _ _ (Same.upd hp) (Rp.newL hp (fresh_of th hp) (rpInts ns'))
      · cases hg
    · cases hg
  · cases hg
end
end Ev

set_option Elab.async false
set_option linter.all false
set_option autoImplicit false
set_option maxRecDepth 100000
set_option maxHeartbeats 4000000
/-! Ev8: defs, more built-ins, owned lists changed -/
namespace Ev
open PySem PySem.Spec L2

/-! ### a def by its body -/
def lenIs {α : Type} : List α → Nat → Bool
  | [], 0 => true
  | _ :: r, n + 1 => lenIs r n
  | _, _ => false
theorem lenIs_ok {α : Type} : ∀ {l : List α} {n : Nat}, lenIs l n = true → l.length = n
  | [], 0, _ => rfl
  | _ :: r, n + 1, h => congrArg (· + 1) (lenIs_ok (l := r) h)
  | [], n + 1, h => by cases h
  | _ :: _, 0, h => by cases h
def env0 : List C → Nat → Env
  | [], n => List.replicate n none
  | c :: r, n => some c :: env0 r n
theorem env0_eq : ∀ (cs : List C) (n : Nat), env0 cs n = cs.map some ++ List.replicate n none
  | [], n => rfl
  | c :: r, n => by rw [env0, env0_eq r n]; rfl
/-- n parameters, more other names -/
def fnM (n more : Nat) (tb : Env → Option Out) : List C → Option C := fun cs => match lenIs cs n with
  | true => match tb (env0 cs more) with
    | some (.rt c) => some c
    | some (.nx _) => some (.d .non)
    | none => none
  | false => none
theorem fnM_takes {n more : Nat} {tb : Env → Option Out} : Takes (fnM n more tb) n := fun cs r h => by
  unfold fnM at h
  split at h
  · rename_i h1; exact lenIs_ok h1
  · cases h
section
variable {P : Program} {w : World} {K : PySem.W.Frag} {mg : Str → Option Value} {base : Heap} {x qual : Str} {params : Arguments} {body : List Stmt} {scope : Scope} {f : Addr} {fd : FuncData} {N ps : List Str} {k n more : Nat} {tb : Env → Option Out}
theorem fn_okC (F : FunD K x qual params body scope [] [] f fd) (S : FnScope N ps scope) (hn : ps.length = n) (hm : N.length = n + more)
    (hb : ∀ (cdv : Value), PySem.W.codeIn K cdv qual = true → fd.code = cdv → ∀ (A : Around) (outer : List PySem.Env) (s : Shared) (H : Hp) (E : XK), Room k (A.deeper (PyProof.Rows.envOfC qual scope s.heap.objs.size f cdv)) → RSs (cxOf CX0 P w K mg base N qual scope f cdv A outer s H E).nox body tb) :
    FnOk P w K mg base CX0 (k + 1) f fd ps (spF ⟨w, IsP K mg base⟩ (fnM n more tb) n) := by
  obtain ⟨oc, od, dV, kV, doc, pm, an, cdv, ct, osl, rfl, lk, hcd, _, _⟩ := F.ex
  refine fn_of lk hcd S (fun vs H Q E h => h.1.trans hn.symm) fun A outer s H vs Q E hr h => ⟨_, (hb cdv hcd rfl A outer s H E hr).nox, ?_⟩
  obtain ⟨hl, O, cs, r, rv, e, th, tb0, q⟩ := h
  unfold fnM at e
  split at e
  · rename_i h1
    have hlc := rv.length
    have E0 : EnvOk ⟨w, IsP K mg base⟩ O (fun _ => none) H (L2.start N vs) (env0 cs more) := by
      rw [env0_eq]
      unfold L2.start
      refine ⟨by simp only [List.length_append, List.length_map, List.length_replicate]; omega, th, (fun i a z => nomatch z), (fun i j a z => nomatch z), fun i c z => .inl ?_, tb0⟩
      by_cases hi : i < cs.length
      · rw [List.getElem?_append_left (by simpa using hi), List.getElem?_map] at z
        have z' : cs[i]? = some c := by
          cases hc : cs[i]? with
          | none => rw [hc] at z; cases z
          | some c' => rw [hc] at z; cases z; rfl
        obtain ⟨v, e1, r1⟩ := rv.get z'
        refine ⟨v, ?_, r1⟩
        rw [List.getElem?_append_left (by simp only [List.length_map]; omega), List.getElem?_map, e1]
        rfl
      · rw [List.getElem?_append_right (by simpa using hi), List.getElem?_replicate] at z
        split at z <;> cases z
    have S0 : SOk ⟨w, IsP K mg base⟩ H O H (L2.start N vs) (env0 cs more) := ⟨⟨O, _, E0, fun a z => z, (fun i a z => nomatch z), fun a z => .inl z⟩, Sub.refl H⟩
    show tS ⟨w, IsP K mg base⟩ tb _ (L2.start N vs) H
    refine ⟨H, O, env0 cs more, ?_⟩
    split at e
    · rename_i c h2
      cases e
      exact ⟨_, S0, h2, fun env' σ' H' z => by (cases z), fun c' v H' z k t r => by cases z; exact q v H' ⟨k, fun _ => t⟩ r⟩
    · rename_i env' h2
      cases e
      exact ⟨_, S0, h2, fun env' σ' H' z S' => by cases z; obtain ⟨_, _, E', _⟩ := S'.ex; exact q .non H' ⟨S'.base, fun _ => E'.tab⟩ (.d .non), fun c' v H' z => by cases z⟩
    · cases e
  · cases e
theorem fn_ok (F : FunD K x qual params body scope [] [] f fd) (S : FnScope N ps scope) (hn : ps.length = n) (hm : N.length = n + more)
    (hb : ∀ (cdv : Value) (A : Around) (outer : List PySem.Env) (s : Shared) (H : Hp) (E : XK), Room k (A.deeper (PyProof.Rows.envOfC qual scope s.heap.objs.size f cdv)) → RSs (cxOf CX0 P w K mg base N qual scope f cdv A outer s H E).nox body tb) :
    FnOk P w K mg base CX0 (k + 1) f fd ps (spF ⟨w, IsP K mg base⟩ (fnM n more tb) n) := fn_okC F S hn hm fun cdv _ _ => hb cdv
end
/-- a def that calls itself, so deep -/
def itF (step : (List C → Option C) → List C → Option C) : Nat → List C → Option C
  | 0 => fun _ => none
  | n + 1 => step (itF step n)
theorem itF_zero (step : (List C → Option C) → List C → Option C) : itF step 0 = fun _ => none := rfl
theorem itF_succ (step : (List C → Option C) → List C → Option C) (n : Nat) : itF step (n + 1) = step (itF step n) := rfl
theorem fn_never {P : Program} {w : World} {K : PySem.W.Frag} {mg : Str → Option Value} {base : Heap} {k n : Nat} {f : Addr} {fd : FuncData} {ps : List Str} (hn : ps.length = n) : FnOk P w K mg base CX0 k f fd ps (spF ⟨w, IsP K mg base⟩ (fun _ => none) n) :=
  ⟨fun vs H Q E h => h.1.trans hn.symm, fun A outer s H args us vs Q E hr e0 hb r ⟨_, O, cs, r', rv, e, _⟩ => nomatch e⟩
theorem itF_takes {step : (List C → Option C) → List C → Option C} {m : Nat} (h : ∀ F, Takes (step F) m) : ∀ n, Takes (itF step n) m
  | 0 => fun cs r h => nomatch h
  | n + 1 => h _

/-! ### isinstance -/
def isTab (T : String) : D → Option Bool
  | .non => kitB "NoneType" T
  | .bl _ => kitB "bool" T
  | .int _ => kitB "int" T
  | .tup _ => kitB "tuple" T
  | .lst _ => kitB "list" T
def isTuple : D → Bool
  | .tup _ => true
  | _ => false
def isInt : D → Bool
  | .int _ => true
  | .bl _ => true
  | _ => false
def isBool : D → Bool
  | .bl _ => true
  | _ => false
theorem isTuple_ok : ∀ d : D, isTab "tuple" d = some (isTuple d)
  | .non => (by decide +kernel : kitB "NoneType" "tuple" = some false)
  | .bl _ => (by decide +kernel : kitB "bool" "tuple" = some false)
  | .int _ => (by decide +kernel : kitB "int" "tuple" = some false)
  | .tup _ => (by decide +kernel : kitB "tuple" "tuple" = some true)
  | .lst _ => (by decide +kernel : kitB "list" "tuple" = some false)
theorem isInt_ok : ∀ d : D, isTab "int" d = some (isInt d)
  | .non => (by decide +kernel : kitB "NoneType" "int" = some false)
  | .bl _ => (by decide +kernel : kitB "bool" "int" = some true)
  | .int _ => (by decide +kernel : kitB "int" "int" = some true)
  | .tup _ => (by decide +kernel : kitB "tuple" "int" = some false)
  | .lst _ => (by decide +kernel : kitB "list" "int" = some false)
theorem isBool_ok : ∀ d : D, isTab "bool" d = some (isBool d)
  | .non => (by decide +kernel : kitB "NoneType" "bool" = some false)
  | .bl _ => (by decide +kernel : kitB "bool" "bool" = some true)
  | .int _ => (by decide +kernel : kitB "int" "bool" = some false)
  | .tup _ => (by decide +kernel : kitB "tuple" "bool" = some false)
  | .lst _ => (by decide +kernel : kitB "list" "bool" = some false)
theorem Rp.ty {K : PySem.W.Frag} {H : Hp} {v : V} {d : D} {T : String} {b : Bool} (r : Rp H v d) (h : isTab T d = some b) : ∃ t, TyX K H v (.type t) ∧ PySem.W.kitOne K (.type t) (.type T) = some b := by
  cases r with
  | non => exact ⟨_, .base .non, kit_ty h⟩
  | bl b => exact ⟨_, .base (.bl b), kit_ty h⟩
  | int b => exact ⟨_, .base (.int b), kit_ty h⟩
  | tup e _ => exact ⟨_, .base (.tup e), kit_ty h⟩
  | lst e _ => exact ⟨_, .base (.lst e), kit_ty h⟩
def eIs (p : D → Bool) (f : Env → Option D) : Env → Option D := fun env => match f env with
  | some d => some (.bl (p d))
  | none => none
section
variable {X : Cx} {a b : Expr} {p p2 pos : Pos} {f g : Env → Option D}
theorem r_isi {T : String} {x : Str} {tab : D → Bool} (ht : ∀ d, isTab T d = some (tab d)) (hg : Gl X "isinstance") (hm : X.mg "isinstance" = none) (hg2 : Gl X x) (hm2 : X.mg x = none) (hv : bootBuiltins x = some (.type T)) (ha : RE X a f) (hn : x ≠ "__name__" := by decide) (hdb : (x == ("__debug__" : Str)) = false := by decide)
    (he : starEach [a, .Name x p2] X.env = (false, eval a X.env) :: starEach [.Name x p2] X.env := by rfl) (he2 : starEach [.Name x p2] X.env = (false, eval (.Name x p2) X.env) :: starEach [] X.env := by rfl) (hpl : (backTo pos (starEach [.Name x p2] X.env)).any (·.1) = false := by rfl) :
    RE X (.Call (.Name "isinstance" p) [a, .Name x p2] [] pos) (eIs tab f) := by
  refine peI (pe_callB call_isi hg hm (by decide +kernel) (pa_cons ha (pa_cons (pe_bltn (v := .ty T) hg2 hm2 hv rfl hn hdb) pa_nil he2) he) (by decide) (by decide) he hpl) fun σ H Q ⟨O, own, env, d, E, e, q⟩ => ?_
  unfold eIs at e
  split at e
  · rename_i d1 h1
    cases e
    refine ⟨O, own, env, d1, E, h1, fun v H1 k1 r1 => ?_⟩
    obtain ⟨t, t1, t2⟩ := (r1.mono hid_le).ty (K := X.K) (ht d1)
    exact ⟨v, .ty T, _, _, _, rfl, .ty T, t1, t2, q _ H1 k1 (.bl _)⟩
  · cases e
/-! ### tuple(range(n)) -/
def eTupRg (f : Env → Option D) : Env → Option D := fun env => match f env with
  | some (.int j) => match smallI j with
    | true => match Nat.ble (natOf j) 1000 with
      | true => some (.tup (rangeD 0 (natOf j)))
      | false => none
    | false => none
  | _ => none
theorem rp_range {H : Hp} : ∀ (n : Nat) (lo : Int), RpA H ((List.range n).map fun (i : Nat) => V.int (lo + (i : Nat))) (rangeD lo n)
  | 0, _ => .nil
  | n + 1, lo => by
    rw [List.range_succ_eq_map, List.map_cons, List.map_map]
    refine .cons (by simpa using Rp.int lo) ?_
    have := rp_range (H := H) n (iadd lo 1)
    rw [iadd_eq] at this
    have e : (List.range n).map ((fun (i : Nat) => V.int (lo + (i : Nat))) ∘ Nat.succ) = (List.range n).map fun (i : Nat) => V.int (lo + 1 + (i : Nat)) := List.map_congr_left fun i _ => by
      show V.int (lo + ((i + 1 : Nat) : Int)) = _
      congr 1
      push_cast
      omega
    rw [e, iadd_eq]
    exact this
theorem r_tupRg {p3 pos' : Pos} (hc : X.calm = true) (hg : Gl X "tuple") (hm : X.mg "tuple" = none) (hg2 : Gl X "range") (hm2 : X.mg "range" = none) (ha : RE X a f) (na : starEach [a] X.env = (false, eval a X.env) :: starEach [] X.env := by rfl)
    (na2 : starEach [.Call (.Name "range" p2) [a] [] pos'] X.env = (false, eval (.Call (.Name "range" p2) [a] [] pos') X.env) :: starEach [] X.env := by rfl) :
    RE X (.Call (.Name "tuple" p) [.Call (.Name "range" p2) [a] [] pos'] [] pos) (eTupRg f) := by
  refine peI (pe_tupRg hc hg hm (prg_1 hg2 hm2 ha na) na2) fun σ H Q ⟨O, own, env, d, E, e, q⟩ => ?_
  unfold eTupRg at e
  split at e
  · rename_i j h1
    split at e
    · rename_i h2
      split at e
      · rename_i h3
        cases e
        have b := smallI_ok h2
        have h3 := Nat.le_of_ble_eq_true h3
        rw [natOf_eq] at h3
        refine ⟨O, own, env, _, E, h1, fun v H1 k1 r1 => ?_⟩
        cases r1
        refine ⟨j, rfl, ⟨by omega, by omega, by omega, by omega, by omega⟩, fun t ht => q _ _ (k1.trans (Same.upd ht)) ?_⟩
        have := rp_range (H := hid O H1) (natOf j) 0
        rw [natOf_eq] at this ⊢
        have e : rgV 0 j = (List.range j.toNat).map fun (i : Nat) => V.int (0 + (i : Nat)) := by unfold rgV; rw [Int.sub_zero]
        rw [e]
        exact Rp.newT ht (fresh_of (E.mono k1).there ht) this
      · cases e
    · cases e
  · cases e
/-! ### max, min of two -/
theorem call2 {id : String} {x : Str} {h : Int → Int → Int} (hc : CallR X (.builtin id) (fun xs H Q => ∃ i j, xs = [.int i, .int j] ∧ Q (.int (h i j)) H)) (hg : Gl X x) (hm : X.mg x = none) (hv : bootBuiltins x = some (.builtin id)) (ha : RE X a f) (hb : RE X b g) (hn : x ≠ "__name__" := by decide) (hdb : (x == ("__debug__" : Str)) = false := by decide)
    (he : starEach [a, b] X.env = (false, eval a X.env) :: starEach [b] X.env := by rfl) (he2 : starEach [b] X.env = (false, eval b X.env) :: starEach [] X.env := by rfl) (hpl : (backTo pos (starEach [b] X.env)).any (·.1) = false := by rfl) :
    RE X (.Call (.Name x p) [a, b] [] pos) (e2 (oI fun i j => some (h i j)) f g) := by
  refine peI (pe_callB hc hg hm hv (pa_cons ha (pa_cons hb pa_nil he2) he) hn hdb he hpl) fun σ H Q ⟨O, own, env, d, E, e, q⟩ => ?_
  obtain ⟨d1, d2, h1, h2, h3⟩ := e2_some e
  unfold oI at h3
  split at h3
  · cases h3
    exact ⟨O, own, env, _, E, h1, fun v H1 k1 r1 => by cases r1; exact ⟨O, own, env, _, E.mono k1, h2, fun v2 H2 k2 r2 => by cases r2; exact ⟨_, _, rfl, q _ H2 (k1.trans k2) (.int _)⟩⟩⟩
  · cases h3
def maxII (i j : Int) : Int := match ilt i j with
  | true => j
  | false => i
def minII (i j : Int) : Int := match ilt j i with
  | true => j
  | false => i
theorem c_max2 (hc : X.calm = true) : CallR X (.builtin "max") (fun xs H Q => ∃ i j, xs = [.int i, .int j] ∧ Q (.int (maxII i j)) H) := fun pins s σ H xs us Q I r ⟨i, j, e, q⟩ => by
  refine call_max2 hc pins s σ H xs us Q I r ⟨i, j, e, ?_⟩
  unfold maxII at q
  rw [ilt_eq] at q
  by_cases h : i < j
  · rw [if_pos (show j > i from h)]; rw [decide_eq_true h] at q; exact q
  · rw [if_neg (show ¬ j > i from h)]; rw [decide_eq_false h] at q; exact q
theorem c_min2 (hc : X.calm = true) : CallR X (.builtin "min") (fun xs H Q => ∃ i j, xs = [.int i, .int j] ∧ Q (.int (minII i j)) H) := fun pins s σ H xs us Q I r ⟨i, j, e, q⟩ => by
  refine call_min2 hc pins s σ H xs us Q I r ⟨i, j, e, ?_⟩
  unfold minII at q
  rw [ilt_eq] at q
  by_cases h : j < i
  · rw [if_pos h]; rw [decide_eq_true h] at q; exact q
  · rw [if_neg h]; rw [decide_eq_false h] at q; exact q
/-! ### xs.count(i) -/
def cntI : List Int → Int → Nat → Nat
  | [], _, n => n
  | y :: r, x, n => match ieq y x with
    | true => cntI r x (n + 1)
    | false => cntI r x n
theorem cntI_eq : ∀ (l : List Int) (x : Int) (n : Nat), cntI l x n = l.count x + n
  | [], x, n => by simp [cntI]
  | y :: r, x, n => by
    rw [cntI, ieq_eq, List.count_cons]
    cases y == x with
    | true => simp only [if_true]; rw [cntI_eq r x (n + 1)]; omega
    | false => simp only [Bool.false_eq_true, if_false]; rw [cntI_eq r x n]; omega
def eCount (f g : Env → Option D) : Env → Option D := fun env => match f env with
  | some (.lst xs) => match g env with
    | some (.int i) => match intsOf xs with
      | some ns => some (.int (.ofNat (cntI ns i 0)))
      | none => none
    | _ => none
  | _ => none
theorem tyV_lst {K : PySem.W.Frag} {H : Hp} {a : Addr} {xs : List V} (h : H a = some (.lst xs)) : tyV K "list" (.ref a) H := Or.inl ⟨rfl, _, Or.inl (Or.inl h)⟩
theorem r_count {apos : Pos} (ha : RE X a f) (hb : RE X b g) (hbase : attributeBase a "count" X.env (eval a X.env) = eval a X.env := by rfl)
    (hfew : ((backTo pos (starEach [b] X.env)).all (fun x => !x.1) && (backToKw pos (keywordEach [] X.env)).all (fun x => x.1.isSome) && decide ([b].length + ([] : List Keyword).length + (if ([] : List Keyword).isEmpty then 0 else 1) < 30)) = true := by rfl)
    (hline : (apos.endLine == pos.line) = true := by rfl) (hs : starEach [b] X.env = (false, eval b X.env) :: starEach [] X.env := by rfl) : RE X (.Call (.Attribute a "count" apos) [b] [] pos) (eCount f g) := by
  refine peI (pe_bm PySem.F.plainAttrs_list PySem.F.slot_list_count PySem.F.type_list_count mt_lcount ha (pa_cons hb pa_nil hs) hbase hfew hline hs rfl) fun σ H Q ⟨O, own, env, d, E, e, q⟩ => ?_
  unfold eCount at e
  split at e
  · rename_i xs h1
    split at e
    · rename_i i h2
      split at e
      · rename_i ns h3
        cases e
        refine ⟨O, own, env, _, E, h1, fun v H1 k1 r1 => ?_⟩
        cases r1 with
        | lst l1 l2 =>
          cases ints_of l2 h3
          exact ⟨tyV_lst (hid_ap l1), O, own, env, _, E.mono k1, h2, fun v2 H2 k2 r2 => by cases r2; exact ⟨_, ns, i, rfl, rfl, SqL.of (k2.ap (hid_ap l1)), q _ H2 (k1.trans k2) (by rw [cntI_eq, Nat.add_zero]; exact .int _)⟩⟩
      · cases e
    · cases e
  · cases e
/-! ### t < u of tuples of ints -/
def gLtT (d e : D) : Option Bool := match d, e with
  | .tup xs, .tup ys => match intsOf xs with
    | some _ => match intsOf ys with
      | some _ => some (lexI xs ys)
      | none => none
    | none => none
  | _, _ => none
theorem c_ltT (hu : X.A.units + 64 < cLine) : CmpD X .Lt gLtT := by
  intro pins s σ H x y v u Q I rx ry h
  obtain ⟨d, e, r, hd, he, hg, q⟩ := h
  unfold gLtT at hg
  split at hg
  · split at hg
    · rename_i ns h1
      split at hg
      · rename_i ms h2
        cases hg
        cases hd with
        | tup e1 r1 => cases he with
          | tup e2 r2 =>
            cases ints_of r1 h1
            cases ints_of r2 h2
            rw [lexI_eq h1 h2] at q
            exact op_ltT (by omega) pins s σ H _ _ v u Q I rx ry ⟨_, _, ns, ms, rfl, rfl, SqT.of e1, SqT.of e2, q⟩
      · cases hg
    · cases hg
  · cases hg

/-! ### an owned list is changed -/
theorem EnvOk.chg {w : W2} {O : Addr → Prop} {own : Nat → Option Addr} {H : Hp} {σ : St} {env : Env} (E : EnvOk w O own H σ env) {i : Nat} {p : Addr} {xs : List V} {ds : List D} (hfr : Fr H p) (ho : own i = some p) (hs : σ[i]? = some (some (.ref p))) (r : RpA (hid O H) xs ds) :
    EnvOk w O own (upd H p (.lst xs)) σ (env.set i (some (.ol ds))) where
  tab := E.tab.upd hfr
  len := by rw [List.length_set]; exact E.len
  there := fun b hb => by
    by_cases q : b = p
    · subst q; exact ⟨_, upd_same⟩
    · rw [upd_ne q]; exact E.there b hb
  inO := E.inO
  inj := E.inj
  val := fun j c e => by
    rw [hid_upd (E.inO i p ho)]
    by_cases q : i = j
    · subst q
      by_cases hl : i < env.length
      · rw [List.getElem?_set_self hl] at e
        cases e
        exact .inr (.inl ⟨p, xs, ds, rfl, ho, hs, upd_same, r⟩)
      · rw [List.getElem?_eq_none (by rw [List.length_set]; omega)] at e; cases e
    · rw [List.getElem?_set_ne q] at e
      rcases E.val j c e with z | ⟨b, ys, es, e1, e2, e3, e4, r⟩ | ⟨b, ks, kvs, e1, e2, e3, e4, r⟩
      · exact .inl z
      · exact .inr (.inl ⟨b, ys, es, e1, e2, e3, by rw [upd_ne (fun (z : b = p) => q (E.inj i j p ho (by rw [← z]; exact e2)))]; exact e4, r⟩)
      · exact .inr (.inr ⟨b, ks, kvs, e1, e2, e3, e4.ne (fun (z : b = p) => q (E.inj i j p ho (by rw [← z]; exact e2))), r⟩)
theorem EnvOk.chgN {w : W2} {O : Addr → Prop} {own : Nat → Option Addr} {H : Hp} {σ : St} {env : Env} (E : EnvOk w O own H σ env) {i : Nat} {p : Addr} {ks : List (NestedKey × Addr × V)} {kvs : List (D × D)} (hfr : Fr H p) (ho : own i = some p) {ep : Nat} (hs : σ[i]? = some (some (.ref p))) (r : RpK (hid O H) ks kvs) :
    EnvOk w O own (upd H p (DN w.w p ks ep)) σ (env.set i (some (.on kvs))) where
  tab := E.tab.upd hfr
  len := by rw [List.length_set]; exact E.len
  there := fun b hb => by
    by_cases q : b = p
    · subst q; exact ⟨_, upd_same⟩
    · rw [upd_ne q]; exact E.there b hb
  inO := E.inO
  inj := E.inj
  val := fun j c e => by
    rw [hid_upd (E.inO i p ho)]
    by_cases q : i = j
    · subst q
      by_cases hl : i < env.length
      · rw [List.getElem?_set_self hl] at e
        cases e
        exact .inr (.inr ⟨p, ks, kvs, rfl, ho, hs, ⟨ep, upd_same⟩, r⟩)
      · rw [List.getElem?_eq_none (by rw [List.length_set]; omega)] at e; cases e
    · rw [List.getElem?_set_ne q] at e
      rcases E.val j c e with z | ⟨b, ys, es, e1, e2, e3, e4, r⟩ | ⟨b, ks, kvs, e1, e2, e3, e4, r⟩
      · exact .inl z
      · exact .inr (.inl ⟨b, ys, es, e1, e2, e3, by rw [upd_ne (fun (z : b = p) => q (E.inj i j p ho (by rw [← z]; exact e2)))]; exact e4, r⟩)
      · exact .inr (.inr ⟨b, ks, kvs, e1, e2, e3, e4.ne (fun (z : b = p) => q (E.inj i j p ho (by rw [← z]; exact e2))), r⟩)
/-- the owned list at a slot -/
theorem EnvOk.ownL {w : W2} {O : Addr → Prop} {own : Nat → Option Addr} {H : Hp} {σ : St} {env : Env} (E : EnvOk w O own H σ env) {i : Nat} {ds : List D} (h : look env i = some (.ol ds)) : ∃ p xs, own i = some p ∧ σ[i]? = some (some (.ref p)) ∧ H p = some (.lst xs) ∧ RpA (hid O H) xs ds := by
  rcases E.val i _ (look_some h) with ⟨v, e1, r⟩ | ⟨a, xs, ds', z, e2, e3, e4, r⟩ | ⟨_, _, _, z, _⟩
  · cases r
  · cases z; exact ⟨a, xs, e2, e3, e4, r⟩
  · cases z
theorem EnvOk.ownN {w : W2} {O : Addr → Prop} {own : Nat → Option Addr} {H : Hp} {σ : St} {env : Env} (E : EnvOk w O own H σ env) {i : Nat} {kvs : List (D × D)} (h : look env i = some (.on kvs)) : ∃ p ks, own i = some p ∧ σ[i]? = some (some (.ref p)) ∧ DAt w.w H p ks ∧ RpK (hid O H) ks kvs := by
  rcases E.val i _ (look_some h) with ⟨v, e1, r⟩ | ⟨_, _, _, z, _⟩ | ⟨a, xs, ds', z, e2, e3, e4, r⟩
  · cases r
  · cases z
  · cases z; exact ⟨a, xs, e2, e3, e4, r⟩
theorem same_own {w : W2} {H0 H : Hp} {B O : Addr → Prop} {own : Nat → Option Addr} {σ : St} {env : Env} {i : Nat} {p : Addr} {o : HO} (E : EnvOk w O own H σ env) (b2 : ∀ i a, own i = some a → ¬ B a) (b3 : ∀ a, O a → B a ∨ H0 a = none) (base : Sub H0 H) (ho : own i = some p) : Sub H0 (upd H p o) :=
  base.updN ((b3 p (E.inO i p ho)).resolve_left (b2 i p ho))
def setN : List D → Nat → D → Option (List D)
  | [], _, _ => none
  | _ :: r, 0, d => some (d :: r)
  | x :: r, n + 1, d => match setN r n d with
    | some l => some (x :: l)
    | none => none
theorem setN_eq : ∀ {l l' : List D} {n : Nat} {d : D}, setN l n d = some l' → n < l.length ∧ l' = l.set n d
  | [], _, _, _, h => by cases h
  | x :: r, _, 0, d, h => by cases h; exact ⟨Nat.succ_pos _, rfl⟩
  | x :: r, _, n + 1, d, h => by
    unfold setN at h
    split at h
    · rename_i l e
      cases h
      obtain ⟨h1, h2⟩ := setN_eq e
      exact ⟨Nat.succ_lt_succ h1, by rw [h2]; rfl⟩
    · cases h
/-- xs[k] = e, xs the owned list at slot i -/
def sSetItem (i : Nat) (fk f : Env → Option D) : Env → Option Out := fun env => match f env with
  | some d => match look env i with
    | some (.ol ds) => match fk env with
      | some (.int (.ofNat n)) => match setN ds n d with
        | some l => some (.nx (env.set i (some (.ol l))))
        | none => none
      | _ => none
    | _ => none
  | none => none
theorem rs_setItem {i : Nat} {x : Str} {e k : Expr} {pos' npos : Pos} (hx : PE X (.Name x npos) (tVar i)) (hk : RE X k g) (he : RE X e f) (hs : swapsWithSole [.Subscript (.Name x npos) k pos'] e pos.line X.env = pure false := by rfl) (hw : swappedStores [.Subscript (.Name x npos) k pos'] e X.env = pure none := by rfl)
    (h1 : (assignEach [.Subscript (.Name x npos) k pos'] X.env).map (·.2) = [assign (.Subscript (.Name x npos) k pos') X.env] := by rfl)
    (ha : ∀ v, assign (.Subscript (.Name x npos) k pos') X.env v = (do
      let ov ← holding [v] (eval (.Name x npos) X.env)
      let iv ← holding [v, ov] (eval k X.env)
      standAt pos'
      holding [v, ov, iv] (setItem ov iv v)
      release [v, ov, iv] []) := by intro _; rfl) : RS X (.Assign [.Subscript (.Name x npos) k pos'] e pos) (sSetItem i g f) := by
  refine psI (ps_asg he (pg_sub hx hk set_list ha) hs hw h1) fun D σ H ⟨H0, B, env, out, ⟨⟨O, own, E, b1, b2, b3⟩, base⟩, e, q, qr⟩ => ?_
  unfold sSetItem at e
  split at e
  · rename_i d h2
    split at e
    · rename_i ds h3
      split at e
      · rename_i n h4
        split at e
        · rename_i l h5
          cases e
          obtain ⟨hl, rfl⟩ := setN_eq h5
          obtain ⟨p, xs, o1, o2, o3, o4⟩ := E.ownL h3
          refine ⟨O, own, env, d, E, h2, fun v H1 k1 r1 => ⟨.ref p, o2, O, own, env, _, E.mono k1, h4, fun kv H2 k2 r2 => ?_⟩⟩
          cases r2
          have k12 := k1.trans k2
          refine ⟨p, xs, _, n, rfl, rfl, k12.ap o3, ?_, q _ _ _ rfl ⟨⟨O, own, (E.mono k12).chg (Fr.lst (k12.ap o3)) o1 o2 ((o4.mono (hid_mono k12)).set (r1.mono (hid_mono k2)) n), b1, b2, b3⟩, same_own (E.mono k12) b2 b3 (base.trans k12.sub) o1⟩⟩
          have : xs.length = ds.length := o4.length
          unfold ixN
          have h0 : (0 : Int) ≤ Int.ofNat n := Int.natCast_nonneg n
          have h1 : Int.ofNat n < (xs.length : Int) := by show (n : Int) < _; omega
          rw [if_pos h0, if_pos h1]
          rfl
        · cases e
      · cases e
    · cases e
  · cases e
/-- xs.append(e) -/
def sAppend (i : Nat) (f : Env → Option D) : Env → Option Out := fun env => match look env i with
  | some (.ol ds) => match f env with
    | some d => match short ds 900 with
      | true => some (.nx (env.set i (some (.ol (ds ++ [d])))))
      | false => none
    | none => none
  | _ => none
theorem rs_append {i : Nat} {x : Str} {e : Expr} {apos npos cpos : Pos} (hx : PE X (.Name x npos) (tVar i)) (he : RE X e f) (hs : swapsWith (.Call (.Attribute (.Name x npos) "append" apos) [e] [] cpos) none pos.line X.env = pure false := by rfl) (hbase : attributeBase (.Name x npos) "append" X.env (eval (.Name x npos) X.env) = eval (.Name x npos) X.env := by rfl)
    (hfew : ((backTo cpos (starEach [e] X.env)).all (fun x => !x.1) && (backToKw cpos (keywordEach [] X.env)).all (fun x => x.1.isSome) && decide ([e].length + ([] : List Keyword).length + (if ([] : List Keyword).isEmpty then 0 else 1) < 30)) = true := by rfl)
    (hline : (apos.endLine == cpos.line) = true := by rfl) (hst : starEach [e] X.env = (false, eval e X.env) :: starEach [] X.env := by rfl) : RS X (.Expr (.Call (.Attribute (.Name x npos) "append" apos) [e] [] cpos) pos) (sAppend i f) := by
  refine psI (ps_expr (pe_bm PySem.F.plainAttrs_list PySem.F.slot_list_append PySem.F.type_list_append mt_append hx (pa_cons he pa_nil hst) hbase hfew hline hst rfl) hs) fun D σ H ⟨H0, B, env, out, ⟨⟨O, own, E, b1, b2, b3⟩, base⟩, e, q, qr⟩ => ?_
  unfold sAppend at e
  split at e
  · rename_i ds h3
    split at e
    · rename_i d h2
      split at e
      · rename_i hz
        cases e
        obtain ⟨p, xs, o1, o2, o3, o4⟩ := E.ownL h3
        have hl := short_ok hz
        have sl := sizeLine_eq
        refine ⟨.ref p, o2, tyV_lst o3, O, own, env, d, E, h2, fun v H1 k1 r1 => ?_⟩
        have o4' := o4.mono (hid_mono (O := O) k1)
        exact ⟨p, xs, v, rfl, rfl, k1.ap o3, by rw [o4.length]; omega, q _ _ _ rfl ⟨⟨O, own, (E.mono k1).chg (Fr.lst (k1.ap o3)) o1 o2 (o4'.append (.cons r1 .nil)), b1, b2, b3⟩, same_own (E.mono k1) b2 b3 (base.trans k1.sub) o1⟩⟩
      · cases e
    · cases e
  · cases e
/-- target = xs.pop() -/
def popD : List D → Option (List D × D)
  | [] => none
  | x :: r => match popD r with
    | some (l, y) => some (x :: l, y)
    | none => some ([], x)
theorem popD_eq : ∀ {l l' : List D} {y : D}, popD l = some (l', y) → l = l' ++ [y]
  | [], _, _, h => by cases h
  | x :: r, _, _, h => by
    unfold popD at h
    split at h
    · rename_i l z e
      cases h
      rw [popD_eq e]
      rfl
    · rename_i e
      cases h
      cases r with
      | nil => rfl
      | cons z r =>
        unfold popD at e
        split at e <;> cases e
def sPop (i : Nat) (g : C → Env → Option Env) : Env → Option Out := fun env => match look env i with
  | some (.ol ds) => match popD ds with
    | some (l, d) => match g (.d d) (env.set i (some (.ol l))) with
      | some env' => some (.nx env')
      | none => none
    | none => none
  | _ => none
theorem rs_pop {i : Nat} {x : Str} {tg : Expr} {sl : List Nat} {gt : C → Env → Option Env} {apos npos cpos : Pos} (hx : PE X (.Name x npos) (tVar i)) (hg : RG X tg sl gt)
    (hs : swapsWithSole [tg] (.Call (.Attribute (.Name x npos) "pop" apos) [] [] cpos) pos.line X.env = pure false := by rfl) (hw : swappedStores [tg] (.Call (.Attribute (.Name x npos) "pop" apos) [] [] cpos) X.env = pure none := by rfl)
    (h1 : (assignEach [tg] X.env).map (·.2) = [assign tg X.env] := by rfl) (hbase : attributeBase (.Name x npos) "pop" X.env (eval (.Name x npos) X.env) = eval (.Name x npos) X.env := by rfl) (hline : (apos.endLine == cpos.line) = true := by rfl) :
    RS X (.Assign [tg] (.Call (.Attribute (.Name x npos) "pop" apos) [] [] cpos) pos) (sPop i gt) := by
  refine psI (ps_asg (pe_bm0 PySem.F.plainAttrs_list PySem.F.slot_list_pop PySem.F.type_list_pop mt_pop hx hbase hline) hg hs hw h1) fun D σ H ⟨H0, B, env, out, ⟨⟨O, own, E, b1, b2, b3⟩, base⟩, e, q, qr⟩ => ?_
  unfold sPop at e
  split at e
  · rename_i ds h3
    split at e
    · rename_i l d h4
      split at e
      · rename_i env' h5
        cases e
        obtain ⟨p, xs, o1, o2, o3, o4⟩ := E.ownL h3
        have el := popD_eq h4
        subst el
        obtain ⟨ys, y, rfl, ry⟩ : ∃ ys y, xs = ys ++ [y] ∧ True := by
          have hl := o4.length
          cases hr : xs.reverse with
          | nil =>
            have : xs = [] := by simpa using hr
            subst this
            simp at hl
          | cons y r =>
            exact ⟨r.reverse, y, by have := congrArg List.reverse hr; simpa using this, trivial⟩
        have rr := o4.reverse
        rw [List.reverse_append, List.reverse_append] at rr
        cases rr with
        | cons ra rb =>
          have rb' : RpA (hid O H) ys l := by simpa using rb.reverse
          refine ⟨.ref p, o2, tyV_lst o3, p, ys ++ [y], y, rfl, rfl, o3, by simp, ?_⟩
          rw [List.dropLast_concat]
          refine ⟨O, own, _, .d d, env', E.chg (Fr.lst o3) o1 o2 rb', .d (by rw [hid_upd (E.inO i p o1)]; exact ra), h5, fun σ' E' _ => q _ _ _ rfl ⟨⟨O, own, E', b1, b2, b3⟩, same_own E b2 b3 base o1⟩⟩
      · cases e
    · cases e
  · cases e
end
end Ev

set_option Elab.async false
set_option linter.all false
set_option autoImplicit false
set_option maxRecDepth 100000
set_option maxHeartbeats 4000000
/-! Ev9: dicts whose keys are data -/
namespace Ev
open PySem PySem.Spec L2

/-! ### keys -/
mutual
def kOk : D → Nat → Bool
  | .non, _ => true
  | .bl _, _ => false
  | .int _, _ => true
  | .tup xs, n => match n with
    | 0 => false
    | m + 1 => kOks xs m
  | .lst _, _ => false
def kOks : List D → Nat → Bool
  | [], _ => true
  | x :: xs, n => match kOk x n with
    | true => kOks xs n
    | false => false
end
mutual
theorem kOk_ok : ∀ (d : D) (n : Nat), kOk d n = true → ∃ k, keyOf d = some k ∧ k.depth ≤ n
  | .non, n, _ => ⟨.none, by simp [keyOf], by simp [NestedKey.depth]⟩
  | .bl _, n, h => by simp [kOk] at h
  | .int i, n, _ => ⟨.num i, by simp [keyOf], by simp [NestedKey.depth]⟩
  | .tup xs, 0, h => by simp [kOk] at h
  | .tup xs, n + 1, h => by
    obtain ⟨ks, h1, h2⟩ := kOks_ok xs n (by simpa [kOk] using h)
    exact ⟨.tup ks, by simp [keyOf, h1], by simp only [NestedKey.depth]; omega⟩
  | .lst _, n, h => by simp [kOk] at h
theorem kOks_ok : ∀ (d : List D) (n : Nat), kOks d n = true → ∃ ks, keysOf d = some ks ∧ NestedKey.depthAll ks ≤ n
  | [], n, _ => ⟨[], by simp [keysOf], by simp [NestedKey.depthAll]⟩
  | x :: xs, n, h => by
    have h1 : kOk x n = true ∧ kOks xs n = true := by
      cases q : kOk x n
      · rw [kOks, q] at h; cases h
      · rw [kOks, q] at h; exact ⟨rfl, h⟩
    obtain ⟨k, e1, e2⟩ := kOk_ok x n h1.1
    obtain ⟨ks, e3, e4⟩ := kOks_ok xs n h1.2
    exact ⟨k :: ks, by simp [keysOf, e1, e3], by simp only [NestedKey.depthAll]; omega⟩
end
mutual
theorem deq_key : ∀ (d e : D) (k l : NestedKey), keyOf d = some k → keyOf e = some l → deq d e = NestedKey.beq k l
  | .non, e, k, l, h1, h2 => by
    simp [keyOf] at h1; subst h1
    cases e with
    | non => simp [keyOf] at h2; subst h2; simp [deq, NestedKey.beq]
    | bl b => simp [keyOf] at h2
    | int i => simp [keyOf] at h2; subst h2; simp [deq, NestedKey.beq]
    | tup xs =>
      simp only [keyOf] at h2
      split at h2
      · cases h2; simp [deq, NestedKey.beq]
      · cases h2
    | lst xs => simp [keyOf] at h2
  | .bl _, e, k, l, h1, h2 => by simp [keyOf] at h1
  | .int i, e, k, l, h1, h2 => by
    simp [keyOf] at h1; subst h1
    cases e with
    | non => simp [keyOf] at h2; subst h2; simp [deq, NestedKey.beq]
    | bl b => simp [keyOf] at h2
    | int j => simp [keyOf] at h2; subst h2; simp [deq, NestedKey.beq, ieq_eq, Bool.beq_eq_decide_eq]
    | tup xs =>
      simp only [keyOf] at h2
      split at h2
      · cases h2; simp [deq, NestedKey.beq]
      · cases h2
    | lst xs => simp [keyOf] at h2
  | .tup xs, e, k, l, h1, h2 => by
    simp only [keyOf] at h1
    split at h1
    · rename_i ks hk
      cases h1
      cases e with
      | non => simp [keyOf] at h2; subst h2; simp [deq, NestedKey.beq]
      | bl b => simp [keyOf] at h2
      | int j => simp [keyOf] at h2; subst h2; simp [deq, NestedKey.beq]
      | tup ys =>
        simp only [keyOf] at h2
        split at h2
        · rename_i ls hl
          cases h2
          simp only [deq, NestedKey.beq]
          exact deqs_key xs ys ks ls hk hl
        · cases h2
      | lst ys => simp [keyOf] at h2
    · cases h1
  | .lst _, e, k, l, h1, h2 => by simp [keyOf] at h1
theorem deqs_key : ∀ (d e : List D) (k l : List NestedKey), keysOf d = some k → keysOf e = some l → deqs d e = NestedKey.beqAll k l
  | [], e, k, l, h1, h2 => by
    simp [keysOf] at h1; subst h1
    cases e with
    | nil => simp [keysOf] at h2; subst h2; simp [deqs, NestedKey.beqAll]
    | cons y ys =>
      simp only [keysOf] at h2
      split at h2
      · split at h2
        · cases h2; simp [deqs, NestedKey.beqAll]
        · cases h2
      · cases h2
  | x :: xs, e, k, l, h1, h2 => by
    simp only [keysOf] at h1
    split at h1
    · rename_i k1 hk1
      split at h1
      · rename_i ks hks
        cases h1
        cases e with
        | nil => simp [keysOf] at h2; subst h2; simp [deqs, NestedKey.beqAll]
        | cons y ys =>
          simp only [keysOf] at h2
          split at h2
          · rename_i l1 hl1
            split at h2
            · rename_i ls hls
              cases h2
              simp only [deqs, NestedKey.beqAll]
              rw [← deq_key x y k1 l1 hk1 hl1, ← deqs_key xs ys ks ls hks hls]
              cases deq x y <;> rfl
            · cases h2
          · cases h2
      · cases h1
    · cases h1
end
section
variable {P : Program} {w : World} {H : Hp} {h : Heap}
mutual
theorem Rp.nested (ok : HOk P w H h) : ∀ (d : D) (v : V) (u : Value) (k : NestedKey), Rp H v d → keyOf d = some k → RelV v u → NestedIs h k u
  | .non, v, u, k, r, e, rv => by
    simp [keyOf] at e; subst e; cases r
    obtain rfl : u = Value.none := rv
    exact .none
  | .bl _, v, u, k, r, e, rv => by simp [keyOf] at e
  | .int i, v, u, k, r, e, rv => by
    simp [keyOf] at e; subst e; cases r
    obtain ⟨t, rfl⟩ := (show ∃ t, u = Value.int i t from rv)
    exact .int _ _
  | .tup xs, v, u, k, r, e, rv => by
    simp only [keyOf] at e
    split at e
    · rename_i ks hk
      cases e
      cases r with
      | @tup a vs _ ea ra =>
        obtain rfl : u = Value.ref a := rv
        obtain ⟨_, its, rv2, ob, e1, e2, _, e3⟩ := ok a _ ea
        exact .tup e1 e2 e3 (by rw [List.toList_toArray]; exact RpA.nested ok xs vs its ks ra hk rv2)
    · cases e
  | .lst _, v, u, k, r, e, rv => by simp [keyOf] at e
theorem RpA.nested (ok : HOk P w H h) : ∀ (d : List D) (vs : List V) (us : List Value) (k : List NestedKey), RpA H vs d → keysOf d = some k → Vals vs us → NestedAll h k us
  | [], vs, us, k, r, e, rv => by
    simp [keysOf] at e; subst e; cases r; cases rv; exact .nil
  | x :: xs, vs, us, k, r, e, rv => by
    simp only [keysOf] at e
    split at e
    · rename_i k1 hk1
      split at e
      · rename_i ks hks
        cases e
        cases r with
        | cons ra rb =>
          cases rv with
          | cons va vb => exact .cons (Rp.nested ok x _ _ _ ra hk1 va) (RpA.nested ok xs _ _ _ rb hks vb)
      · cases e
    · cases e
end
end

/-! ### looking up, storing -/
def dlook : List (D × D) → D → Option D
  | [], _ => none
  | (k, v) :: r, d => match deq k d with
    | true => some v
    | false => dlook r d
def dmap : List (D × D) → D → D → List (D × D)
  | [], _, _ => []
  | (k, v) :: r, d, e => match deq k d with
    | true => (k, e) :: dmap r d e
    | false => (k, v) :: dmap r d e
def dput (kvs : List (D × D)) (d e : D) : List (D × D) := match dlook kvs d with
  | some _ => dmap kvs d e
  | none => kvs ++ [(d, e)]
def kTup (d : D) : Bool := match d with
  | .tup _ => kOk d 8
  | _ => false
/-- the rows by their keys: values -/
theorem kTup_ok {d : D} (h : kTup d = true) : ∃ k, keyOf d = some k ∧ k.depth ≤ 8 ∧ ∃ xs, d = .tup xs := by
  unfold kTup at h
  split at h
  · obtain ⟨k, h1, h2⟩ := kOk_ok _ _ h
    exact ⟨k, h1, h2, _, rfl⟩
  · cases h
abbrev KV3 (ks : List (NestedKey × Addr × V)) (xs : List (NestedKey × Addr × Value)) : Prop := Paired (fun (p : NestedKey × Addr × V) (q : NestedKey × Addr × Value) => p.1 = q.1 ∧ p.2.1 = q.2.1 ∧ RelV p.2.2 q.2.2) ks xs
def kput (ks : List (NestedKey × Addr × V)) (k : NestedKey) (b : Addr) (v : V) : List (NestedKey × Addr × V) :=
  if (ks.any fun p => decide (p.1 = k)) = true then ks.map (fun p => if p.1 = k then (p.1, p.2.1, v) else p) else ks ++ [(k, b, v)]
theorem KV3.length {ks : List (NestedKey × Addr × V)} {xs : List (NestedKey × Addr × Value)} (h : KV3 ks xs) : ks.length = xs.length := by
  induction h with
  | nil => rfl
  | cons _ _ ih => exact congrArg (· + 1) ih
theorem KV3.any {ks : List (NestedKey × Addr × V)} {xs : List (NestedKey × Addr × Value)} (h : KV3 ks xs) (k : NestedKey) : (ks.any fun p => decide (p.1 = k)) = (atKey xs k).isSome := by
  induction h with
  | nil => rfl
  | @cons p q _ _ r _ ih =>
    have e : p.1 = q.1 := r.1
    by_cases z : q.1 = k
    · simp [atKey, e, z]
    · simpa [atKey, e, z] using ih
theorem KV3.put {ks : List (NestedKey × Addr × V)} {xs : List (NestedKey × Addr × Value)} (h : KV3 ks xs) {k : NestedKey} {b : Addr} {v : V} {u : Value} (r : RelV v u) : KV3 (kput ks k b v) (storedH xs k b u) := by
  unfold kput storedH
  rw [h.any k]
  generalize (atKey xs k).isSome = bb
  cases bb with
  | true =>
    rw [if_pos rfl, if_pos rfl]
    induction h with
    | nil => exact .nil
    | @cons p q _ _ r1 _ ih =>
      rw [List.map_cons, List.map_cons]
      refine .cons ?_ ih
      unfold putAt
      rw [← r1.1]
      by_cases z : p.1 = k
      · rw [if_pos z, if_pos z]; exact ⟨rfl, r1.2.1, r⟩
      · rw [if_neg z, if_neg z]; exact r1
  | false =>
    rw [if_neg Bool.false_ne_true, if_neg Bool.false_ne_true]
    induction h with
    | nil => exact .cons ⟨rfl, rfl, r⟩ .nil
    | cons r1 _ ih => exact .cons r1 ih
theorem RpK.any {H : Hp} {ks : List (NestedKey × Addr × V)} {kvs : List (D × D)} (h : RpK H ks kvs) {d : D} {k : NestedKey} (e : keyOf d = some k) : (ks.any fun p => decide (p.1 = k)) = (dlook kvs d).isSome := by
  induction h with
  | nil => rfl
  | @cons k1 b v ks d1 e1 kvs h1 h2 h3 h4 _ ih =>
    have z := deq_key d1 d k1 k h1 e
    rw [← NestedKey.decide_eq] at z
    rw [List.any_cons, dlook, z]
    cases q : decide (k1 = k) with
    | true => rfl
    | false => rw [Bool.false_or]; exact ih
theorem RpK.append {H : Hp} {ks ks' : List (NestedKey × Addr × V)} {kvs kvs' : List (D × D)} (h : RpK H ks kvs) (h' : RpK H ks' kvs') : RpK H (ks ++ ks') (kvs ++ kvs') := by
  induction h with
  | nil => exact h'
  | cons h1 h2 h3 h4 _ ih => exact .cons h1 h2 h3 h4 ih
theorem RpK.put {H : Hp} {ks : List (NestedKey × Addr × V)} {kvs : List (D × D)} (h : RpK H ks kvs) {d e : D} {k : NestedKey} {b : Addr} {v : V} (ek : keyOf d = some k) (dp : k.depth ≤ 8) (rb : Rp H (.ref b) d) (rv : Rp H v e) : RpK H (kput ks k b v) (dput kvs d e) := by
  unfold kput dput
  rw [h.any ek]
  cases hd : dlook kvs d with
  | some x =>
    rw [if_pos (show (some x).isSome = true from rfl)]
    show RpK H _ (dmap kvs d e)
    clear hd
    induction h with
    | nil => exact .nil
    | @cons k1 b1 v1 ks d1 e1 kvs h1 h2 h3 h4 _ ih =>
      have z := deq_key d1 d k1 k h1 ek
      rw [← NestedKey.decide_eq] at z
      rw [List.map_cons, dmap, z]
      by_cases q : k1 = k
      · rw [if_pos q, decide_eq_true q]; exact .cons h1 h2 h3 rv ih
      · rw [if_neg q, decide_eq_false q]; exact .cons h1 h2 h3 h4 ih
  | none =>
    rw [if_neg (show ¬ (none : Option D).isSome = true from Bool.false_ne_true)]
    exact h.append (.cons ek dp rb rv .nil)
theorem kput_length (ks : List (NestedKey × Addr × V)) (k : NestedKey) (b : Addr) (v : V) : (kput ks k b v).length ≤ ks.length + 1 := by
  unfold kput
  split
  · simp
  · simp
theorem RpK.look {H : Hp} {ks : List (NestedKey × Addr × V)} {kvs : List (D × D)} (h : RpK H ks kvs) {xs : List (NestedKey × Addr × Value)} (r : KV3 ks xs) {d : D} {k : NestedKey} (e : keyOf d = some k) :
    match dlook kvs d with
    | some x => ∃ b u v, atKey xs k = some (b, u) ∧ RelV v u ∧ Rp H v x
    | none => atKey xs k = none := by
  induction h generalizing xs with
  | nil => cases r; rfl
  | @cons k1 b v ks d1 e1 kvs h1 h2 h3 h4 _ ih =>
    cases r with
    | @cons _ q _ xs' r1 r2 =>
      have z := deq_key d1 d k1 k h1 e
      rw [← NestedKey.decide_eq] at z
      rw [dlook, z]
      obtain ⟨q1, q2, q3⟩ := q
      obtain ⟨s1, s2, s3⟩ := r1
      simp only at s1 s2 s3
      subst s1
      by_cases y : k1 = k
      · rw [decide_eq_true y]
        exact ⟨q2, q3, v, by simp [atKey, y], s3, h4⟩
      · rw [decide_eq_false y]
        have := ih r2
        have e2 : atKey ((k1, q2, q3) :: xs') k = atKey xs' k := by simp [atKey, y]
        rw [e2]
        exact this
section
variable {X : Cx} {pins : List (Addr × Obj)} {σ : St} {H H0 : Hp} {s : Shared} {a : Addr}
theorem dn_of (I : Inv X pins σ H s) {ks : List (NestedKey × Addr × V)} {kvs : List (D × D)} (h : DAt X.w H a ks) (r : RpK H0 ks kvs) (k : Sub H0 H) :
    ∃ xs, KV3 ks xs ∧ (a == sysModules) = false ∧ ks.length ≤ sizeLine ∧ s.heap.DictOfH (nestedKind X.prog X.w) a xs := by
  obtain ⟨ep, h⟩ := h
  obtain ⟨⟨xs, p, z, hl, o, es, e1, e2, e3, e4, e5⟩, stay⟩ := I.hok a _ h
  clear stay
  refine ⟨xs, p, z, hl, o, es, ep, e1, e2, e3, e4, ?_, e5⟩
  clear e4 e5 hl h
  induction r generalizing xs with
  | nil => cases p; intro x hx; cases hx
  | @cons k1 b v ks d1 x1 kvs h1 h2 h3 h4 _ ih =>
    cases p with
    | cons r1 r2 =>
      intro x hx
      rcases List.mem_cons.mp hx with q | q
      · subst q
        obtain ⟨s1, s2, s3⟩ := r1
        rw [← s1, ← s2]
        exact ⟨Rp.nested I.hok d1 _ _ k1 (h3.mono k) h1 rfl, h2⟩
      · exact ih _ r2 x q
theorem key_is (I : Inv X pins σ H s) {v : V} {u : Value} {d : D} {k : NestedKey} (r : Rp H v d) (e : keyOf d = some k) (dp : k.depth ≤ 8) (rv : RelV v u) {b : Addr} (hb : u = .ref b) : (nestedKind X.prog X.w).is s.heap k b := by
  subst hb
  exact ⟨Rp.nested I.hok d v _ k r e rv, dp⟩
/-- the object after a change -/
theorem dn_new {w : World} {h' : Heap} {ks : List (NestedKey × Addr × V)} {xs : List (NestedKey × Addr × Value)} {P : Program} (p : KV3 ks xs) (z : (a == sysModules) = false) (hl : ks.length ≤ sizeLine) (d : h'.DictOfH (nestedKind P w) a xs) : ∃ ep, ∀ H', ObjOk P w H' h' a (DN w a ks ep) := by
  obtain ⟨o, es, ep, e1, e2, e3, e4, _, e5⟩ := d
  exact ⟨ep, fun H' => ⟨⟨xs, p, z, hl, o, es, e1, e2, e3, e4, e5⟩, ⟨o, e1⟩, fun h1 h2 ⟨xs, p, z, hl, o, es, e1, e2⟩ f => ⟨xs, p, z, hl, o, es, f o e1, e2⟩⟩⟩
end
/-- a dict is no code object -/
theorem heap_all (ob : Obj) (hf : ob.isFreed = false) : ∀ n : Nat, ∃ h : Heap, h.objs.size = n ∧ ∀ b o, h.get? b = some o → o = ob
  | 0 => ⟨default, rfl, fun b o e => by exact absurd (Heap.lt_size e) (Nat.not_lt_zero _)⟩
  | n + 1 => by
    obtain ⟨h, e1, e2⟩ := heap_all ob hf n
    refine ⟨h.push ob, by rw [Heap.size_push, e1], fun b o e => ?_⟩
    by_cases hb : b = h.objs.size
    · rw [hb, Heap.get?_push_size _ hf] at e
      exact (Option.some.inj e).symm
    · rw [Heap.get?_push_ne _ _ _ hb] at e
      exact e2 b o e
theorem dn_ne {w : World} {a : Addr} {ks : List (NestedKey × Addr × V)} {ep : Nat} (c : Addr) (q : Str) : DN w a ks ep ≠ LamX.CodeO c q := fun z => by
  unfold DN LamX.CodeO at z
  injection z with z
  obtain ⟨h, e1, e2⟩ := heap_all { cls := .none, data := .fields #[.none, .str q 0] } rfl c
  have e3 : (h.push { cls := .none, data := .fields #[.none, .str q 0] }).get? c = some { cls := .none, data := .fields #[.none, .str q 0] } := by
    have := Heap.get?_push_size h (o := { cls := .none, data := .fields #[.none, .str q 0] }) rfl
    rw [e1] at this
    exact this
  have e3' : ∃ (oc : Obj) (vs : Array Value) (t : Tok), (h.push { cls := .none, data := .fields #[.none, .str q 0] }).get? c = some oc ∧ oc.data = .fields vs ∧ vs[1]? = some (.str q t) := ⟨_, _, 0, e3, rfl, rfl⟩
  have e4 := Eq.mpr (congrFun z (h.push { cls := .none, data := .fields #[.none, .str q 0] })) e3'
  obtain ⟨xs, _, _, _, o, es, e5, _, e6, _⟩ := e4
  have e7 : o = { cls := .none, data := .fields #[.none, .str q 0] } := by
    by_cases hb : a = h.objs.size
    · rw [hb, Heap.get?_push_size _ rfl] at e5
      exact (Option.some.inj e5).symm
    · rw [Heap.get?_push_ne _ _ _ hb] at e5
      exact e2 _ _ e5
  rw [e7] at e6
  cases e6
theorem Fr.dn {w : World} {H : Hp} {a : Addr} {ks : List (NestedKey × Addr × V)} (h : DAt w H a ks) : Fr H a := let ⟨_, e⟩ := h; ⟨_, e, (fun _ z => nomatch z), dn_ne⟩
def nOk (kvs : List (D × D)) : Bool := short kvs 1000
/-! ### the rules -/
/-- d[k] -/
def eDGet (f : Env → Option (List (D × D))) (g : Env → Option D) : Env → Option D := fun env => match f env with
  | some kvs => match g env with
    | some d => match kTup d with
      | true => dlook kvs d
      | false => none
    | none => none
  | none => none
theorem nroom {P : Program} {w : World} {A : Around} (hu : A.units + 64 < cLine) : (nestedKind P w).room A.in1 := by show A.units + 1 + 8 < cLine; omega
section
variable {X : Cx} {a b c : Expr} {pos : Pos} {f : Env → Option (List (D × D))} {g k : Env → Option D}
theorem ren_run (h : REN X a f) {pins : List (Addr × Obj)} {s : Shared} {σ : St} {H : Hp} (I : Inv X pins σ H s) {O : Addr → Prop} {own : Nat → Option Addr} {env : Env} {kvs : List (D × D)} (E : EnvOk (wX X) O own H σ env) (e : f env = some kvs) :
    wpAny (model X.prog X.w) X.A (eval a X.env) (fun u s' => ∃ a ks H', u = .ref a ∧ Inv X pins σ H' s' ∧ Same (wX X) H H' ∧ DAt X.w H' a ks ∧ RpK (hid O H') ks kvs) X.xe s :=
  thn (h.run pins s σ H (fun x H1 => ∃ a ks, x = .ref a ∧ Same (wX X) H H1 ∧ DAt X.w H1 a ks ∧ RpK (hid O H1) ks kvs) I ⟨O, own, env, kvs, E, e, fun a ks H1 k e r => ⟨a, ks, rfl, k, e, r⟩⟩)
    fun u s1 ⟨x, H1, I1, rx, a, ks, ex, k1, e1, r1⟩ => by subst ex; exact ⟨a, ks, H1, rx, I1, k1, e1, r1⟩
theorem re_run (h : RE X b g) {pins : List (Addr × Obj)} {s : Shared} {σ : St} {H : Hp} (I : Inv X pins σ H s) {O : Addr → Prop} {own : Nat → Option Addr} {env : Env} {d : D} (E : EnvOk (wX X) O own H σ env) (e : g env = some d) :
    wpAny (model X.prog X.w) X.A (eval b X.env) (fun u s' => ∃ v H', Inv X pins σ H' s' ∧ RelV v u ∧ Same (wX X) H H' ∧ Rp (hid O H') v d) X.xe s :=
  thn (h.run pins s σ H (fun x H1 => Same (wX X) H H1 ∧ Rp (hid O H1) x d) I ⟨O, own, env, d, E, e, fun v H1 k r => ⟨k, r⟩⟩)
    fun u s1 ⟨x, H1, I1, rx, k1, r1⟩ => ⟨x, H1, I1, rx, k1, r1⟩
theorem r_dget (hu : X.A.units + 64 < cLine) (ha : REN X a f) (hb : RE X b g) (hs : NoSl b := by exact fun _ _ => rfl) : RE X (.Subscript a b pos) (eDGet f g) := by
  refine ⟨fun pins s σ H Q I ⟨O, own, env, d, E, e, q⟩ => ?_⟩
  unfold eDGet at e
  split at e
  · rename_i kvs h1
    split at e
    · rename_i kd h2
      split at e
      · rename_i h3
        refine subD_of PySem.F.slot_dict_getitem.lookup hs (thn (ren_run ha I E h1) fun u s1 ⟨a, ks, H1, eu, I1, k1, e1, r1⟩ => thn (re_run hb I1 (E.mono k1) h2) fun iv s2 ⟨y, H2, I2, ry, k2, r2⟩ => ?_)
        subst eu
        obtain ⟨kk, ek, dk, zs, rfl⟩ := kTup_ok h3
        obtain ⟨xs, p, z, hl, dd⟩ := dn_of I2 (e1.mono k2.sub) (r1.mono (hid_mono k2)) hid_le
        refine ⟨dd.typeIs, ?_⟩
        have lk := (r1.mono (hid_mono (O := O) k2)).look p ek
        rw [e] at lk
        obtain ⟨b, u, v, a1, a2, a3⟩ := lk
        cases r2 with
        | @tup t _ _ et rt =>
          obtain rfl : iv = Value.ref t := ry
          refine wpAny_getItem_heap (nroom hu) (key_is I2 (Rp.mono hid_le (Rp.tup et rt)) ek dk rfl rfl) dd a1 ?_
          exact ⟨v, H2, I2.tok _, a2, q v H2 (k1.trans k2) a3⟩
      · cases e
    · cases e
  · cases e
/-- d.get(k, x) -/
def eDGet2 (f : Env → Option (List (D × D))) (g k : Env → Option D) : Env → Option D := fun env => match f env with
  | some kvs => match g env with
    | some d => match k env with
      | some x => match kTup d with
        | true => match dlook kvs d with
          | some e => some e
          | none => some x
        | false => none
      | none => none
    | none => none
  | none => none
theorem m2_of {o : Expr} {m : Str} {apos : Pos} {e f : Expr} {cpos : Pos} (base : attributeBase o m X.env (eval o X.env) = eval o X.env := by rfl)
    (few : ((backTo cpos (starEach [e, f] X.env)).all (fun x => !x.1) && (backToKw cpos (keywordEach [] X.env)).all (fun x => x.1.isSome) && decide (([e, f] : List Expr).length + ([] : List Keyword).length + (if ([] : List Keyword).isEmpty then 0 else 1) < 30)) = true := by rfl)
    (line : (apos.endLine == cpos.line) = true := by rfl) (trees : backTo cpos (starEach [e, f] X.env) = [(false, eval e X.env), (false, eval f X.env)] := by rfl) : M2 X o m apos e f cpos := ⟨base, few, line, trees⟩
theorem r_dget2 {apos cpos : Pos} (hu : X.A.units + 64 < cLine) (ha : REN X a f) (hb : RE X b g) (hc : RE X c k) (m : M2 X a "get" apos b c cpos) : RE X (.Call (.Attribute a "get" apos) [b, c] [] cpos) (eDGet2 f g k) := by
  refine ⟨fun pins s σ H Q I ⟨O, own, env, d, E, e, q⟩ => ?_⟩
  unfold eDGet2 at e
  split at e
  · rename_i kvs h1
    split at e
    · rename_i kd h2
      split at e
      · rename_i x h4
        split at e
        · rename_i h3
          refine wpAny_Call_method m.base m.few m.line PySem.F.plainAttrs_dict PySem.F.slot_dict_get PySem.F.type_dict_get (thn (ren_run ha I E h1) fun u s1 ⟨a, ks, H1, eu, I1, k1, e1, r1⟩ => ?_)
          subst eu
          obtain ⟨xs1, p1, z1, hl1, dd1⟩ := dn_of I1 e1 r1 hid_le
          refine ⟨dd1.typeIs, fun b q => by
            cases q
            obtain ⟨ob, _, _, y1, y2, _⟩ := dd1
            exact ⟨ob, y1, y2.2.1⟩, ?_⟩
          rw [m.trees]
          refine Calls.callWith_builtin rfl (Calls.evalArgs_plain (Calls.spliced_cons (thn (re_run hb I1 (E.mono k1) h2) fun iv s2 ⟨y, H2, I2, ry, k2, r2⟩ =>
            Calls.spliced_cons (thn (re_run hc I2 ((E.mono k1).mono k2) h4) fun xv s3 ⟨y3, H3, I3, ry3, k3, r3⟩ => Calls.spliced_nil ?_))))
          obtain ⟨kk, ek, dk, zs, rfl⟩ := kTup_ok h3
          have r1' := (r1.mono (hid_mono (O := O) k2)).mono (hid_mono (O := O) k3)
          obtain ⟨xs, p, z, hl, dd⟩ := dn_of I3 (e1.mono (k2.trans k3).sub) r1' hid_le
          have lk := r1'.look p ek
          cases r2.mono (hid_mono k3) with
          | @tup t _ _ et rt =>
            obtain rfl : iv = Value.ref t := ry
            refine call_meetsIn PySem.F.slot_dict_get dd.typeIs PySem.F.entry_dict_get (PySem.F.args_dict_get_3 _ _ _) (meetsH_dict_get_default (nestedKind X.prog X.w) a t z xv) ⟨nroom hu, kk, xs, key_is I3 (Rp.mono hid_le (Rp.tup et rt)) ek dk rfl rfl, dd, ?_⟩
            split at e
            · rename_i x1 hx
              rw [hx] at lk
              obtain ⟨b, u, v, a1, a2, a3⟩ := lk
              cases e
              rw [a1]
              exact ⟨v, H3, I3.tok _, a2, q v H3 ((k1.trans k2).trans k3) a3⟩
            · rename_i hx
              rw [hx] at lk
              cases e
              rw [show atKey xs kk = none from lk]
              exact ⟨y3, H3, I3.tok _, ry3, q y3 H3 ((k1.trans k2).trans k3) r3⟩
        · cases e
      · cases e
    · cases e
  · cases e
end
end Ev

set_option Elab.async false
set_option linter.all false
set_option autoImplicit false
set_option maxRecDepth 100000
set_option maxHeartbeats 4000000
/-! Ev10: in a dict; stores; displays -/
namespace Ev
open PySem PySem.Spec L2

/-! ### None in a dict of tuples -/
theorem nested_ref {h : Heap} {k : NestedKey} {a : Addr} (x : NestedIs h k (.ref a)) : NestedKey.beq k .none = false := by
  cases x with
  | tup _ _ _ _ => simp [NestedKey.beq]
section
variable {P : Program} {w : World} {A : Around} {E : Value → Shared → Prop} {s : Shared} {d : Addr}
theorem wpAny_mayTell_none {st : List Value} {Q : Bool → Shared → Prop} (hst : ∀ v ∈ st, ∃ k b, v = Value.ref b ∧ (nestedKind P w).is s.heap k b) (h : Q false s) : wpAny (model P w) A (tableMayTell .none st) Q E s := by
  unfold tableMayTell
  split
  · exact wpAny_pure h
  · refine wpAny_bind (quiet_key .none .none 8 s .none (by simp [NestedKey.depth]) A E _ ?_)
    simp only [Bool.not_true, Bool.false_eq_true, if_false]
    refine wpAny_bind ?_
    refine wpAny_forIn_list _ (fun rest r s' => s' = s ∧ r = (none, ()) ∧ ∀ v ∈ rest, ∃ k' b, v = .ref b ∧ (nestedKind P w).is s.heap k' b) _ ?_ ?_ _ _ ⟨rfl, rfl, hst⟩
    · rintro x rest r s' ⟨rfl, rfl, hr⟩
      obtain ⟨k', b, rfl, hb⟩ := hr x List.mem_cons_self
      refine wpAny_bind ((nestedKind P w).quiet hb ?_)
      simp only [Bool.not_true, Bool.false_eq_true, if_false]
      exact wpAny_pure ⟨rfl, rfl, fun v hv => hr v (List.mem_cons_of_mem _ hv)⟩
    · rintro r s' ⟨rfl, rfl, _⟩
      exact wpAny_pure h
theorem wpAny_dictFind_none {o : Obj} {es ep} {xs : List (NestedKey × Addr × Value)} {hh : Int} {Q : Option Nat → Shared → Prop} (hu : A.units + 8 < cLine) (ho : s.heap.get? d = some o) (hd : o.data = .dict es ep) (he : es.toList = xs.map (entryOfKey (nestedKind P w))) (his : ∀ x ∈ xs, (nestedKind P w).is s.heap x.1 x.2.1)
    (hQ : Q none s) : wpAny (model P w) A (dictFind d .none hh) Q E s := by
  have hmem : ∀ e ∈ es, ∃ x ∈ xs, e = entryOfKey (nestedKind P w) x := by
    intro e hin
    have : e ∈ xs.map (entryOfKey (nestedKind P w)) := he ▸ Array.mem_toList_iff.mpr hin
    obtain ⟨x, hx, rfl⟩ := List.mem_map.mp this
    exact ⟨x, hx, rfl⟩
  have hst : ∀ v ∈ (placesWithHash es.size (fun i => es[i]?.map (·.hash)) hh).filterMap (fun i => es[i]?.map (·.key)), ∃ k' b, v = .ref b ∧ (nestedKind P w).is s.heap k' b := by
    intro v hv
    obtain ⟨i, _, hi⟩ := List.mem_filterMap.mp hv
    cases hei : es[i]? with
    | none => rw [hei] at hi; cases hi
    | some e =>
      rw [hei] at hi
      obtain rfl : e.key = v := by simpa using hi
      obtain ⟨x, hx, rfl⟩ := hmem e (Array.mem_of_getElem? hei)
      exact ⟨x.1, x.2.1, rfl, his x hx⟩
  unfold dictFind
  try with_reducible refine wpAny_holding ?_
  refine wpAny_bind (wpAny_dictEntries ho hd ?_)
  dsimp only
  by_cases hall : ((Value.none :: (placesWithHash es.size (fun i => es[i]?.map (·.hash)) hh).filterMap (fun i => es[i]?.map (·.key))).all carriedByValue) = true
  · rw [if_pos hall]
    have hp : ∀ i ∈ placesWithHash es.size (fun i => es[i]?.map (·.hash)) hh, es[i]? = none := by
      intro i hi
      cases hei : es[i]? with
      | none => rfl
      | some e =>
        obtain ⟨x, hx, rfl⟩ := hmem e (Array.mem_of_getElem? hei)
        have := List.all_eq_true.mp hall (Value.ref x.2.1) (List.mem_cons_of_mem _ (List.mem_filterMap.mpr ⟨i, hi, by rw [hei]; rfl⟩))
        cases this
    refine wpAny_bind ?_
    try unfold dictWalkPlain
    try refine wpAny_bind ?_
    refine wpAny_forIn_list _ (fun rest r s' => s' = s ∧ r = (none, ()) ∧ ∀ i ∈ rest, es[i]? = none) _ ?_ ?_ _ _ ⟨rfl, rfl, hp⟩
    · rintro x rest r s' ⟨rfl, rfl, hr⟩
      rw [hr x List.mem_cons_self]
      exact wpAny_pure ⟨rfl, rfl, fun v hv => hr v (List.mem_cons_of_mem _ hv)⟩
    · rintro r s' ⟨rfl, rfl, _⟩
      exact wpAny_pure hQ
  · rw [if_neg hall]
    by_cases hone : (((placesWithHash es.size (fun i => es[i]?.map (·.hash)) hh).filterMap (fun i => es[i]?.map (·.key))) == [Value.none]) = true <;>
    (first | rw [if_pos hone] | rw [if_neg hone]) <;> (first | refine wpAny_bind (wpAny_pure ?_) | refine wpAny_bind (wpAny_mayTell_none hst ?_)) <;> (
      rw [if_neg (by simp)]
      refine wpAny_bind ?_
      refine wpAny_forIn_list _ (fun rest r s' => s' = s ∧ r = (none, none)) _ ?_ ?_ _ _ ⟨rfl, rfl⟩
      · rintro x rest r s' ⟨rfl, rfl⟩
        cases hex : es[x]? with
        | none => exact wpAny_pure ⟨rfl, rfl⟩
        | some e =>
          dsimp only
          by_cases heq : (e.hash == hh) = true
          · rw [if_pos heq]
            obtain ⟨y, hy, rfl⟩ := hmem e (Array.mem_of_getElem? hex)
            have hy' := his y hy
            have eq := eqAt_key y.1 .none A s' (.ref y.2.1) .none hy'.1 .none (by have := hy'.2; omega)
            rw [nested_ref hy'.1] at eq
            refine wpAny_bind (wpAny_dictEpoch ho hd (wpAny_bind (eq _ _ _ _ (wpAny_bind (wpAny_dictEpoch ho hd ?_)))))
            show wpAny _ _ (if (ep != ep) = true then _ else _) _ E _
            rw [if_neg (by simp)]
            simp only [Bool.false_eq_true, if_false]
            refine wpAny_bind (wpAny_rule ?_)
            first | rw [if_neg (by simp)] | skip
            first
              | exact wpAny_pure ⟨rfl, rfl⟩
              | exact wpAny_bind (wpAny_pure (wpAny_pure ⟨rfl, rfl⟩))
          · rw [if_neg heq]
            exact wpAny_pure ⟨rfl, rfl⟩
      · rintro r s' ⟨rfl, rfl⟩
        exact wpAny_pure hQ)
theorem wpAny_notInNone {xs : List (NestedKey × Addr × Value)} {Q : Value → Shared → Prop} (hu : A.units + 64 < cLine) (hd : (d == sysModules) = false) (hm : s.heap.DictOfH (nestedKind P w) d xs) :
    (∀ t, Q (.bool false) { s with toks := t }) → wpAny (model P w) A (compareOp .In .none (.ref d)) Q E s := by
  intro h
  show wpAny _ _ (do return .bool (← contains (.ref d) .none)) Q E s
  refine wpAny_bind ?_
  unfold contains
  try with_reducible refine wpAny_holding ?_
  refine wpAny_bind (wpAny_specialOf hm.typeIs slot_dict_contains.lookup ?_)
  show wpAny _ _ (if (some (Value.builtin "dict.__contains__") == some Value.none) = true then _ else _) _ E s
  rw [if_neg (by rw [beq_builtin_none]; exact Bool.false_ne_true)]
  refine wpAny_bind (wpAny_callSpecialUnlessNone?_slot (name := Str.ofString "__contains__") hm.typeIs slot_dict_contains
    (wpAny_call_entry slot_dict_contains hm.typeIs entry_dict_contains ?_ (args_dict_contains _ _)))
  show wpAny _ _ (dictGet d .none >>= _) _ _ s
  obtain ⟨o, es, ep, ho, _, hdt, he, his, hn⟩ := hm
  refine wpAny_bind ?_
  unfold dictGet
  try with_reducible refine wpAny_holding ?_
  refine wpAny_bind (pyHash_key .none .none _ s _ .none (by simp only [NestedKey.depth, Around.in1_units]; omega) (wpAny_bind (wpAny_dictFind_none (by simp only [Around.in1_units]; omega) ho hdt he his ?_)))
  refine wpAny_pure ?_
  show wpAny _ _ (Builtin.Dict.pendingKey? d .none >>= _) _ _ _
  exact wpAny_bind (wpAny_pendingKey_other hd (wpAny_pure ⟨_, rfl, wpAny_truthy_bool (wpAny_pure (h _))⟩))
theorem wpAny_notInNone' {xs : List (NestedKey × Addr × Value)} {Q : Value → Shared → Prop} (hu : A.units + 64 < cLine) (hd : (d == sysModules) = false) (hm : s.heap.DictOfH (nestedKind P w) d xs) :
    (∀ t, Q (.bool true) { s with toks := t }) → wpAny (model P w) A (compareOp .NotIn .none (.ref d)) Q E s := by
  intro h
  show wpAny _ _ (do return .bool (!(← contains (.ref d) .none))) Q E s
  refine wpAny_bind ?_
  unfold contains
  try with_reducible refine wpAny_holding ?_
  refine wpAny_bind (wpAny_specialOf hm.typeIs slot_dict_contains.lookup ?_)
  show wpAny _ _ (if (some (Value.builtin "dict.__contains__") == some Value.none) = true then _ else _) _ E s
  rw [if_neg (by rw [beq_builtin_none]; exact Bool.false_ne_true)]
  refine wpAny_bind (wpAny_callSpecialUnlessNone?_slot (name := Str.ofString "__contains__") hm.typeIs slot_dict_contains
    (wpAny_call_entry slot_dict_contains hm.typeIs entry_dict_contains ?_ (args_dict_contains _ _)))
  show wpAny _ _ (dictGet d .none >>= _) _ _ s
  obtain ⟨o, es, ep, ho, _, hdt, he, his, hn⟩ := hm
  refine wpAny_bind ?_
  unfold dictGet
  try with_reducible refine wpAny_holding ?_
  refine wpAny_bind (pyHash_key .none .none _ s _ .none (by simp only [NestedKey.depth, Around.in1_units]; omega) (wpAny_bind (wpAny_dictFind_none (by simp only [Around.in1_units]; omega) ho hdt he his ?_)))
  refine wpAny_pure ?_
  show wpAny _ _ (Builtin.Dict.pendingKey? d .none >>= _) _ _ _
  exact wpAny_bind (wpAny_pendingKey_other hd (wpAny_pure ⟨_, rfl, wpAny_truthy_bool (wpAny_pure (h _))⟩))
end

/-! ### in, not in -/
def gInN (d : D) (kvs : List (D × D)) : Option Bool := match d with
  | .non => some false
  | _ => match kTup d with
    | true => match dlook kvs d with
      | some _ => some true
      | none => some false
    | false => none
def cInN (g : Env → Option D) (f : Env → Option (List (D × D))) : Env → Option Bool := fun env => match g env with
  | some d => match f env with
    | some kvs => gInN d kvs
    | none => none
  | none => none
def rInN (w : World) (neg : Bool) : R2 := fun x y H Q => ∃ O d kvs a ks r, y = .ref a ∧ Rp (hid O H) x d ∧ DAt w H a ks ∧ RpK (hid O H) ks kvs ∧ gInN d kvs = some r ∧ Q (.bl (r != neg)) H
section
variable {X : Cx} {a b c : Expr} {pos : Pos} {f : Env → Option (List (D × D))} {g k : Env → Option D}
theorem op_inN (hu : X.A.units + 64 < cLine) : OpR X (compareOp .In) (rInN X.w false) := by
  intro pins s σ H x y v u Q I rx ry ⟨O, d, kvs, a, ks, r, ey, rd, ea, rk, e, q⟩
  subst ey
  obtain rfl : u = Value.ref a := ry
  obtain ⟨xs, p, z, hl, dd⟩ := dn_of I ea rk hid_le
  unfold gInN at e
  split at e
  · cases e
    cases rd
    obtain rfl : v = Value.none := rx
    exact wpAny_notInNone hu z dd fun t => ⟨.bl false, H, I.tok _, rfl, q⟩
  · split at e
    · rename_i h3
      obtain ⟨kk, ek, dk, zs, rfl⟩ := kTup_ok h3
      have lk := rk.look p ek
      cases rd with
      | @tup t _ _ et rt =>
        obtain rfl : v = Value.ref t := rx
        refine wpAny_in_heap (nroom hu) (key_is I (Rp.mono hid_le (Rp.tup et rt)) ek dk rfl rfl) z dd ?_
        split at e
        · rename_i x1 hx
          rw [hx] at lk
          obtain ⟨b, u, v, a1, a2, a3⟩ := lk
          cases e
          rw [a1]
          exact ⟨.bl true, H, I.tok _, rfl, q⟩
        · rename_i hx
          rw [hx] at lk
          cases e
          rw [show atKey xs kk = none from lk]
          exact ⟨.bl false, H, I.tok _, rfl, q⟩
    · cases e
theorem op_notInN (hu : X.A.units + 64 < cLine) : OpR X (compareOp .NotIn) (rInN X.w true) := by
  intro pins s σ H x y v u Q I rx ry ⟨O, d, kvs, a, ks, r, ey, rd, ea, rk, e, q⟩
  subst ey
  obtain rfl : u = Value.ref a := ry
  obtain ⟨xs, p, z, hl, dd⟩ := dn_of I ea rk hid_le
  unfold gInN at e
  split at e
  · cases e
    cases rd
    obtain rfl : v = Value.none := rx
    exact wpAny_notInNone' hu z dd fun t => ⟨.bl true, H, I.tok _, rfl, q⟩
  · split at e
    · rename_i h3
      obtain ⟨kk, ek, dk, zs, rfl⟩ := kTup_ok h3
      have lk := rk.look p ek
      cases rd with
      | @tup t _ _ et rt =>
        obtain rfl : v = Value.ref t := rx
        refine notIn_keyed (nroom hu) (key_is I (Rp.mono hid_le (Rp.tup et rt)) ek dk rfl rfl) z ⟨xs, dd, rfl⟩ ?_
        rw [valueAt_pairsH]
        split at e
        · rename_i x1 hx
          rw [hx] at lk
          obtain ⟨b, u, v, a1, a2, a3⟩ := lk
          cases e
          rw [a1]
          exact ⟨.bl false, H, I.tok _, rfl, q⟩
        · rename_i hx
          rw [hx] at lk
          cases e
          rw [show atKey xs kk = none from lk]
          exact ⟨.bl true, H, I.tok _, rfl, q⟩
    · cases e
theorem inN_core {w : W2} {neg : Bool} {O : Addr → Prop} {own : Nat → Option Addr} {env : Env} {σ : St} {H : Hp} {Q : VK} {r : Bool} (E : EnvOk w O own H σ env) (e : cInN g f env = some r) (q : ∀ H', Same w H H' → Q (.bl (r != neg)) H') : tOp (rInN w.w neg) (tE w g) (tEN w f) σ H Q := by
  unfold cInN at e
  split at e
  · rename_i d h1
    split at e
    · rename_i kvs h2
      exact ⟨O, own, env, d, E, h1, fun v H1 k1 r1 => ⟨O, own, env, kvs, E.mono k1, h2, fun a ks H2 k2 e2 r2 => ⟨O, d, kvs, a, ks, r, rfl, r1.mono (hid_mono k2), e2, r2, e, q H2 (k1.trans k2)⟩⟩⟩
    · cases e
  · cases e
theorem r_inN (hu : X.A.units + 64 < cLine) (hb : RE X b g) (ha : REN X a f) (hm : behindInMarks .In a = false := by rfl) : RT X (.Compare b [.In] [a] pos) (cInN g f) := by
  refine ptI (pt_cmpR (op_inN hu) hb ha hm) fun σ H Q ⟨O, own, env, r, E, e, q⟩ => ?_
  exact inN_core E e fun H' k => ⟨r, by rw [Bool.bne_false], q H' k⟩
theorem r_notInN (hu : X.A.units + 64 < cLine) (hb : RE X b g) (ha : REN X a f) (hm : behindInMarks .NotIn a = false := by rfl) : RT X (.Compare b [.NotIn] [a] pos) (tNotF (cInN g f)) := by
  refine ptI (pt_cmpR (op_notInN hu) hb ha hm) fun σ H Q ⟨O, own, env, r, E, e, q⟩ => ?_
  unfold tNotF at e
  split at e
  · rename_i b' h1
    cases e
    exact inN_core E h1 fun H' k => ⟨!b', by rw [Bool.bne_true], q H' k⟩
  · cases e
end
/-! ### stores -/
def rSetN (w : World) : TSet := fun o i v H Q => ∃ a ks kvs d k b, o = .ref a ∧ i = .ref b ∧ DAt w H a ks ∧ RpK H ks kvs ∧ Rp H i d ∧ keyOf d = some k ∧ k.depth ≤ 8 ∧ ks.length < sizeLine ∧ ∀ ep, Q (upd H a (DN w a (kput ks k b v) ep))
theorem set_dn {X : Cx} (hu : X.A.units + 64 < cLine) : PSet X (rSetN X.w) := by
  intro pins s σ H o i v ov iv u Q I ro ri rv ⟨a, ks, kvs, d, k, b, eo, ei, ea, rk, rd, ek, dk, hz, q⟩
  subst eo ei
  obtain rfl : ov = Value.ref a := ro
  obtain rfl : iv = Value.ref b := ri
  obtain ⟨xs, p, z, hl, dd⟩ := dn_of I ea rk (Sub.refl H)
  refine wpAny_setItem_heap (nroom hu) (key_is I rd ek dk rfl rfl) dd (fun h' dd' hs => ?_) (by rw [← p.length]; exact hl)
  obtain ⟨ep, ok⟩ := dn_new (p.put (b := b) (k := k) rv) z (by have := kput_length ks k b v; omega) dd'
  refine ⟨_, d_write (t' := _) I (by obtain ⟨_, z⟩ := ea; rw [z]; exact True.intro) hs ?_ (ok _), q ep⟩
  obtain ⟨o, _, _, e, _⟩ := dd'; exact ⟨o, e⟩
/-- d[k] = e, d the owned dict at slot i -/
def sSetKey (i : Nat) (g f : Env → Option D) : Env → Option Out := fun env => match f env with
  | some e => match look env i with
    | some (.on kvs) => match g env with
      | some d => match kTup d with
        | true => match short kvs 1000 with
          | true => some (.nx (env.set i (some (.on (dput kvs d e)))))
          | false => none
        | false => none
      | none => none
    | _ => none
  | none => none
section
variable {X : Cx} {pos : Pos} {f g : Env → Option D}
theorem rs_setKey {i : Nat} {x : Str} {e k : Expr} {pos' npos : Pos} (hu : X.A.units + 64 < cLine) (hx : PE X (.Name x npos) (tVar i)) (hk : RE X k g) (he : RE X e f) (hs : swapsWithSole [.Subscript (.Name x npos) k pos'] e pos.line X.env = pure false := by rfl) (hw : swappedStores [.Subscript (.Name x npos) k pos'] e X.env = pure none := by rfl)
    (h1 : (assignEach [.Subscript (.Name x npos) k pos'] X.env).map (·.2) = [assign (.Subscript (.Name x npos) k pos') X.env] := by rfl)
    (ha : ∀ v, assign (.Subscript (.Name x npos) k pos') X.env v = (do
      let ov ← holding [v] (eval (.Name x npos) X.env)
      let iv ← holding [v, ov] (eval k X.env)
      standAt pos'
      holding [v, ov, iv] (setItem ov iv v)
      release [v, ov, iv] []) := by intro _; rfl) : RS X (.Assign [.Subscript (.Name x npos) k pos'] e pos) (sSetKey i g f) := by
  refine psI (ps_asg he (pg_sub hx hk (set_dn hu) ha) hs hw h1) fun D σ H ⟨H0, B, env, out, ⟨⟨O, own, E, b1, b2, b3⟩, base⟩, e, q, qr⟩ => ?_
  unfold sSetKey at e
  split at e
  · rename_i ev h2
    split at e
    · rename_i kvs h3
      split at e
      · rename_i d h4
        split at e
        · rename_i h5
          split at e
          · rename_i h6
            cases e
            obtain ⟨p, ks, o1, o2, o3, o4⟩ := E.ownN h3
            obtain ⟨kk, ek, dk, zs, rfl⟩ := kTup_ok h5
            refine ⟨O, own, env, ev, E, h2, fun v H1 k1 r1 => ⟨.ref p, o2, O, own, env, _, E.mono k1, h4, fun kv H2 k2 r2 => ?_⟩⟩
            have k12 := k1.trans k2
            have r1' := r1.mono (hid_mono (O := O) k2)
            have o4' := o4.mono (hid_mono (O := O) k12)
            cases r2 with
            | @tup t _ _ et rt =>
              exact ⟨p, ks, kvs, _, kk, t, rfl, rfl, o3.mono k12.sub, o4'.mono hid_le, Rp.mono hid_le (Rp.tup et rt), ek, dk, by rw [o4.length]; exact short_line h6,
                fun ep => q _ _ _ rfl ⟨⟨O, own, (E.mono k12).chgN (Fr.dn (o3.mono k12.sub)) o1 o2 (o4'.put ek dk (.tup et rt) r1'), b1, b2, b3⟩, same_own (E.mono k12) b2 b3 (base.trans k12.sub) o1⟩⟩
          · cases e
        · cases e
      · cases e
    · cases e
  · cases e
end
/-! ### a new dict of one pair -/
def tEFN (w : W2) (f : Env → Option (List (D × D))) : TE := fun σ H Q => ∃ O own env ds, EnvOk w O own H σ env ∧ f env = some ds ∧ ∀ p xs H', Same w H H' → H p = none → DAt w.w H' p xs → RpK (hid (fun b => b = p ∨ O b) H') xs ds → Q (.ref p) H'
def REFN (X : Cx) (e : Expr) (f : Env → Option (List (D × D))) : Prop := PE X e (tEFN (wX X) f)
def eDict1 (g f : Env → Option D) : Env → Option (List (D × D)) := fun env => match g env with
  | some d => match kTup d with
    | true => match f env with
      | some e => some [(d, e)]
      | none => none
    | false => none
  | none => none
section
variable {X : Cx} {pos : Pos} {f g : Env → Option D} {k v : Expr}
theorem r_dict1 (hu : X.A.units + 64 < cLine) (hk : RE X k g) (hv : RE X v f) : REFN X (.Dict [some k] [v] pos) (eDict1 g f) := by
  refine ⟨fun pins s σ H Q I ⟨O, own, env, ds, E, e, q⟩ => ?_⟩
  unfold eDict1 at e
  split at e
  · rename_i d h1
    split at e
    · rename_i h2
      split at e
      · rename_i x h3
        cases e
        have hn := I.hok.fresh (Nat.le_refl s.heap.objs.size)
        have I1 := I.laid (a := s.heap.objs.size) (o := .dK []) (h' := s.heap.push { cls := .type "dict", data := .dict #[] }) (t' := s.toks) (fun _ _ q => Heap.get?_push_of_some _ q) (Nat.le_refl _) (dk_empty s.heap I.big)
        have E1 := E.hide (o := .dK []) hn
        rw [arm_eval_Dict, zip_pairTrees [some k] [v] X.env pos rfl rfl, dictDisplay_pairs _ (by intro z; cases z) (by rw [pairTrees_length _ _ _ _ rfl rfl]; exact (by decide : 1 < 17))]
        refine wpAny_bind (wpAny_standAt (wpAny_bind (wpAny_subDictH (knd := nestedKind X.prog X.w) (Q := fun d s' => wpAny (model X.prog X.w) X.A (pure (Value.ref d)) (EP X pins σ Q) X.xe s') (by show X.A.units + 8 < cLine; omega) (by rw [pairTrees_length _ _ _ _ rfl rfl]; exact (by decide : 1 ≤ 15)) ?_)))
        refine pairTrees_cons_walk (thn (re_run hk I1 E1 h1) fun u s1 ⟨x1, H1, J1, rx, k1, r1⟩ => thn (re_run hv J1 (E1.mono k1) h3) fun u2 s2 ⟨y1, H2, J2, ry, k2, r2⟩ => pairTrees_nil_walk ?_)
        obtain ⟨kk, ek, dk, zs, rfl⟩ := kTup_ok h2
        have k12 := k1.trans k2
        have kH : Same (wX X) H H2 := (Same.upd hn).trans k12
        have r1' := r1.mono (hid_mono (O := fun b => b = s.heap.objs.size ∨ O b) k2)
        cases r1' with
        | @tup t ys _ et rt =>
          obtain rfl : u = Value.ref t := rx
          have isK := key_is J2 (Rp.mono hid_le (Rp.tup et rt)) ek dk (u := Value.ref t) rfl rfl
          have e2 : H2 s.heap.objs.size = some (.dK []) := k12.ap upd_same
          obtain ⟨z, hd, vs0, r0, ob, es, ep, g1, g2, g3, g4, g5, g6⟩ := dk_of J2.hok e2
          cases r0
          refine ⟨[(kk, t, u2)], ⟨rfl, rfl, isK, trivial⟩, ?_, fun h' tk dd hs => wpAny_pure ?_⟩
          · have e0 : es.toList = [] := by
              cases hes : es.toList with
              | nil => rfl
              | cons y ys => rw [hes] at g5; cases g5
            exact ⟨ob, es, ep, g1, g2, g3, e0, (fun x hx => nomatch hx), List.nodup_nil⟩
          · have nO : ¬ O s.heap.objs.size := fresh_of E.there hn
            have hkv : KV3 [(kk, t, y1)] (storedAllH [] [(kk, t, u2)]) := .cons ⟨rfl, rfl, ry⟩ .nil
            obtain ⟨ep2, ok⟩ := dn_new hkv hd (by rw [sizeLine_eq]; exact (by decide : 1 ≤ 16777216)) dd
            refine ⟨.ref s.heap.objs.size, _, d_write (ob := DN X.w s.heap.objs.size [(kk, t, y1)] ep2) J2 (by rw [e2]; exact True.intro) hs ?_ (ok _), rfl, ?_⟩
            · obtain ⟨o, _, _, e, _⟩ := dd; exact ⟨o, e⟩
            · refine q _ [(kk, t, y1)] _ (kH.updF hn (Fr.dK e2)) hn ⟨_, upd_same⟩ ?_
              · rw [hid_upd (.inl rfl)]
                exact .cons ek dk (.tup et rt) r2 .nil
      · cases e
    · cases e
  · cases e
end
/-- name = a new dict, the name's own from here on -/
def sOwnN (i : Nat) (f : Env → Option (List (D × D))) : Env → Option Out := fun env => match f env with
  | some ds => some (.nx (env.set i (some (.on ds))))
  | none => none
section
variable {X : Cx} {pos : Pos}
theorem SOk.own1N {w : W2} {H0 H H' : Hp} {B O : Addr → Prop} {own : Nat → Option Addr} {σ : St} {env : Env} (E : EnvOk w O own H σ env) (b1 : ∀ a, B a → O a) (b2 : ∀ i a, own i = some a → ¬ B a) (b3 : ∀ a, O a → B a ∨ H0 a = none) (base : Sub H0 H)
    (i : Nat) {p : Addr} {xs : List (NestedKey × Addr × V)} {ds : List (D × D)} (k : Same w H H') (hp : H p = none) (hq : DAt w.w H' p xs) (r : RpK (hid (fun b => b = p ∨ O b) H') xs ds) : SOk w H0 B H' (σ.set i (some (.ref p))) (env.set i (some (.on ds))) := by
  have nO : ¬ O p := fresh_of E.there hp
  have E1 : EnvOk w (fun b => b = p ∨ O b) own H' σ env := E.grow k (fun a z => .inr z) (fun a z => z.elim (fun e => .inr (e ▸ hp)) .inl) fun a z => z.elim (fun e => e ▸ hq.some) fun z => k.live a (E.there a z)
  refine ⟨⟨fun b => b = p ∨ O b, _, E1.setOwnN i (.inl rfl) (fun j z => nO (E.inO j p z)) hq r, fun a z => .inr (b1 a z), fun j a z => ?_, fun a z => ?_⟩, base.trans k.sub⟩
  · by_cases hj : j = i
    · rw [if_pos hj] at z; cases z; exact fun z => nO (b1 _ z)
    · rw [if_neg hj] at z; exact b2 j a z
  · rcases z with z | z
    · rw [z]; exact .inr (base.free hp)
    · exact b3 a z
theorem rs_ownNI {st : Stmt} {i : Nat} {f : Env → Option (List (D × D))} (h : PS X st (tAsg (tEFN (wX X) f) (gName i))) : RS X st (sOwnN i f) := by
  refine psI h fun D σ H ⟨H0, B, env, out, ⟨⟨O, own, E, b1, b2, b3⟩, base⟩, e, q, qr⟩ => ?_
  unfold sOwnN at e
  split at e
  · rename_i ds h1
    cases e
    exact ⟨O, own, env, ds, E, h1, fun p xs H' k hp hq r => q _ _ _ rfl (SOk.own1N E b1 b2 b3 base i k hp hq r)⟩
  · cases e
theorem rs_ownN {i : Nat} {x : Str} {e : Expr} {f : Env → Option (List (D × D))} {pos' : Pos} (hN : X.N.Nodup) (hi : X.N[i]? = some x) (hx : Loc X.env.scope x) (he : REFN X e f) (hs : swapsWith e (some (.Name x pos')) pos.line X.env = pure false := by rfl) (hf : X.fn x = true ∨ X.env.scope.names.lookup x = some .local := by first | exact .inl rfl | exact .inr rfl) :
    RS X (.Assign [.Name x pos'] e pos) (sOwnN i f) := rs_ownNI (ps_set hN hi hx he hs hf)
end
end Ev

set_option Elab.async false
set_option linter.all false
set_option autoImplicit false
set_option maxRecDepth 100000
set_option maxHeartbeats 4000000
/-! Ev11: names that get values together -/
namespace Ev
open PySem PySem.Spec L2

inductive FrA (w : W2) (G H : Hp) : List V → List C → List Addr → Prop
  | nil : FrA w G H [] [] []
  | c {v : V} {vs : List V} {c : C} {cs : List C} {ps : List Addr} : RpC w G v c → FrA w G H vs cs ps → FrA w G H (v :: vs) (c :: cs) ps
  | ol {p : Addr} {xs vs : List V} {ds : List D} {cs : List C} {ps : List Addr} : H p = some (.lst xs) → RpA G xs ds → FrA w G H vs cs ps → FrA w G H (.ref p :: vs) (.ol ds :: cs) (p :: ps)
  | on {p : Addr} {ks : List (NestedKey × Addr × V)} {vs : List V} {kvs : List (D × D)} {cs : List C} {ps : List Addr} : DAt w.w H p ks → RpK G ks kvs → FrA w G H vs cs ps → FrA w G H (.ref p :: vs) (.on kvs :: cs) (p :: ps)
theorem FrA.len {w : W2} {G H : Hp} {vs : List V} {cs : List C} {ps : List Addr} (h : FrA w G H vs cs ps) : vs.length = cs.length := by
  induction h with
  | nil => rfl
  | c _ _ ih => exact congrArg (· + 1) ih
  | ol _ _ _ ih => exact congrArg (· + 1) ih
  | on _ _ _ ih => exact congrArg (· + 1) ih
theorem hid_congr {O O' : Addr → Prop} {H : Hp} (h : ∀ a, O a ↔ O' a) : hid O H = hid O' H := by rw [funext fun a => propext (h a)]
def tAF (w : W2) (f : Env → Option (List C)) : TA := fun σ H Q => ∃ O own env cs, EnvOk w O own H σ env ∧ f env = some cs ∧
  ∀ vs H' ps, Same w H H' → (∀ p ∈ ps, H p = none) → ps.Nodup → FrA w (hid (fun a => O a ∨ a ∈ ps) H') H' vs cs ps → Q vs H'
def RAF (X : Cx) (es : List Expr) (f : Env → Option (List C)) : Prop := PA X es (tAF (wX X) f)
def fCons (f : Env → Option C) (g : Env → Option (List C)) : Env → Option (List C) := aCons f g
def fL (f : Env → Option (List D)) : Env → Option C := fun env => match f env with
  | some ds => some (.ol ds)
  | none => none
def fN (f : Env → Option (List (D × D))) : Env → Option C := fun env => match f env with
  | some ds => some (.on ds)
  | none => none
section
variable {X : Cx} {pos : Pos} {e : Expr} {es : List Expr} {g : Env → Option (List C)}
theorem rf_nil : RAF X [] aNil := paI pa_nil fun σ H Q ⟨O, own, env, d, E, e, q⟩ => by cases e; exact q [] H [] (Same.refl H) (fun p h => nomatch h) List.nodup_nil .nil
theorem FrA.same {w : W2} {G G' H H' : Hp} {vs : List V} {cs : List C} {ps : List Addr} (h : FrA w G H vs cs ps) (k : Sub G G') (k' : Sub H H') : FrA w G' H' vs cs ps := by
  induction h with
  | nil => exact .nil
  | c r _ ih => exact .c (r.mono k) ih
  | ol e r _ ih => exact .ol (k'.ap e) (r.mono k) ih
  | on e r _ ih => exact .on (e.mono k') (r.mono k) ih
theorem hid_more {O : Addr → Prop} {H H' : Hp} {ps : List Addr} (k : Sub H H') (h : ∀ p ∈ ps, H p = none) : Sub (hid O H) (hid (fun a => O a ∨ a ∈ ps) H') := k.hid fun b o e n y => y.elim n fun m => by rw [h b m] at e; cases e
theorem rf_c {f : Env → Option C} (h : REC X e f) (hr : RAF X es g) (hs : starEach (e :: es) X.env = (false, eval e X.env) :: starEach es X.env := by rfl) : RAF X (e :: es) (fCons f g) := by
  refine paI (pa_cons h hr hs) fun σ H Q ⟨O, own, env, cs, E, e, q⟩ => ?_
  obtain ⟨c, r, h1, h2, rfl⟩ := aCons_some e
  refine ⟨O, own, env, c, E, h1, fun v H1 k1 r1 => ⟨O, own, env, r, E.mono k1, h2, fun vs H2 ps k2 fr nd ra => q (v :: vs) H2 ps (k1.trans k2) (fun p m => k1.free (fr p m)) nd (.c ?_ ra)⟩⟩
  exact r1.mono (hid_more k2.sub fr)
theorem rf_d {f : Env → Option D} (h : RE X e f) (hr : RAF X es g) (hs : starEach (e :: es) X.env = (false, eval e X.env) :: starEach es X.env := by rfl) : RAF X (e :: es) (fCons (eToC f) g) := rf_c (r_toC h) hr hs
theorem grow1 {w : W2} {O : Addr → Prop} {own : Nat → Option Addr} {H H' : Hp} {σ : St} {env : Env} {p : Addr} {o : HO} (E : EnvOk w O own H σ env) (k : Same w H H') (hp : H p = none) (hq : H' p = some o) : EnvOk w (fun b => b = p ∨ O b) own H' σ env :=
  E.grow k (fun a z => .inr z) (fun a z => z.elim (fun e => .inr (e ▸ hp)) .inl) fun a z => z.elim (fun e => ⟨_, e ▸ hq⟩) fun z => k.live a (E.there a z)
theorem or_perm {O : Addr → Prop} {p : Addr} {ps : List Addr} (a : Addr) : ((a = p ∨ O a) ∨ a ∈ ps) ↔ (O a ∨ a ∈ p :: ps) := by
  rw [List.mem_cons]
  constructor
  · rintro ((h | h) | h)
    · exact .inr (.inl h)
    · exact .inl h
    · exact .inr (.inr h)
  · rintro (h | h | h)
    · exact .inl (.inr h)
    · exact .inl (.inl h)
    · exact .inr h
theorem rf_l {f : Env → Option (List D)} (h : REF X e f) (hr : RAF X es g) (hs : starEach (e :: es) X.env = (false, eval e X.env) :: starEach es X.env := by rfl) : RAF X (e :: es) (fCons (fL f) g) := by
  refine paI (pa_cons h hr hs) fun σ H Q ⟨O, own, env, cs, E, e, q⟩ => ?_
  obtain ⟨c, r, h1, h2, rfl⟩ := aCons_some e
  unfold fL at h1
  split at h1
  · rename_i ds hd
    cases h1
    refine ⟨O, own, env, ds, E, hd, fun p xs H1 k1 hp hq r1 => ⟨_, own, env, r, grow1 E k1 hp hq, h2, fun vs H2 ps k2 fr nd ra => ?_⟩⟩
    have np : p ∉ ps := fun m => by rw [fr p m] at hq; cases hq
    refine q (.ref p :: vs) H2 (p :: ps) (k1.trans k2) (fun a m => ?_) (List.nodup_cons.mpr ⟨np, nd⟩) ?_
    · rcases List.mem_cons.mp m with z | z
      · rw [z]; exact hp
      · exact k1.free (fr a z)
    · rw [hid_congr fun a => or_perm a] at ra
      refine .ol (k2.ap hq) ?_ ra
      rw [← hid_congr fun a => or_perm a]
      exact r1.mono (hid_more k2.sub fr)
  · cases h1
theorem rf_n {f : Env → Option (List (D × D))} (h : REFN X e f) (hr : RAF X es g) (hs : starEach (e :: es) X.env = (false, eval e X.env) :: starEach es X.env := by rfl) : RAF X (e :: es) (fCons (fN f) g) := by
  refine paI (pa_cons h hr hs) fun σ H Q ⟨O, own, env, cs, E, e, q⟩ => ?_
  obtain ⟨c, r, h1, h2, rfl⟩ := aCons_some e
  unfold fN at h1
  split at h1
  · rename_i ds hd
    cases h1
    refine ⟨O, own, env, ds, E, hd, fun p xs H1 k1 hp hq r1 => ⟨_, own, env, r, grow1 E k1 hp hq.choose_spec, h2, fun vs H2 ps k2 fr nd ra => ?_⟩⟩
    have np : p ∉ ps := fun m => by obtain ⟨_, z⟩ := hq; rw [fr p m] at z; cases z
    refine q (.ref p :: vs) H2 (p :: ps) (k1.trans k2) (fun a m => ?_) (List.nodup_cons.mpr ⟨np, nd⟩) ?_
    · rcases List.mem_cons.mp m with z | z
      · rw [z]; exact hp
      · exact k1.free (fr a z)
    · rw [hid_congr fun a => or_perm a] at ra
      refine .on (hq.mono k2.sub) ?_ ra
      rw [← hid_congr fun a => or_perm a]
      exact r1.mono (hid_more k2.sub fr)
  · cases h1
end
/-! ### the names get them -/
def setAll (σ : St) : List Nat → List V → St
  | i :: is, v :: vs => setAll (σ.set i (some v)) is vs
  | _, _ => σ
def setAllE (env : Env) : List Nat → List C → Env
  | i :: is, v :: vs => setAllE (env.set i (some v)) is vs
  | _, _ => env
theorem par_set {w : W2} {O : Addr → Prop} {H : Hp} : ∀ {vs : List V} {cs : List C} {ps : List Addr} (is : List Nat) (own : Nat → Option Addr) (σ : St) (env : Env), FrA w (hid O H) H vs cs ps → ps.Nodup → (∀ p ∈ ps, O p) → EnvOk w O own H σ env → (∀ p ∈ ps, ∀ j, own j ≠ some p) →
    ∃ own', EnvOk w O own' H (setAll σ is vs) (setAllE env is cs) ∧ ∀ i a, own' i = some a → own i = some a ∨ a ∈ ps
  | _, _, _, [], own, σ, env, fr, nd, hO, E, no => ⟨own, by unfold setAll setAllE; exact E, fun i a h => .inl h⟩
  | _, _, _, i :: is, own, σ, env, .nil, nd, hO, E, no => ⟨own, by unfold setAll setAllE; exact E, fun i a h => .inl h⟩
  | _, _, _, i :: is, own, σ, env, .c r fr, nd, hO, E, no => by
    unfold setAll setAllE
    exact par_set is own _ _ fr nd hO (E.set i r) no
  | _, _, _, i :: is, own, σ, env, @FrA.ol _ _ _ p xs vs ds cs ps e r fr, nd, hO, E, no => by
    unfold setAll setAllE
    obtain ⟨n1, n2⟩ := List.nodup_cons.mp nd
    obtain ⟨own', E', h⟩ := par_set is _ _ _ fr n2 (fun q m => hO q (List.mem_cons_of_mem _ m)) (E.setOwn i (hO p List.mem_cons_self) (no p List.mem_cons_self) e r) (fun q m j z => by
      by_cases hj : j = i
      · rw [if_pos hj] at z; cases z; exact n1 m
      · rw [if_neg hj] at z; exact no q (List.mem_cons_of_mem _ m) j z)
    refine ⟨own', E', fun j a z => ?_⟩
    rcases h j a z with q | q
    · by_cases hj : j = i
      · rw [if_pos hj] at q; cases q; exact .inr List.mem_cons_self
      · rw [if_neg hj] at q; exact .inl q
    · exact .inr (List.mem_cons_of_mem _ q)
  | _, _, _, i :: is, own, σ, env, @FrA.on _ _ _ p ks vs kvs cs ps e r fr, nd, hO, E, no => by
    unfold setAll setAllE
    obtain ⟨n1, n2⟩ := List.nodup_cons.mp nd
    obtain ⟨own', E', h⟩ := par_set is _ _ _ fr n2 (fun q m => hO q (List.mem_cons_of_mem _ m)) (E.setOwnN i (hO p List.mem_cons_self) (no p List.mem_cons_self) e r) (fun q m j z => by
      by_cases hj : j = i
      · rw [if_pos hj] at z; cases z; exact n1 m
      · rw [if_neg hj] at z; exact no q (List.mem_cons_of_mem _ m) j z)
    refine ⟨own', E', fun j a z => ?_⟩
    rcases h j a z with q | q
    · by_cases hj : j = i
      · rw [if_pos hj] at q; cases q; exact .inr List.mem_cons_self
      · rw [if_neg hj] at q; exact .inl q
    · exact .inr (List.mem_cons_of_mem _ q)
def sPar (is : List Nat) (f : Env → Option (List C)) : Env → Option Out := fun env => match f env with
  | some cs => match lenIs cs is.length with
    | true => some (.nx (setAllE env is cs))
    | false => none
  | none => none
/-- the reading of the statement -/
def tParN (is : List Nat) (ta : TA) : TS := fun D σ H => ta σ H fun vs H1 => vs.length = is.length ∧ D.nx (setAll σ is vs) H1
section
variable {X : Cx} {pos : Pos} {f : Env → Option (List C)}
theorem rs_parI {st : Stmt} {is : List Nat} (h : PS X st (tParN is (tAF (wX X) f))) : RS X st (sPar is f) := by
  refine psI h fun D σ H ⟨H0, B, env, out, ⟨⟨O, own, E, b1, b2, b3⟩, base⟩, e, q, qr⟩ => ?_
  unfold sPar at e
  split at e
  · rename_i cs h1
    split at e
    · rename_i h2
      cases e
      refine ⟨O, own, env, cs, E, h1, fun vs H' ps k fr nd ra => ⟨ra.len.trans (lenIs_ok h2), q _ _ _ rfl ?_⟩⟩
      have there : ∀ {vs : List V} {cs : List C} {ps : List Addr} {G : Hp}, FrA (wX X) G H' vs cs ps → ∀ p ∈ ps, ∃ o, H' p = some o := by
        intro vs cs ps G z
        induction z with
        | nil => intro p m; cases m
        | c _ _ ih => exact ih
        | ol e _ _ ih => intro p m; rcases List.mem_cons.mp m with z | z; exact ⟨_, z ▸ e⟩; exact ih p z
        | on e _ _ ih => intro p m; rcases List.mem_cons.mp m with z | z; exact z ▸ e.some; exact ih p z
      have E1 : EnvOk (wX X) (fun a => O a ∨ a ∈ ps) own H' σ env := E.grow k (fun a z => .inl z) (fun a z => z.elim .inl fun m => .inr (fr a m)) fun a z => z.elim (fun z => k.live a (E.there a z)) fun m => there ra a m
      have nO : ∀ p ∈ ps, ¬ O p := fun p m => fresh_of E.there (fr p m)
      obtain ⟨own', E', h⟩ := par_set is own σ env ra nd (fun p m => .inr m) E1 fun p m j z => nO p m (E.inO j p z)
      refine ⟨⟨_, own', E', fun a z => .inl (b1 a z), fun i a z => ?_, fun a z => ?_⟩, base.trans k.sub⟩
      · rcases h i a z with y | y
        · exact b2 i a y
        · exact fun w => nO a y (b1 a w)
      · rcases z with z | z
        · exact b3 a z
        · exact .inr (base.free (fr a z))
    · cases e
  · cases e
theorem rs_par2 {i j : Nat} {x y : Str} {a b : Expr} {px py pt : Pos} {kt k2 pt2} (hc : X.calm = true) (hN : X.N.Nodup) (hi : X.N[i]? = some x) (hj : X.N[j]? = some y) (hij : i ≠ j)
    (hx : X.env.scope.names.lookup x = some .local) (hy : X.env.scope.names.lookup y = some .local) (ha : RAF X [a, b] f)
    (hw : swappedStores [.Tuple [.Name x px, .Name y py] kt pt] (.Tuple [a, b] k2 pt2) X.env = pure (some [x, y]))
    (hs : swapsWithSole [.Tuple [.Name x px, .Name y py] kt pt] (.Tuple [a, b] k2 pt2) pos.line X.env = pure false := by rfl) :
    RS X (.Assign [.Tuple [.Name x px, .Name y py] kt pt] (.Tuple [a, b] k2 pt2) pos) (sPar [i, j] f) :=
  rs_parI (psI (ps_par hc hN hi hj hij hx hy ha hw hs) fun D σ H h => by
    obtain ⟨O, own, env, cs, E, e, q⟩ := h
    refine ⟨O, own, env, cs, E, e, fun vs H' ps k fr nd ra => ?_⟩
    obtain ⟨hl, q⟩ := q vs H' ps k fr nd ra
    match vs, hl, q with
    | [v, w], _, q => exact ⟨v, w, rfl, q⟩)
theorem ps_par3 {i j k : Nat} {x y z : Str} {a b c : Expr} {ta : TA} {px py pz pt : Pos} {kt k2 pt2} (hc : X.calm = true) (hN : X.N.Nodup) (hi : X.N[i]? = some x) (hj : X.N[j]? = some y) (hk : X.N[k]? = some z) (hij : i ≠ j) (hik : i ≠ k) (hjk : j ≠ k)
    (hx : X.env.scope.names.lookup x = some .local) (hy : X.env.scope.names.lookup y = some .local) (hz : X.env.scope.names.lookup z = some .local) (ha : PA X [a, b, c] ta)
    (hw : swappedStores [.Tuple [.Name x px, .Name y py, .Name z pz] kt pt] (.Tuple [a, b, c] k2 pt2) X.env = pure (some [x, y, z]))
    (hs : swapsWithSole [.Tuple [.Name x px, .Name y py, .Name z pz] kt pt] (.Tuple [a, b, c] k2 pt2) pos.line X.env = pure false := by rfl) :
    PS X (.Assign [.Tuple [.Name x px, .Name y py, .Name z pz] kt pt] (.Tuple [a, b, c] k2 pt2) pos) (tParN [i, j, k] ta) := by
  refine ⟨fun pins s σ H D I h => ?_⟩
  rw [exec_Assign_arm]
  refine wpAny_bind (wpAny_standAt ?_)
  rw [hs]
  refine wpAny_bind (wpAny_pure ?_)
  rw [if_neg (by decide)]
  refine wpAny_bind (PyProof.Rows.Tuple_ (thn (ha.run _ pins s σ H _ I h) fun us s1 ⟨vs, H1, I1, r1, hl, q1⟩ => ?_))
  obtain ⟨v, w, t, rfl⟩ : ∃ v w t, vs = [v, w, t] := by
    match vs, hl with
    | [v, w, t], _ => exact ⟨v, w, t, rfl⟩
  obtain ⟨u1, u2, u3, rfl, rv, rw', rt⟩ : ∃ u1 u2 u3, us = [u1, u2, u3] ∧ RelV v u1 ∧ RelV w u2 ∧ RelV t u3 := by
    cases r1 with
    | cons p q =>
      cases q with
      | cons p' q' =>
        cases q' with
        | cons p2 q2 =>
          cases q2
          exact ⟨_, _, _, rfl, p, p', p2⟩
  refine wpAny_newObj_type ?_ (by show 3 ≤ sizeLine; decide)
  have I2 : Inv X pins σ H1 { s1 with heap := s1.heap.push { cls := .type "tuple", data := .seq [u1, u2, u3].toArray } } := I1.kept (t' := s1.toks) fun b o e => Heap.get?_push_of_some _ e
  rw [hw]
  refine wpAny_bind (wpAny_pure ?_)
  show wpAny (model X.prog X.w) X.A (do rule "assign.swapped-stores"; let items ← unpackItems (.ref s1.heap.objs.size) 3 none; assignInOrder [fun v => bindName X.env z v, fun v => bindName X.env y v, fun v => bindName X.env x v] items.reverse; pure Flow.next) _ _ _
  refine wpAny_bind (wpAny_rule (wpAny_bind (PyProof.Rows.unpackItems_tuple (items := #[u1, u2, u3]) (I.ok.hd hc) (PyProof.Rows.IsTup.new s1.heap _) fun h' hx' => ?_)))
  have I3 := I2.kept (h' := h') (t' := s1.toks) fun b o e => hx' b o (Nat.ne_of_lt (Heap.lt_size e)) e
  show wpAny _ _ (assignInOrder [fun v => bindName X.env z v, fun v => bindName X.env y v, fun v => bindName X.env x v] [u3, u2, u1] >>= fun _ => pure Flow.next) _ _ _
  refine wpAny_bind (PyProof.Rows.assignInOrder_cons (wpAny_bindName (store_ok I3 hN hk (.inl hz) rt (fun s2 I4 => ?_) (.inr hz))))
  refine PyProof.Rows.assignInOrder_cons (wpAny_bindName (store_ok I4 hN hj (.inl hy) rw' (fun s3 I5 => ?_) (.inr hy)))
  refine PyProof.Rows.assignInOrder_cons (wpAny_bindName (store_ok I5 hN hi (.inl hx) rv (fun s3 I6 => PyProof.Rows.assignInOrder_nil (wpAny_pure ?_)) (.inr hx)))
  refine ⟨_, H1, I6, ?_⟩
  have e : ((σ.set k (some t)).set j (some w)).set i (some v) = setAll σ [i, j, k] [v, w, t] := by
    show _ = ((σ.set i (some v)).set j (some w)).set k (some t)
    rw [List.set_comm _ _ (Ne.symm hjk), List.set_comm _ _ (Ne.symm hik), List.set_comm _ _ (Ne.symm hij)]
  rw [e]
  exact q1
theorem rs_par3 {i j k : Nat} {x y z : Str} {a b c : Expr} {px py pz pt : Pos} {kt k2 pt2} (hc : X.calm = true) (hN : X.N.Nodup) (hi : X.N[i]? = some x) (hj : X.N[j]? = some y) (hk : X.N[k]? = some z) (hij : i ≠ j) (hik : i ≠ k) (hjk : j ≠ k)
    (hx : X.env.scope.names.lookup x = some .local) (hy : X.env.scope.names.lookup y = some .local) (hz : X.env.scope.names.lookup z = some .local) (ha : RAF X [a, b, c] f)
    (hw : swappedStores [.Tuple [.Name x px, .Name y py, .Name z pz] kt pt] (.Tuple [a, b, c] k2 pt2) X.env = pure (some [x, y, z]))
    (hs : swapsWithSole [.Tuple [.Name x px, .Name y py, .Name z pz] kt pt] (.Tuple [a, b, c] k2 pt2) pos.line X.env = pure false := by rfl) :
    RS X (.Assign [.Tuple [.Name x px, .Name y py, .Name z pz] kt pt] (.Tuple [a, b, c] k2 pt2) pos) (sPar [i, j, k] f) :=
  rs_parI (ps_par3 hc hN hi hj hk hij hik hjk hx hy hz ha hw hs)
end
end Ev

set_option Elab.async false
set_option linter.all false
set_option autoImplicit false
set_option maxRecDepth 100000
set_option maxHeartbeats 4000000
/-! Ev12: dicts walked, made by comprehensions; enumerate of a tuple -/
namespace Ev
open PySem PySem.Spec L2

/-! ### for k in d -/
def Itkn (w : World) (d : Addr) (ks : List (NestedKey × Addr × V)) (ep : Nat) : It :=
  ⟨fun i H => H d = some (DN w d ks ep) ∧ i < ks.length, fun i H x H' => H' = H ∧ ∃ k b v, ks[i]? = some (k, b, v) ∧ x = .ref b, fun i H => H d = some (DN w d ks ep) ∧ ks.length ≤ i⟩
theorem dn_raw {X : Cx} {pins : List (Addr × Obj)} {σ : St} {H : Hp} {s : Shared} {d : Addr} {ks : List (NestedKey × Addr × V)} {ep : Nat} (I : Inv X pins σ H s) (h : H d = some (DN X.w d ks ep)) :
    (d == sysModules) = false ∧ ∃ o es, s.heap.get? d = some o ∧ o.ExactDict ∧ o.data = .dict es ep ∧ es.size = ks.length ∧ ∀ (i : Nat) (k : NestedKey) (b : Addr) (v : V), ks[i]? = some (k, b, v) → ∃ en, es[i]? = some en ∧ en.key = .ref b ∧ RelV v en.val := by
  obtain ⟨⟨xs, p, z, hl, o, es, e1, e2, e3, e4, e5⟩, _⟩ := I.hok d _ h
  refine ⟨z, o, es, e1, e2, e3, ?_, fun i k b v e => ?_⟩
  · have l1 : es.size = xs.length := by rw [← Array.length_toList, e4, List.length_map]
    have l2 := KV3.length p
    omega
  · obtain ⟨y, hy, h1, h2, h3⟩ := paired_get p e
    refine ⟨⟨y.1.hash X.w, .ref y.2.1, y.2.2⟩, ?_, ?_, h3⟩
    · rw [← Array.getElem?_toList, e4, List.getElem?_map, hy]
      rfl
    · have h2 : b = y.2.1 := h2
      rw [h2]
theorem turn_kn {P : Program} {w : World} {K : PySem.W.Frag} {tg : Expr} {d : Addr} {ep : Nat} {ks : List (NestedKey × Addr × V)} (it : Addr) : Turn P w K tg (Itkn w d ks ep) [it] it (fun i h => h.IsKeyIter it d i ks.length ep) where
  mem := by simp
  obj := fun i h st b hb => by
    have e : b = it := by simpa using hb
    subst e
    obtain ⟨oi, e, c, dd⟩ := st
    exact ⟨oi, e, fun v z => by rw [dd] at z; cases z⟩
  keep := fun i h h' st k => st.at fun oi e => k it (by simp) oi e
  item := by
    intro X hP hw hK hc i pins s σ H E I hf st hg
    subst hP hw hK
    obtain ⟨hd, hi⟩ := hg
    obtain ⟨f0, f1, f2, f3, f4, f5⟩ := hf it (by simp)
    obtain ⟨hs, o, es, hgd, hx, hdt, hsz, ent⟩ := dn_raw I hd
    obtain ⟨⟨k, b, v⟩, hkv⟩ : ∃ p, ks[i]? = some p := ⟨ks[i], List.getElem?_eq_getElem hi⟩
    obtain ⟨en, hen, hkey, hv⟩ := ent i k b v hkv
    refine next_key_item st hgd hdt hsz hen fun h' st' sb => ?_
    have I1 : Inv X pins σ H { s with heap := h' } := I.turned (t' := s.toks) (fun b ob hb e => (sb.2 b hb).trans e) f0 f1 f3 f4 f5
    obtain ⟨oi, e, c, dd⟩ := id st'
    exact ⟨en.key, rfl, go_of (s := { s with heap := h' }) e c dd (by decide) ⟨.ref b, H, I1, hkey, ⟨rfl, k, b, v, hkv, rfl⟩, st', fun b hb => (hf b hb).1⟩⟩
  done := by
    intro X hP hw hK hc i pins s σ H E I hf st hg
    subst hP hw hK
    obtain ⟨hd, hi⟩ := hg
    obtain ⟨f0, f1, f2, f3, f4, f5⟩ := hf it (by simp)
    obtain ⟨hs, o, es, hgd, hx, hdt, hsz, ent⟩ := dn_raw I hd
    exact next_key_end (I.ok.hd hc) st hgd hdt hsz hi fun h' eb => ⟨rfl, I.turned (t' := s.toks) (fun b ob hb e => eb b ob hb e) f0 f1 f3 f4 f5⟩
  self := fun A i s Q E st h => by
    refine wpAny_pyIter_slot st.typeIs PySem.F.slot_dict_keyiterator_iter (wpAny_call_entry PySem.F.slot_dict_keyiterator_iter st.typeIs PySem.F.entry_dict_keyiterator_iter ?_ (PySem.F.args_dict_keyiterator_iter_1 _))
    show wpAny _ _ (ret (.ref it)) _ _ s
    exact wpAny_pure ⟨_, rfl, "dict_keyiterator", _, st.typeIs, PySem.F.slot_dict_keyiterator_next.lookup, h⟩
theorem RpK.get {H : Hp} : ∀ {ks : List (NestedKey × Addr × V)} {kvs : List (D × D)} {i : Nat} {d e : D}, RpK H ks kvs → kvs[i]? = some (d, e) → ∃ k b v, ks[i]? = some (k, b, v) ∧ Rp H (.ref b) d ∧ Rp H v e
  | _, _, _, _, _, .nil, h => by simp at h
  | _, _, 0, _, _, .cons h1 h2 h3 h4 _, h => by simp at h; obtain ⟨rfl, rfl⟩ := h; exact ⟨_, _, _, rfl, h3, h4⟩
  | _, _, i + 1, _, _, .cons h1 h2 h3 h4 r, h => by simpa using RpK.get (i := i) r (by simpa using h)
def keysD : List (D × D) → List D
  | [] => []
  | (k, _) :: r => k :: keysD r
theorem keysD_get : ∀ (kvs : List (D × D)) (i : Nat) (d : D), (keysD kvs)[i]? = some d → ∃ e, kvs[i]? = some (d, e)
  | [], _, _, h => by simp [keysD] at h
  | (k, v) :: r, 0, d, h => by simp [keysD] at h; subst h; exact ⟨v, rfl⟩
  | (k, v) :: r, i + 1, d, h => by simpa using keysD_get r i d (by simpa [keysD] using h)
theorem keysD_length : ∀ kvs : List (D × D), (keysD kvs).length = kvs.length
  | [] => rfl
  | (k, v) :: r => congrArg (· + 1) (keysD_length r)
theorem wk_keys {w : World} {G : Hp} {d : Addr} {ks : List (NestedKey × Addr × V)} {kvs : List (D × D)} {ep : Nat} (h : G d = some (DN w d ks ep)) (r : RpK G ks kvs) : Wk G (Itkn w d ks ep) (keysD kvs) := by
  intro i H O k th
  have hq : H d = some (DN w d ks ep) := hid_ap (k.ap h)
  refine ⟨fun x e => ?_, fun hl => ⟨hq, by rw [r.length]; rw [keysD_length] at hl; exact hl⟩⟩
  obtain ⟨y, e1⟩ := keysD_get _ _ _ e
  obtain ⟨kk, b, v, e2, r1, r2⟩ := r.get e1
  refine ⟨⟨hq, (List.getElem?_eq_some_iff.mp e2).1⟩, fun x' H' ⟨e3, k2, b2, v2, e4, e5⟩ => ?_⟩
  subst e3 e5
  rw [e2] at e4
  cases e4
  exact ⟨fun _ => Same.refl _, r1.mono k⟩
section
variable {X : Cx} {tg e : Expr}
/-- what is walked is frozen -/
def eFrN (f : Env → Option C) : Env → Option (List (D × D)) := eToN f
def itN (f : Env → Option C) : Env → Option (List D) := fun env => match f env with
  | some (.dn kvs) => some (keysD kvs)
  | _ => none
theorem ri_keys {f : Env → Option C} (h : REC X e f) : RI X tg e (itN f) := by
  refine ⟨fun pins s σ H R I ⟨O, own, env, ds, E, e, q⟩ => ?_⟩
  unfold itN at e
  split at e
  · rename_i kvs h1
    cases e
    refine thn (h.run pins s σ H (fun x H1 => ∃ a ks ep, x = .ref a ∧ Same (wX X) H H1 ∧ hid O H1 a = some (DN X.w a ks ep) ∧ RpK (hid O H1) ks kvs) I ⟨O, own, env, _, E, h1, fun v H1 k r => by
      cases r with
      | dn e r => obtain ⟨ep, e⟩ := e; exact ⟨_, _, ep, rfl, k, e, r⟩⟩) fun u s1 ⟨x, H1, I1, rx, a, ks, ep, ex, k, e1, r1⟩ => ?_
    subst ex
    obtain rfl : u = Value.ref a := rx
    obtain ⟨hs, o, es, hgd, hx, hdt, hsz, ent⟩ := dn_raw I1 (hid_ap e1)
    refine iter_keys hs hgd hx hdt (pi_one (tk := s1.toks) I1 _ (turn_kn _) ⟨_, Heap.get?_push_size _ rfl, rfl, ?_⟩ (q _ H1 k (wk_keys e1 r1)))
    rw [hsz] <;> rfl
  · cases e
end

/-! ### enumerate(tuple) -/
theorem meets_enumerate_newT (l : Addr) (items : Array Value) :
    Meets (Builtin.«enumerate.__new__» ⟨[.type "enumerate", .ref l], []⟩) (fun _ R s => s.heap.IsTuple l items ∧
      R (.ok (.ret (.ref (s.heap.push { cls := .type "tuple_iterator", data := .fields #[.ref l, .int 0 0] }).objs.size)))
        { s with heap := (s.heap.push { cls := .type "tuple_iterator", data := .fields #[.ref l, .int 0 0] }).push { cls := .type "enumerate", data := .fields #[.none, .bool false, .ref s.heap.objs.size, rawInt 0, .none, .none] } }) :=
  .of_wp fun prog w A R s h => by
    obtain ⟨hp, g, d, tk, os⟩ := s; obtain ⟨hL, h⟩ := h
    have hsub := sub_enumerate
    have q1 : ∀ {A' : Around} {E : Value → Shared → Prop} {Q : Value → Shared → Prop}, Q (.ref hp.objs.size) ⟨(hp.push { cls := .type "tuple_iterator", data := .fields #[.ref l, .int 0 0] }), g, d, tk, os⟩ → wpAny (model prog w) A' (pyIter (.ref l)) Q E ⟨hp, g, d, tk, os⟩ :=
      fun q => wpAny_pyIter_tuple (s := ⟨hp, g, d, tk, os⟩) hL q
    wp_walk using q1
    refine wpAny_stack_any fun st => wpAny_pure ?_
    split
    · rename_i c _ _ _ _ _
      cases (c == Value.type "enumerate")
      · wp_walk using q1
        exact ⟨_, rfl, h⟩
      · wp_walk using q1
        exact ⟨_, rfl, h⟩
    · wp_walk using q1
      exact ⟨_, rfl, h⟩
section
variable {prog : Program} {w : World} {A : Around} {E : Value → Shared → Prop} {s : Shared}
theorem call_enumerate_tuple {l : Addr} {items : Array Value} {Q : Value → Shared → Prop} (hL : s.heap.IsTuple l items)
    (h : ∀ h', IsEnum h' (s.heap.objs.size + 1) s.heap.objs.size 0 .none → h'.IsTupleIter s.heap.objs.size l 0 → h'.objs.size = s.heap.objs.size + 2 →
      (∀ b o, s.heap.get? b = some o → h'.get? b = some o) → Q (.ref (s.heap.objs.size + 1)) { s with heap := h' }) :
    wpAny (model prog w) A (call (.type "enumerate") [.ref l]) Q E s := by
  refine callType_new PySem.F.called_enumerate (by decide) (PySem.F.typeCall_enumerate_1 _) (PySem.F.newCall_enumerate_1 _) (fun obj => PySem.F.args_object_init_2 obj _) PySem.F.entry_enumerate_new
    (meets_enumerate_newT l items) ⟨hL, ?_⟩
  have hz : (s.heap.push { cls := .type "tuple_iterator", data := .fields #[.ref l, .int 0 0] }).objs.size = s.heap.objs.size + 1 := Heap.size_push ..
  show _ ∧ _
  rw [hz]
  have he : IsEnum ((s.heap.push { cls := .type "tuple_iterator", data := .fields #[.ref l, .int 0 0] }).push
      { cls := .type "enumerate", data := .fields #[.none, .bool false, .ref s.heap.objs.size, rawInt 0, .none, .none] }) (s.heap.objs.size + 1) s.heap.objs.size 0 .none := by
    have := Heap.get?_push_size (s.heap.push { cls := .type "tuple_iterator", data := .fields #[.ref l, .int 0 0] })
      (o := { cls := .type "enumerate", data := .fields #[.none, .bool false, .ref s.heap.objs.size, rawInt 0, .none, .none] }) rfl
    rw [hz] at this; exact this
  refine ⟨⟨_, he, rfl⟩, h _ he ⟨_, Heap.get?_push_of_some _ (Heap.get?_push_size _ rfl), rfl, rfl⟩ (by rw [Heap.size_push, hz]) fun b o x => Heap.get?_push_of_some _ (Heap.get?_push_of_some _ x)⟩
end
/-- the pairs (i, x) of the tuple at a -/
def IteT (K : PySem.W.Frag) (a : Addr) : It :=
  ⟨fun i H => ∃ (xs : List V) (x : V), SqT K H a xs ∧ xs[i]? = some x, fun i H v H' => ∃ T x, v = .ref T ∧ H T = none ∧ H' = upd H T (.tup [.int (i : Nat), x]) ∧ ∀ xs, SqT K H a xs → xs[i]? = some x, fun i H => ∃ xs : List V, SqT K H a xs ∧ xs.length ≤ i⟩
theorem turn_enumT {P : Program} {w : World} {K : PySem.W.Frag} {elts : List Expr} {kk : Nat} {tpos : Pos} (a e it : Addr) (hai : a ≠ it) :
    Turn P w K (.Tuple elts kk tpos) (IteT K a) [e, it] e (fun i h => (∃ old, IsEnum h e it ((i : Nat) : Int) old) ∧ h.IsTupleIter it a i ∧ e ≠ it) where
  mem := by simp
  obj := fun i h st b hb => by
    obtain ⟨⟨old, he⟩, ⟨o, ho, hc, hd⟩, _⟩ := st
    have e' : b = e ∨ b = it := by simpa using hb
    rcases e' with z | z
    · rw [z]; exact ⟨_, he, fun v q => nomatch q⟩
    · rw [z]; exact ⟨o, ho, fun v q => by rw [hd] at q; cases q⟩
  keep := fun i h h' st k => let ⟨⟨old, he⟩, hi, hne⟩ := st; ⟨⟨old, k e (by simp) _ he⟩, hi.at fun o q => k it (by simp) o q, hne⟩
  item := by
    intro X hP hw hK hc i pins s σ H E I hf st hg
    subst hP hw hK
    obtain ⟨⟨old, he⟩, hit, hne⟩ := st
    obtain ⟨xs, x, hq, hx⟩ := hg
    obtain ⟨its, rv, p, hz⟩ := I.tuple hq
    have p : s.heap.IsTuple a its.toArray := p
    obtain ⟨u, hu, ru⟩ := rv.get hx
    have hel : e < s.heap.objs.size := Heap.lt_size he
    have hil : it < s.heap.objs.size := by obtain ⟨_, q, _⟩ := hit; exact Heap.lt_size q
    have hea : e ≠ a := by
      intro z
      subst z
      obtain ⟨o, h1, h2, _⟩ := p
      rw [he] at h1
      cases h1
      have h3 : Value.type "enumerate" = Value.type "tuple" := h2
      injection h3 with z
      exact absurd z (by decide)
    refine wpAny_pyNext_enum_itemD (Draws.tuple (A := X.A.in1) (I.ok.hd hc) it a hai its.toArray) he ⟨hit, p⟩ (by have := (List.getElem?_eq_some_iff.mp hu).1; simpa using this) hne (by simp; exact ⟨hne, hea⟩) fun x' h' tk hP' ho hst hT hsz hk => ?_
    obtain ⟨hit', p'⟩ := hst
    obtain rfl : u = x' := by
      have : its.toArray[i]? = some x' := hP'
      rw [List.getElem?_toArray, hu] at this
      exact Option.some.inj this
    refine ⟨_, rfl, wpAny_letOwnedTupleGo_enum (s := { s with heap := h', toks := tk + 1 }) ho fun h'' he' sb => ?_⟩
    have hT2 : h''.get? s.heap.objs.size = some { cls := .type "tuple", data := .seq #[.int i tk, u] } := (sb.2 _ (Nat.ne_of_gt hel)).trans hT
    have new : ObjOk X.prog X.w (upd H s.heap.objs.size (.tup [.int (i : Nat), x])) h'' s.heap.objs.size (.tup [.int (i : Nat), x]) :=
      ⟨by show 2 ≤ sizeLine; decide, [.int i tk, u], .cons ⟨_, rfl⟩ (.cons ru .nil), ⟨_, hT2, rfl, _, rfl⟩⟩
    have I1 : Inv X pins σ (upd H s.heap.objs.size (.tup [.int (i : Nat), x])) { s with heap := h'', toks := tk + 1 } :=
      I.turnedNew (ch := [e, it]) (fun b ob hb q => (sb.2 b (fun z => hb (by simp [z]))).trans (hk b ob (fun z => hb (by simp [z])) (fun z => hb (by simp [z])) q)) hf (Nat.le_refl _) new
    refine ⟨.ref s.heap.objs.size, _, I1, rfl, ⟨_, x, rfl, I.hok.fresh (Nat.le_refl _), rfl, fun ys hy => by rw [I.tuple_inj hy hq]; exact hx⟩, ⟨⟨u, ?_⟩, hit'.at fun o q => (sb.2 it (Ne.symm hne)).trans q, hne⟩, fun b hb => ?_⟩
    · have e1 : ((i + 1 : Nat) : Int) = (i : Int) + 1 := by omega
      rw [e1]; exact he'
    · have hb' : b < s.heap.objs.size := by
        have e' : b = e ∨ b = it := by simpa using hb
        rcases e' with z | z
        · rw [z]; exact hel
        · rw [z]; exact hil
      rw [upd_ne (Nat.ne_of_lt hb')]
      exact (hf b hb).1
  done := by
    intro X hP hw hK hc i pins s σ H E I hf st hg
    subst hP hw hK
    obtain ⟨⟨old, he⟩, hit, hne⟩ := st
    obtain ⟨xs, hq, hx⟩ := hg
    obtain ⟨its, rv, p, hz⟩ := I.tuple hq
    obtain ⟨f0, f1, f2, f3, f4, f5⟩ := hf it (by simp)
    have hl := rv.length
    have hT : s.TypeIs (.ref e) "enumerate" := ⟨_, he, rfl⟩
    unfold pyNext
    refine wpAny_bind (wpAny_attempt (wpAny_callSpecial?_slot (name := Str.ofString "__next__") hT PySem.F.slot_enumerate_next
      (wpAny_call_entry PySem.F.slot_enumerate_next hT PySem.F.entry_enumerate_next ?_ (PySem.F.args_enumerate_next_1 _))))
    show wpAny _ _ (field (.ref e) 2 >>= _) _ _ _
    refine wpAny_bind (wpAny_field he rfl (x := .ref it) rfl ?_)
    refine wpAny_bind (wpAny_nextOf_tuple_end (I.ok.hd hc) hit (show s.heap.IsTuple a its.toArray from p) (by simp; omega) fun h' x he' hx' => ?_)
    obtain ⟨o, ho, hc⟩ := hx'
    refine wpAny_bind (wpAny_isInstance (T := "StopIteration") (b := true) ⟨o, ho, hc⟩ isSubtype_stop ?_)
    exact wpAny_pure ⟨rfl, I.turned (t' := s.toks) (fun b o hb q => he' b o hb q) f0 f1 f3 f4 f5⟩
  self := fun A i s Q E st h => let ⟨⟨_, he⟩, _⟩ := st; wpAny_pyIter_enum he h
def enumD : Nat → List D → List D
  | _, [] => []
  | i, d :: r => .tup [.int (.ofNat i), d] :: enumD (i + 1) r
theorem enumD_get : ∀ (ds : List D) (j i : Nat) (d : D), (enumD j ds)[i]? = some d → ∃ x, ds[i]? = some x ∧ d = .tup [.int ((j + i : Nat) : Int), x]
  | [], _, _, _, h => by simp [enumD] at h
  | x :: r, j, 0, d, h => by simp [enumD] at h; exact ⟨x, rfl, h.symm⟩
  | x :: r, j, i + 1, d, h => by
    obtain ⟨y, h1, h2⟩ := enumD_get r (j + 1) i d (by simpa [enumD] using h)
    exact ⟨y, by simpa using h1, by rw [h2]; congr 3; omega⟩
theorem enumD_length : ∀ (ds : List D) (j : Nat), (enumD j ds).length = ds.length
  | [], _ => rfl
  | x :: r, j => congrArg (· + 1) (enumD_length r (j + 1))
theorem wk_enumT {K : PySem.W.Frag} {G : Hp} {a : Addr} {xs : List V} {ds : List D} (ha : G a = some (.tup xs)) (ra : RpA G xs ds) : Wk G (IteT K a) (enumD 0 ds) := by
  intro i H O k th
  have hq : H a = some (.tup xs) := hid_ap (k.ap ha)
  refine ⟨fun d e => ?_, fun hl => ⟨xs, SqT.of hq, by rw [ra.length]; rw [enumD_length] at hl; exact hl⟩⟩
  obtain ⟨x, h1, rfl⟩ := enumD_get ds 0 i d e
  obtain ⟨v, e1, rv⟩ := ra.get h1
  refine ⟨⟨xs, v, SqT.of hq, e1⟩, fun z H' ⟨T, x', e3, hT, e4, q1⟩ => ?_⟩
  have := q1 xs (SqT.of hq); rw [e1] at this; cases this
  subst e3 e4
  rw [Nat.zero_add]
  exact ⟨fun _ => Same.upd hT, Rp.newT hT (fresh_of th hT) (.cons (.int _) (.cons (rv.mono k) .nil))⟩
section
variable {X : Cx} {tg e : Expr}
def itE (f : Env → Option D) : Env → Option (List D) := fun env => match f env with
  | some (.tup xs) => some (enumD 0 xs)
  | _ => none
theorem ri_enum {p pos tpos : Pos} {elts : List Expr} {kk : Nat} {f : Env → Option D} (hg : Gl X "enumerate") (hm : X.mg "enumerate" = none) (h : RE X e f) (hs : starEach [e] X.env = [(false, eval e X.env)] := by rfl) :
    RI X (.Tuple elts kk tpos) (.Call (.Name "enumerate" p) [e] [] pos) (itE f) := by
  refine ⟨fun pins s σ H R I ⟨O, own, env, ds, E, e, q⟩ => ?_⟩
  unfold itE at e
  split at e
  · rename_i xs h1
    cases e
    refine PyProof.Rows.Call_ (ld_blt I hg hm PyProof.Rows.boot_enumerate (PyProof.Rows.callWith_type1 (thn ((pa_cons h pa_nil hs).run pos pins s σ H (fun vs H1 => ∃ v, vs = [v] ∧ Same (wX X) H H1 ∧ Rp (hid O H1) v (.tup xs)) I ⟨O, own, env, _, E, h1, fun v H1 k r => ⟨v, rfl, k, r⟩⟩) fun us s1 ⟨vs, H1, I1, rv, v, ev, k1, r1⟩ => ?_) hs rfl))
    subst ev
    cases rv with
    | cons rv rr =>
      cases rr
      cases r1 with
      | @tup a ys _ ea ra =>
        cases rv
        obtain ⟨its, rv, p', hz⟩ := I1.tuple (SqT.of (hid_ap ea))
        have p' : s1.heap.IsTuple a its.toArray := p'
        refine call_enumerate_tuple p' fun h' he hit hsz hk => wpAny_pyIter_enum he ?_
        have I2 : Inv X pins σ H1 { s1 with heap := h' } := I1.kept (t' := s1.toks) hk
        refine ⟨s1.heap.objs.size + 1, [s1.heap.objs.size + 1, s1.heap.objs.size], _, _, H1, rfl, I2, turn_enumT a (s1.heap.objs.size + 1) s1.heap.objs.size ?_, ⟨⟨.none, he⟩, hit, Nat.succ_ne_self _⟩, fun b hb => ?_, q _ H1 k1 (wk_enumT ea ra)⟩
        · obtain ⟨o, h1, _⟩ := p'
          exact Nat.ne_of_lt (Heap.lt_size h1)
        · have e' : b = s1.heap.objs.size + 1 ∨ b = s1.heap.objs.size := by simpa using hb
          have hle : s1.heap.objs.size ≤ b := by
            rcases e' with z | z
            · rw [z]; exact Nat.le_add_right _ _
            · rw [z]; exact Nat.le_refl _
          exact I1.fpOk hle (I1.hok.fresh hle)
  · cases e
end
end Ev

set_option Elab.async false
set_option linter.all false
set_option autoImplicit false
set_option maxRecDepth 100000
set_option maxHeartbeats 4000000
/-! Ev13: dict comprehensions -/
namespace Ev
open PySem PySem.Spec L2
section
variable {X : Cx}
abbrev TPut := Addr → V → V → Hp → (Hp → Prop) → Prop
/-- the new dict at D starts as o0 -/
def tDcG (o0 : Addr → HO) (put : TPut) (wi : TI) (g : TG) (tt : TT) (tk tv : TE) (vs : List Nat) : TE := fun σ H Q => wi σ H fun J H1 => ∀ D, H1 D = none → ∃ W : Nat → Nat → Hp → Prop, (∃ m, W 0 m (upd H1 D (o0 D))) ∧ ∀ i m H, W i m H →
  (J.stop i H ∧ Q (.ref D) H) ∨ (J.go i H ∧ ∃ Nx : Hp → Prop, (∀ H', Nx H' → ∃ m', m' < m ∧ W (i + 1) m' H') ∧ ∀ x H', J.yld i H x H' → g x (wipe σ vs) H' fun σ2 H2 => wipe σ2 vs = wipe σ vs ∧ tt σ2 H2 fun b H3 =>
    if b = true then tk σ2 H3 fun y H4 => tv σ2 H4 fun z H5 => put D y z H5 Nx else Nx H3)
/-- dictSet by its reading, wherever -/
def PutOk (P : Program) (w : World) (A : Around) (put : TPut) : Prop :=
  ∀ (X : Cx), X.prog = P → X.w = w → X.A = A → ∀ (pins : List (Addr × Obj)) (s : Shared) (σ : St) (H : Hp) (E : Value → Shared → Prop) (D : Addr) (y z : V) (u r : Value) (Nx : Hp → Prop), Inv X pins σ H s → RelV y u → RelV z r → put D y z H Nx →
    wpAny (model P w) A (dictSet D u r) (fun _ s' => ∃ H', Inv X pins σ H' s' ∧ Nx H') E s
theorem dc_coreG {o0 : Addr → HO} {put : TPut} {pins : List (Addr × Obj)} {s : Shared} {σ : St} {H : Hp} {Q : VK} {kx vx tg iter : Expr} {ifs : List Expr} {scope : Scope} {own : List (Str × Nat)} {pos pos' : Pos} {wi : TI} {g : TG} {tt : TT} {tk tv : TE} {use : Option (Value → Sem Unit)} {Qf : Value → Shared → Prop}
    (h0 : ∀ (h : Heap) (H' : Hp), sysModules < h.objs.size → ObjOk X.prog X.w H' (h.push { cls := .type "dict", data := .dict #[] }) h.objs.size (o0 h.objs.size)) (hput : PutOk X.prog X.w X.A put)
    (hc : X.calm = true) (hN : X.N.Nodup) (I : Inv X pins σ H s) (hi : PI X tg iter wi) (ok : BlkOk X.N X.env.scope scope own)
    (hg : ∀ (s : Shared) (H : Hp) (C : Addr) (cl : List (Str × Addr)) (fp : List Addr), PG (X.blk s H scope (compEnvC scope cl C X.env) fp) tg g) (ht : ∀ (s : Shared) (H : Hp) (C : Addr) (cl : List (Str × Addr)) (fp : List Addr), PTs (X.blk s H scope (compEnvC scope cl C X.env) fp) ifs tt)
    (hk : ∀ (s : Shared) (H : Hp) (C : Addr) (cl : List (Str × Addr)) (fp : List Addr), PE (X.blk s H scope (compEnvC scope cl C X.env) fp) kx tk)
    (he : ∀ (s : Shared) (H : Hp) (C : Addr) (cl : List (Str × Addr)) (fp : List Addr), PE (X.blk s H scope (compEnvC scope cl C X.env) fp) vx tv) (hs : ∀ x, foldedSetIterable iter X.env x = pure x)
    (h : tDcG o0 put wi g tt tk tv (own.map (·.2)) σ H Q)
    (hRR : ∀ D C s' m H', Inv X pins σ H' s' → Q (.ref D) H' → s'.heap.Ns C m → FpOk X pins H' C → compPost (model X.prog X.w) X.A X.xe use Qf (.ref D) C (.ok .next) s') :
    wpAny (model X.prog X.w) X.A (comprehension (.DictComp kx vx [⟨tg, iter, ifs, 0⟩] scope pos) scope X.env pos' newDict false (eval iter X.env) use) Qf X.xe s := by
  have hfree : ∀ y ∈ scope.names, y.2 = .free → ∃ c, X.env.cells.lookup y.1 = some c := fun y hy e => by
    rcases ok.free y hy e with k | k
    · exact I.ok.has _ (.inl k)
    · exact I.ok.has _ (.inr k)
  refine wpAny_comprehension_free (use := use) rfl hs (closure_ok hfree) ok.kind (fun y hy e => by rw [ok.uniq y hy, e])
    (thn (hi.run pins s σ H _ I h) fun xv s1 hx => thn hx fun itv s2 h2 => ?_)
  obtain ⟨it, fp, tn, J, H2, e, I2, T, st2, f2, q⟩ := h2
  subst e
  refine wpAny_newObj_type (newEnv_comp ?_)
  generalize hD : s2.heap.objs.size = D
  have hDn : H2 D = none := I2.hok.fresh (Nat.le_of_eq hD)
  obtain ⟨W, ⟨m0, w0⟩, turn⟩ := q D hDn
  -- the new list
  generalize hs3 : ({ s2 with heap := s2.heap.push { cls := .type "dict", data := .dict #[] } } : Shared) = s3
  have I3 : Inv X pins σ (upd H2 D (o0 D)) s3 := by
    rw [← hs3]
    refine I2.laid (t' := s2.toks) (fun b o e => Heap.get?_push_of_some _ e) (Nat.le_of_eq hD) ?_
    rw [← hD]
    exact h0 s2.heap _ I2.big
  have h3 : s3.heap = s2.heap.push { cls := .type "dict", data := .dict #[] } := by rw [← hs3]
  have sz : ∀ b ∈ fp, b < s2.heap.objs.size := fun b hb => by
    obtain ⟨o, e, _⟩ := T.obj _ _ st2 b hb
    exact Heap.lt_size e
  have f3 : ∀ b ∈ fp, FpOk X pins (upd H2 D (o0 D)) b ∧ b < s3.heap.objs.size := fun b hb => by
    have hlt := sz b hb
    refine ⟨⟨?_, (f2 b hb).2⟩, by rw [h3, Heap.size_push]; exact Nat.lt_succ_of_lt hlt⟩
    rw [upd_ne (by rw [← hD]; exact Nat.ne_of_lt hlt)]
    exact (f2 b hb).1
  have st3 : tn 0 s3.heap := T.keep _ _ _ st2 fun b _ o e => by rw [h3]; exact Heap.get?_push_of_some _ e
  have I4 := block_start I3 ok hN f3
  have pg := hg s3 (upd H2 D (o0 D)) s3.heap.objs.size (cellsFrom (s3.heap.objs.size + 1) scope.names (cloFrom X.env.cells scope.names [])) fp
  have pt := ht s3 (upd H2 D (o0 D)) s3.heap.objs.size (cellsFrom (s3.heap.objs.size + 1) scope.names (cloFrom X.env.cells scope.names [])) fp
  have pk := hk s3 (upd H2 D (o0 D)) s3.heap.objs.size (cellsFrom (s3.heap.objs.size + 1) scope.names (cloFrom X.env.cells scope.names [])) fp
  have pe := he s3 (upd H2 D (o0 D)) s3.heap.objs.size (cellsFrom (s3.heap.objs.size + 1) scope.names (cloFrom X.env.cells scope.names [])) fp
  show codeAny _ _ (.compStart (.DictComp kx vx [⟨tg, iter, ifs, 0⟩] scope pos) 0 (.ref it) (.ref D) (compEnvC scope (cellsFrom (s3.heap.objs.size + 1) scope.names (cloFrom X.env.cells scope.names [])) s3.heap.objs.size X.env)) (compPost (model X.prog X.w) X.A X.xe use Qf (.ref D) s3.heap.objs.size) { s3 with heap := pushCells (s3.heap.push { cls := .type "dict", data := .dict #[] }) scope.names }
  have nfp : ∀ b ∈ fp, (upd H2 D (o0 D)) b = none := fun b hb => (f3 b hb).1.1
  generalize hce : compEnvC scope (cellsFrom (s3.heap.objs.size + 1) scope.names (cloFrom X.env.cells scope.names [])) s3.heap.objs.size X.env = ce at I4 pg pt pk pe ⊢
  have cL : ce.locals = s3.heap.objs.size := by subst hce; rfl
  generalize hH3 : upd H2 D (o0 D) = H3 at I3 I4 pg pt pk pe w0 nfp f3
  generalize hs4 : ({ s3 with heap := pushCells (s3.heap.push { cls := .type "dict", data := .dict #[] }) scope.names } : Shared) = s4 at I4 ⊢
  have st4 : tn 0 s4.heap := T.keep _ _ _ st3 fun b _ o e => by rw [← hs4]; exact pushCells_keeps _ _ _ _ (Heap.get?_push_of_some _ e)
  have stat : ∀ {σ' : St} {H' : Hp} {s' : Shared}, Inv (X.blk s3 H3 scope ce fp) [] σ' H' s' → (∀ b ∈ fp, H' b = none) → ∀ b ∈ fp, FpOk (X.blk s3 H3 scope ce fp) [] H' b := fun {σ' H' s'} I' hn b hb =>
    ⟨hn b hb, (I'.ok.exf b hb).1, I'.ok.exfs b hb, .inl hb, fun x c e => (I'.ok.exf b hb).2 x c e, fun p hp => absurd (show p ∈ ([] : List (Addr × Obj)) ++ [] from hp) (by simp)⟩
  have loop : codeAny (model X.prog X.w) X.A (.compLoop (.DictComp kx vx [⟨tg, iter, ifs, 0⟩] scope pos) 0 (.ref it) (.ref D) ce) (compPost (model X.prog X.w) X.A X.xe use Qf (.ref D) s3.heap.objs.size) s4 := by
    refine compLoop_anyD (fun n s' => ∃ i H', Inv (X.blk s3 H3 scope ce fp) [] (wipe σ (own.map (·.2))) H' s' ∧ tn i s'.heap ∧ (∀ b ∈ fp, H' b = none) ∧ W i n H') ?_ m0 ⟨0, H3, I4, st4, nfp, w0⟩
    rintro n s5 ⟨i, H5, I5, st5, n5, w5⟩
    rcases turn i n H5 w5 with ⟨stop, qq⟩ | ⟨go, Nx, hNx, step⟩
    · have td := T.done (X.blk s3 H3 scope ce fp) rfl rfl rfl hc i [] s5 _ H5 (fun _ _ => False) I5 (stat I5 n5) st5 stop
      refine thnF td fun r s6 ⟨hr, I6⟩ => ?_
      subst hr
      -- back in the def's context
      have I7 : Inv X pins σ H5 s6 := I3.call' (ch := fp) I6.os I6.base I6.hok I6.bare fun b hb => ⟨(f3 b hb).1.2.2.2.1, (f3 b hb).1.2.1, (f3 b hb).1.2.2.2.2.1, (f3 b hb).1.2.2.2.2.2⟩
      have nC : H5 s3.heap.objs.size = none := by
        have z : H5 ce.locals = none := I6.free
        rw [cL] at z
        exact z
      obtain ⟨m, hn, _⟩ := I6.loc
      have hn : s6.heap.Ns ce.locals m := hn
      rw [cL] at hn
      exact hRR D s3.heap.objs.size s6 m H5 I7 qq hn (I3.fpOk (Nat.le_refl _) nC)
    · have ti := T.item (X.blk s3 H3 scope ce fp) rfl rfl rfl hc i [] s5 _ H5 (fun _ _ => False) I5 (stat I5 n5) st5 go
      refine thnF ti fun r s6 ⟨u, hr, h6⟩ => ?_
      subst hr
      refine thnF h6 fun _ s7 ⟨x, H7, I7, r7, y7, st7, n7⟩ => ?_
      have I7' := I7.pinned (stat I7 n7) (T.obj _ _ st7)
      refine thnF (pg.run _ s7 _ H7 x u _ I7' r7 (step x H7 y7)) fun _ s8 ⟨σ8, H8, I8, hw8, q8⟩ => ?_
      refine thnF (pt.run _ s8 σ8 H8 _ I8 q8) fun b s9 ⟨H9, I9, q9⟩ => ?_
      -- the turn's end
      have fin : ∀ {s' : Shared} {H' : Hp}, Inv (X.blk s3 H3 scope ce fp) ([] ++ pinsAt fp s7.heap) σ8 H' s' → Nx H' → ∃ m, m < n ∧ ∃ i H', Inv (X.blk s3 H3 scope ce fp) [] (wipe σ (own.map (·.2))) H' s' ∧ tn i s'.heap ∧ (∀ b ∈ fp, H' b = none) ∧ W i m H' := fun {s' H'} I' nx => by
        obtain ⟨m', hm, w'⟩ := hNx H' nx
        have pin' : ∀ b ∈ fp, ∀ o, s7.heap.get? b = some o → s'.heap.get? b = some o ∧ H' b = none := fun b hb o e =>
          let z := I'.pin (b, o) (List.mem_append_right _ (List.mem_append_right _ (mem_pinsAt hb e)))
          ⟨z.1, z.2.1⟩
        have hl : (wipe σ (own.map (·.2))).length = σ8.length := by rw [← hw8, wipe_length]
        refine ⟨m', hm, i + 1, H', (I'.unpinned (pins := [])).weak hl (fun j v e => ?_), T.keep _ _ _ st7 fun b hb o e => (pin' b hb o e).1, fun b hb => ?_, w'⟩
        · rw [← hw8] at e
          exact (wipe_some e).1
        · obtain ⟨o, e, _⟩ := T.obj _ _ st7 b hb
          exact (pin' b hb o e).2
      cases b with
      | false =>
        simp only [Bool.false_eq_true, if_false] at q9 ⊢
        exact fin I9 q9
      | true =>
        simp only [if_true] at q9 ⊢
        refine thnF (pk.run _ s9 σ8 H9 _ I9 q9) fun z s10 ⟨yk, H10, I10, r10, q10⟩ => ?_
        refine thnF (pe.run _ s10 σ8 H10 _ I10 q10) fun z2 s11 ⟨yv, H11, I11, r11, pq⟩ => ?_
        exact thn (hput (X.blk s3 H3 scope ce fp) rfl rfl rfl _ s11 σ8 H11 _ D yk yv z z2 Nx I11 r10 r11 pq) fun _ s12 ⟨H12, I12, nx⟩ => fin I12 nx
  exact codeAny_compStart_dict loop (T.self X.A 0 _ _ _ st4 loop)
theorem pe_dcG {o0 : Addr → HO} {put : TPut} {kx vx tg iter : Expr} {ifs : List Expr} {scope : Scope} {own : List (Str × Nat)} {pos : Pos} {wi : TI} {g : TG} {tt : TT} {tk tv : TE}
    (h0 : ∀ (h : Heap) (H' : Hp), sysModules < h.objs.size → ObjOk X.prog X.w H' (h.push { cls := .type "dict", data := .dict #[] }) h.objs.size (o0 h.objs.size)) (hput : PutOk X.prog X.w X.A put) (hc : X.calm = true) (hN : X.N.Nodup) (hi : PI X tg iter wi) (ok : BlkOk X.N X.env.scope scope own)
    (hg : ∀ (s : Shared) (H : Hp) (C : Addr) (cl : List (Str × Addr)) (fp : List Addr), PG (X.blk s H scope (compEnvC scope cl C X.env) fp) tg g) (ht : ∀ (s : Shared) (H : Hp) (C : Addr) (cl : List (Str × Addr)) (fp : List Addr), PTs (X.blk s H scope (compEnvC scope cl C X.env) fp) ifs tt)
    (hk : ∀ (s : Shared) (H : Hp) (C : Addr) (cl : List (Str × Addr)) (fp : List Addr), PE (X.blk s H scope (compEnvC scope cl C X.env) fp) kx tk)
    (he : ∀ (s : Shared) (H : Hp) (C : Addr) (cl : List (Str × Addr)) (fp : List Addr), PE (X.blk s H scope (compEnvC scope cl C X.env) fp) vx tv) (hs : ∀ x, foldedSetIterable iter X.env x = pure x := by intro _; rfl) :
    PE X (.DictComp kx vx [⟨tg, iter, ifs, 0⟩] scope pos) (tDcG o0 put wi g tt tk tv (own.map (·.2))) := by
  refine ⟨fun pins s σ H Q I h => ?_⟩
  rw [arm_eval_DictComp]
  refine dc_coreG h0 hput hc hN I hi ok hg ht hk he hs h fun D C s' m H' I' q hn f => ⟨m, hn, fun h'' sb => ?_⟩
  obtain ⟨f0, f1, f2, f3, f4, f5⟩ := f
  exact ⟨.ref D, H', I'.turned (t' := s'.toks) (fun b o hb e => (sb.2 b hb).trans e) f0 f1 f3 f4 f5, rfl, q⟩
end
/-! ### both kinds of dict -/
structure DKind (w : W2) (α : Type) where
  start : α
  o0 : Addr → HO
  put : α → D → D → Option α
  holds : Hp → Hp → Addr → α → Prop
  tput : TPut
  mkC : α → C
  keep : ∀ {G G' H H' : Hp} {d : Addr} {a : α}, holds G H d a → Sub G G' → Sub H H' → holds G' H' d a
  there : ∀ {G H : Hp} {d : Addr} {a : α}, holds G H d a → Fr H d
  first : ∀ {G H : Hp} {d : Addr}, holds G (upd H d (o0 d)) d start
  step : ∀ {O : Addr → Prop} {H : Hp} {d : Addr} {a a' : α} {y z : V} {dk dv : D} {Nx : Hp → Prop}, O d → Rp (hid O H) y dk → Rp (hid O H) z dv → holds (hid O H) H d a → put a dk dv = some a' →
    (∀ o, holds (hid O (upd H d o)) (upd H d o) d a' → Nx (upd H d o)) → tput d y z H Nx
  last : ∀ {O : Addr → Prop} {H : Hp} {d : Addr} {a : α}, ¬ O d → holds (hid (fun b => b = d ∨ O b) H) H d a → RpC w (hid O H) (.ref d) (mkC a)
def dcGo {α : Type} (put : α → D → D → Option α) (g : C → Env → Option Env) (c : Env → Option Bool) (fk fv : Env → Option D) (env : Env) : List D → α → Option α
  | [], a => some a
  | d :: r, a => match g (.d d) env with
    | some e1 => match c e1 with
      | some true => match fk e1 with
        | some k => match fv e1 with
          | some v => match put a k v with
            | some a' => dcGo put g c fk fv env r a'
            | none => none
          | none => none
        | none => none
      | some false => dcGo put g c fk fv env r a
      | none => none
    | none => none
def eDc {α : Type} (start : α) (put : α → D → D → Option α) (mk : α → C) (vs : List Nat) (it : Env → Option (List D)) (g : C → Env → Option Env) (c : Env → Option Bool) (fk fv : Env → Option D) : Env → Option C := fun env => match it env with
  | some ds => match dcGo put g c fk fv (wipeE env vs) ds start with
    | some a => some (mk a)
    | none => none
  | none => none
theorem dcG_core {w : W2} {α : Type} {KD : DKind w α} {it : Env → Option (List D)} {g : C → Env → Option Env} {c : Env → Option Bool} {fk fv : Env → Option D} {σ : St} {H : Hp} {Q : VK} {vs : List Nat} (h : tEC w (eDc KD.start KD.put KD.mkC vs it g c fk fv) σ H Q) :
    tDcG KD.o0 KD.tput (tI w it) (tG w vs g) (tT w c) (tE w fk) (tE w fv) vs σ H Q := by
  obtain ⟨O, own', env, rs, E, e, q⟩ := h
  unfold eDc at e
  split at e
  · rename_i ds h1
    split at e
    · rename_i fin hgo0
      cases e
      refine ⟨O, own', env, ds, E, h1, fun J H1 k1 wk Dd hD => ?_⟩
      have nD : ¬ O Dd := fresh_of (E.mono k1).there hD
      refine ⟨fun i m H' => m = ds.length - i ∧ i ≤ ds.length ∧ Same w H1 H' ∧ ∃ a, KD.holds (hid (fun b => b = Dd ∨ O b) H') H' Dd a ∧ dcGo KD.put g c fk fv (wipeE env vs) (ds.drop i) a = some fin,
        ⟨ds.length, by simp, Nat.zero_le _, Same.upd hD, KD.start, KD.first, by simpa using hgo0⟩, ?_⟩
      rintro i m H' ⟨rfl, hi, k2, a, ha, hgo⟩
      have kO : Sub (hid O H1) (hid (fun b => b = Dd ∨ O b) H') := k2.sub.hid fun b o e n y => y.elim (ne_of_none e hD) n
      have E2 : EnvOk w (fun b => b = Dd ∨ O b) own' H' σ env := (E.mono k1).grow k2 (fun a z => .inr z) (fun a z => z.elim (fun y => .inr (y ▸ hD)) .inl) fun b z => z.elim (fun y => y ▸ (let ⟨o, e, _⟩ := KD.there ha; ⟨o, e⟩)) fun y => k2.live b ((E.mono k1).there b y)
      obtain ⟨w1, w2⟩ := wk i H' (fun b => b = Dd ∨ O b) kO E2.there
      cases hd : ds.drop i with
      | nil =>
        have hl : ds.length ≤ i := List.drop_eq_nil_iff.mp hd
        rw [hd] at hgo
        cases hgo
        exact .inl ⟨w2 hl, q _ H' (k1.trans k2) (KD.last nD ha)⟩
      | cons d r =>
        obtain ⟨g1, g2, g3⟩ := drop_get hd
        obtain ⟨go, yl⟩ := w1 d g1
        rw [hd] at hgo
        unfold dcGo at hgo
        refine .inr ⟨go, fun H3 => Same w H1 H3 ∧ ∃ a, KD.holds (hid (fun b => b = Dd ∨ O b) H3) H3 Dd a ∧ dcGo KD.put g c fk fv (wipeE env vs) r a = some fin,
          fun H3 ⟨k3, a, x1, x2⟩ => ⟨ds.length - (i + 1), by omega, rfl, g3, k3, a, x1, by rw [g2]; exact x2⟩, fun x H3 y => ?_⟩
        obtain ⟨k3, rx⟩ := yl x H3 y
        have k3 := k3 w
        split at hgo
        · rename_i e1 h2
          refine ⟨_, own', wipeE env vs, .d d, e1, (E2.mono k3).wipe vs, .d rx, h2, fun σ3 E3 hw => ⟨by rw [hw, wipe_wipe], ?_⟩⟩
          split at hgo
          · rename_i h3
            split at hgo
            · rename_i kv h4
              split at hgo
              · rename_i vv h5
                split at hgo
                · rename_i a' h6
                  refine ⟨_, own', e1, true, E3, h3, fun H4 k4 => iteT ⟨_, own', e1, kv, E3.mono k4, h4, fun u H5 k5 ru => ⟨_, own', e1, vv, (E3.mono k4).mono k5, h5, fun u2 H6 k6 ru2 => ?_⟩⟩⟩
                  have kk : Same w H' H6 := ((k3.trans k4).trans k5).trans k6
                  refine KD.step (O := fun b => b = Dd ∨ O b) (.inl rfl) (ru.mono (hid_mono k6)) ru2 (KD.keep ha (hid_mono kk) kk.sub) h6 fun o ho => ⟨(k2.trans kk).updF hD (KD.there (KD.keep ha (hid_mono (O := fun b => b = Dd ∨ O b) kk) kk.sub)), a', ho, hgo⟩
                · cases hgo
              · cases hgo
            · cases hgo
          · rename_i h3
            refine ⟨_, own', e1, false, E3, h3, fun H4 k4 => iteF ⟨(k2.trans k3).trans k4, a, KD.keep ha (hid_mono (k3.trans k4)) (k3.trans k4).sub, hgo⟩⟩
          · cases hgo
        · cases hgo
    · cases e
  · cases e
/-! nested keys -/
def putN (kvs : List (D × D)) (d e : D) : Option (List (D × D)) := match kTup d with
  | true => match short kvs 1000 with
    | true => some (dput kvs d e)
    | false => none
  | false => none
def tputN (w : World) : TPut := fun D y z H Nx => ∃ ks kvs d k b, y = .ref b ∧ DAt w H D ks ∧ RpK H ks kvs ∧ Rp H y d ∧ keyOf d = some k ∧ k.depth ≤ 8 ∧ ks.length < sizeLine ∧ ∀ ep, Nx (upd H D (DN w D (kput ks k b z) ep))
theorem putOk_n {P : Program} {w : World} {A : Around} (hu : A.units + 64 < cLine) : PutOk P w A (tputN w) := by
  intro X hP hw hA pins s σ H E D y z u r Nx I ry rz ⟨ks, kvs, d, k, b, ey, ea, rk, rd, ek, dk, hz, q⟩
  subst ey hP hw hA
  obtain rfl : u = Value.ref b := ry
  obtain ⟨xs, p, hs, hl, dd⟩ := dn_of I ea rk (Sub.refl H)
  refine wpAny_dictSet_heap (show X.A.units + 8 < cLine by omega) (key_is I rd ek dk rfl rfl) dd (fun h' dd' hs' => ?_) (by rw [← p.length]; exact hl)
  obtain ⟨ep, ok⟩ := dn_new (p.put (b := b) (k := k) rz) hs (by have := kput_length ks k b z; omega) dd'
  refine ⟨_, d_write (t' := _) I (by obtain ⟨_, z⟩ := ea; rw [z]; exact True.intro) hs' ?_ (ok _), q ep⟩
  obtain ⟨o, _, _, e, _⟩ := dd'; exact ⟨o, e⟩
def kindN (w : W2) : DKind w (List (D × D)) where
  start := []
  o0 := fun d => DN w.w d [] 0
  put := putN
  holds := fun G H d kvs => ∃ ks, DAt w.w H d ks ∧ RpK G ks kvs
  tput := tputN w.w
  mkC := .dn
  keep := fun ⟨ks, h1, h2⟩ k k' => ⟨ks, h1.mono k', h2.mono k⟩
  there := fun ⟨ks, h1, _⟩ => Fr.dn h1
  first := ⟨[], ⟨_, upd_same⟩, .nil⟩
  step := fun {O H d a a' y z dk dv Nx} hO ry rz ⟨ks, h1, h2⟩ e q => by
    unfold putN at e
    split at e
    · rename_i h3
      split at e
      · rename_i h4
        cases e
        obtain ⟨kk, ek, dpt, zs, rfl⟩ := kTup_ok h3
        cases ry with
        | @tup t _ _ et rt =>
          refine ⟨ks, a, _, kk, t, rfl, h1, h2.mono hid_le, Rp.mono hid_le (.tup et rt), ek, dpt, by rw [h2.length]; exact short_line h4, fun ep => q _ ⟨_, ⟨ep, upd_same⟩, ?_⟩⟩
          rw [hid_upd hO]
          exact h2.put ek dpt (.tup et rt) rz
      · cases e
    · cases e
  last := fun {O H d a} nO ⟨ks, ⟨ep, h1⟩, h2⟩ => .dn ⟨ep, hid_some.mpr ⟨h1, nO⟩⟩ (h2.mono (hid_anti fun b z => .inr z))
/-! int keys -/
def ilook : List (Int × D) → Int → Option D
  | [], _ => none
  | (k, v) :: r, d => match ieq k d with
    | true => some v
    | false => ilook r d
def imap : List (Int × D) → Int → D → List (Int × D)
  | [], _, _ => []
  | (k, v) :: r, d, e => match ieq k d with
    | true => (k, e) :: imap r d e
    | false => (k, v) :: imap r d e
def iput (kvs : List (Int × D)) (d : Int) (e : D) : List (Int × D) := match ilook kvs d with
  | some _ => imap kvs d e
  | none => kvs ++ [(d, e)]
theorem RpI.length {H : Hp} {ks : List (Key × V)} {kvs : List (Int × D)} (h : RpI H ks kvs) : ks.length = kvs.length := by
  induction h with
  | nil => rfl
  | cons a _ ih => exact congrArg (· + 1) ih
theorem key_dec (i j : Int) : decide ((Sum.inl i : Key) = .inl j) = ieq i j := by
  rw [ieq_eq, Bool.beq_eq_decide_eq]
  exact decide_eq_decide.mpr ⟨fun h => Sum.inl.inj h, fun h => by rw [h]⟩
theorem RpI.any {H : Hp} {ks : List (Key × V)} {kvs : List (Int × D)} (h : RpI H ks kvs) (i : Int) : (ks.any fun kv => decide (kv.1 = .inl i)) = (ilook kvs i).isSome := by
  induction h with
  | nil => rfl
  | @cons j v ks e kvs _ _ ih =>
    rw [List.any_cons, ilook]
    have z : decide (((Sum.inl j, v) : Key × V).1 = .inl i) = ieq j i := key_dec j i
    rw [z]
    cases ieq j i with
    | true => rfl
    | false => rw [Bool.false_or]; exact ih
theorem RpI.append {H : Hp} {ks ks' : List (Key × V)} {kvs kvs' : List (Int × D)} (h : RpI H ks kvs) (h' : RpI H ks' kvs') : RpI H (ks ++ ks') (kvs ++ kvs') := by
  induction h with
  | nil => exact h'
  | cons h1 _ ih => exact .cons h1 ih
theorem RpI.put {H : Hp} {ks : List (Key × V)} {kvs : List (Int × D)} (h : RpI H ks kvs) {i : Int} {e : D} {v : V} (rv : Rp H v e) : RpI H (putK ks (.inl i) v) (iput kvs i e) := by
  unfold putK iput
  rw [h.any i]
  cases hd : ilook kvs i with
  | some x =>
    rw [if_pos (show (some x).isSome = true from rfl)]
    show RpI H _ (imap kvs i e)
    clear hd
    induction h with
    | nil => exact .nil
    | @cons j v1 ks e1 kvs h1 _ ih =>
      have z : decide (((Sum.inl j, v1) : Key × V).1 = .inl i) = ieq j i := key_dec j i
      rw [List.map_cons, imap, ← z]
      by_cases q : ((Sum.inl j, v1) : Key × V).1 = .inl i
      · rw [if_pos q, decide_eq_true q]; exact .cons rv ih
      · rw [if_neg q, decide_eq_false q]; exact .cons h1 ih
  | none =>
    rw [if_neg (show ¬ (none : Option D).isSome = true from Bool.false_ne_true)]
    exact h.append (.cons rv .nil)
theorem RpI.look {H : Hp} {ks : List (Key × V)} {kvs : List (Int × D)} (h : RpI H ks kvs) (i : Int) :
    match ilook kvs i with
    | some x => ∃ v, valV ks (.inl i) = some v ∧ Rp H v x
    | none => valV ks (.inl i) = none := by
  induction h with
  | nil => rfl
  | @cons j v ks e kvs h1 _ ih =>
    have z : decide (((Sum.inl j, v) : Key × V).1 = .inl i) = ieq j i := key_dec j i
    rw [ilook, ← z]
    by_cases q : ((Sum.inl j, v) : Key × V).1 = .inl i
    · rw [decide_eq_true q]
      exact ⟨v, by rw [valV_pos q], h1⟩
    · rw [decide_eq_false q]
      have := ih
      rw [valV_neg q]
      exact this
def putI (kvs : List (Int × D)) (d e : D) : Option (List (Int × D)) := match d with
  | .int i => match short kvs 1000 with
    | true => some (iput kvs i e)
    | false => none
  | _ => none
def tputI : TPut := fun D y z H Nx => ∃ kvs k, y = kV k ∧ H D = some (.dK kvs) ∧ kvs.length < sizeLine ∧ Nx (upd H D (.dK (putK kvs k z)))
theorem putOk_i {P : Program} {w : World} {A : Around} : PutOk P w A tputI := by
  intro X hP hw hA pins s σ H E D y z u r Nx I ry rz ⟨kvs, k, ey, hD, hz, q⟩
  subst ey hP hw hA
  exact d_dictSet I hD hz ry rz fun s' I' => ⟨_, I', q⟩
def kindI (w : W2) : DKind w (List (Int × D)) where
  start := []
  o0 := fun _ => .dK []
  put := putI
  holds := fun G H d kvs => ∃ ks, H d = some (.dK ks) ∧ RpI G ks kvs
  tput := tputI
  mkC := .di
  keep := fun ⟨ks, h1, h2⟩ k k' => ⟨ks, k'.ap h1, h2.mono k⟩
  there := fun ⟨ks, h1, _⟩ => Fr.dK h1
  first := ⟨[], upd_same, .nil⟩
  step := fun {O H d a a' y z dk dv Nx} hO ry rz ⟨ks, h1, h2⟩ e q => by
    unfold putI at e
    split at e
    · split at e
      · rename_i h4
        cases e
        cases ry
        refine ⟨ks, .inl _, rfl, h1, by rw [h2.length]; exact short_line h4, q _ ⟨_, upd_same, ?_⟩⟩
        rw [hid_upd hO]
        exact h2.put rz
      · cases e
    · cases e
  last := fun {O H d a} nO ⟨ks, h1, h2⟩ => .di (hid_some.mpr ⟨h1, nO⟩) (h2.mono (hid_anti fun b z => .inr z))
section
variable {X : Cx} {kx vx tg iter : Expr} {ifs : List Expr} {scope : Scope} {own : List (Str × Nat)} {pos : Pos} {it : Env → Option (List D)} {g : C → Env → Option Env} {c : Env → Option Bool} {fk fv : Env → Option D}
theorem r_dcN (hu : X.A.units + 64 < cLine) (hc : X.calm = true) (hN : X.N.Nodup) (hi : RI X tg iter it) (ok : BlkOk X.N X.env.scope scope own)
    (hg : ∀ (s : Shared) (H : Hp) (C : Addr) (cl : List (Str × Addr)) (fp : List Addr), RG (X.blk s H scope (compEnvC scope cl C X.env) fp) tg (own.map (·.2)) g)
    (ht : ∀ (s : Shared) (H : Hp) (C : Addr) (cl : List (Str × Addr)) (fp : List Addr), RTs (X.blk s H scope (compEnvC scope cl C X.env) fp) ifs c)
    (hk : ∀ (s : Shared) (H : Hp) (C : Addr) (cl : List (Str × Addr)) (fp : List Addr), RE (X.blk s H scope (compEnvC scope cl C X.env) fp) kx fk)
    (he : ∀ (s : Shared) (H : Hp) (C : Addr) (cl : List (Str × Addr)) (fp : List Addr), RE (X.blk s H scope (compEnvC scope cl C X.env) fp) vx fv) (hs : ∀ x, foldedSetIterable iter X.env x = pure x := by intro _; rfl) :
    REC X (.DictComp kx vx [⟨tg, iter, ifs, 0⟩] scope pos) (eDc [] putN .dn (own.map (·.2)) it g c fk fv) :=
  peI (pe_dcG (o0 := fun d => DN X.w d [] 0) (put := tputN X.w) (g := tG (wX X) (own.map fun (p : Str × Nat) => p.2) g) (tt := tT (wX X) c) (tk := tE (wX X) fk) (tv := tE (wX X) fv)
    (fun h H' hb => ⟨⟨[], .nil, beq_eq_false_iff_ne.mpr (Ne.symm (Nat.ne_of_lt hb)), Nat.zero_le _, _, #[], Heap.get?_push_size _ rfl, ⟨rfl, rfl, rfl⟩, rfl, rfl, List.nodup_nil⟩, ⟨_, Heap.get?_push_size _ rfl⟩, fun h1 h2 ⟨xs, p, z, hl, o, es, e1, e2⟩ f => ⟨xs, p, z, hl, o, es, f o e1, e2⟩⟩)
    (putOk_n hu) hc hN hi ok hg ht hk he hs) fun σ H Q h => dcG_core (KD := kindN (wX X)) h
theorem r_dcI (hc : X.calm = true) (hN : X.N.Nodup) (hi : RI X tg iter it) (ok : BlkOk X.N X.env.scope scope own)
    (hg : ∀ (s : Shared) (H : Hp) (C : Addr) (cl : List (Str × Addr)) (fp : List Addr), RG (X.blk s H scope (compEnvC scope cl C X.env) fp) tg (own.map (·.2)) g)
    (ht : ∀ (s : Shared) (H : Hp) (C : Addr) (cl : List (Str × Addr)) (fp : List Addr), RTs (X.blk s H scope (compEnvC scope cl C X.env) fp) ifs c)
    (hk : ∀ (s : Shared) (H : Hp) (C : Addr) (cl : List (Str × Addr)) (fp : List Addr), RE (X.blk s H scope (compEnvC scope cl C X.env) fp) kx fk)
    (he : ∀ (s : Shared) (H : Hp) (C : Addr) (cl : List (Str × Addr)) (fp : List Addr), RE (X.blk s H scope (compEnvC scope cl C X.env) fp) vx fv) (hs : ∀ x, foldedSetIterable iter X.env x = pure x := by intro _; rfl) :
    REC X (.DictComp kx vx [⟨tg, iter, ifs, 0⟩] scope pos) (eDc [] putI .di (own.map (·.2)) it g c fk fv) :=
  peI (pe_dcG (o0 := fun _ => .dK []) (put := tputI) (g := tG (wX X) (own.map fun (p : Str × Nat) => p.2) g) (tt := tT (wX X) c) (tk := tE (wX X) fk) (tv := tE (wX X) fv)
    (fun h H' hb => dk_empty h hb) putOk_i hc hN hi ok hg ht hk he hs) fun σ H Q h => dcG_core (KD := kindI (wX X)) h
end
/-! ### dicts by ints looked at -/
def iGet (f : Env → Option C) (g : Env → Option D) : Env → Option (Option D) := fun env => match f env with
  | some (.di kvs) => match g env with
    | some (.int i) => some (ilook kvs i)
    | _ => none
  | _ => none
def eIGet (f : Env → Option C) (g : Env → Option D) : Env → Option D := fun env => match iGet f g env with
  | some (some d) => some d
  | _ => none
def cInI (g : Env → Option D) (f : Env → Option C) : Env → Option Bool := fun env => match iGet f g env with
  | some (some _) => some true
  | some none => some false
  | none => none
theorem iGet_some {f : Env → Option C} {g : Env → Option D} {env : Env} {o : Option D} (h : iGet f g env = some o) : ∃ kvs i, f env = some (.di kvs) ∧ g env = some (.int i) ∧ o = ilook kvs i := by
  unfold iGet at h
  split at h
  · split at h
    · cases h; exact ⟨_, _, by assumption, by assumption, rfl⟩
    · cases h
  · cases h
section
variable {X : Cx} {a b : Expr} {pos : Pos} {f : Env → Option C} {g : Env → Option D}
theorem r_iget (hu : X.A.units + 64 < cLine) (ha : REC X a f) (hb : RE X b g) (hs : NoSl b := by exact fun _ _ => rfl) : RE X (.Subscript a b pos) (eIGet f g) := by
  refine peI (pe_dget (by omega) ha hb hs) fun σ H Q ⟨O, own, env, d, E, e, q⟩ => ?_
  unfold eIGet at e
  split at e
  · rename_i x hx
    cases e
    obtain ⟨kvs, i, h1, h2, h3⟩ := iGet_some hx
    refine ⟨O, own, env, _, E, h1, fun v H1 k1 r1 => ⟨O, own, env, _, E.mono k1, h2, fun v2 H2 k2 r2 => ?_⟩⟩
    cases r2
    cases r1 with
    | @di a ks _ ea ra =>
      have lk := (ra.mono (hid_mono (O := O) k2)).look i
      rw [← h3] at lk
      obtain ⟨v, l1, l2⟩ := lk
      exact ⟨a, v, rfl, .inl ⟨ks, .inl i, .inl (k2.ap (hid_ap ea)), rfl, l1.symm⟩, q v H2 (k1.trans k2) l2⟩
  · cases e
theorem r_inI (hu : X.A.units + 64 < cLine) (hb : RE X b g) (ha : REC X a f) (hm : behindInMarks .In a = false := by rfl) : RT X (.Compare b [.In] [a] pos) (cInI g f) := by
  refine ptI (pt_cmp (pc_din (by omega) hb ha) hm) fun σ H Q ⟨O, own, env, d, E, e, q⟩ => ?_
  have key : ∃ o, iGet f g env = some o ∧ d = o.isSome := by
    unfold cInI at e
    split at e
    · cases e; exact ⟨_, by assumption, rfl⟩
    · cases e; exact ⟨_, by assumption, rfl⟩
    · cases e
  obtain ⟨o, hx, rfl⟩ := key
  obtain ⟨kvs, i, h1, h2, h3⟩ := iGet_some hx
  refine ⟨O, own, env, _, E, h2, fun v2 H1 k1 r2 => ⟨O, own, env, _, E.mono k1, h1, fun v H2 k2 r1 => ?_⟩⟩
  cases r2
  cases r1 with
  | @di a ks _ ea ra =>
    have lk := ra.look i
    rw [← h3] at lk
    refine ⟨a, _, rfl, .inl ⟨ks, .inl i, .inl (hid_ap ea), rfl, rfl⟩, o.isSome, ?_, q H2 (k1.trans k2)⟩
    cases o with
    | none => rw [show valV ks (.inl i) = none from lk]; rfl
    | some x => obtain ⟨v, l1, _⟩ := lk; rw [l1]; rfl
end
end Ev

set_option Elab.async false
set_option linter.all false
set_option autoImplicit false
set_option maxRecDepth 100000
set_option maxHeartbeats 4000000
/-! Ev14: list(d), list(d.values()) -/
namespace Ev
open PySem PySem.Spec L2
theorem vals_of {P : Nat → Value → Prop} {vs : List V} : ∀ {acc : List Value}, acc.length = vs.length → (∀ j v, acc[j]? = some v → P j v) → (∀ j v x, vs[j]? = some v → P j x → RelV v x) → Vals vs acc := by
  intro acc hl h1 h2
  induction vs generalizing acc P with
  | nil => cases acc with | nil => exact .nil | cons _ _ => cases hl
  | cons v vs ih =>
    cases acc with
    | nil => cases hl
    | cons a acc =>
      refine .cons (h2 0 v a rfl (h1 0 a rfl)) (ih (P := fun j => P (j + 1)) (Nat.succ.inj hl) (fun j v e => h1 (j + 1) v (by simpa using e)) fun j v x e => h2 (j + 1) v x (by simpa using e))
def eKeys (f : Env → Option (List (D × D))) : Env → Option (List D) := fun env => match f env with
  | some kvs => some (keysD kvs)
  | none => none
def valsD : List (D × D) → List D
  | [] => []
  | (_, v) :: r => v :: valsD r
def eVals (f : Env → Option (List (D × D))) : Env → Option (List D) := fun env => match f env with
  | some kvs => some (valsD kvs)
  | none => none
theorem RpK.keys {H : Hp} {ks : List (NestedKey × Addr × V)} {kvs : List (D × D)} (h : RpK H ks kvs) : RpA H (ks.map fun x => .ref x.2.1) (keysD kvs) := by
  induction h with
  | nil => exact .nil
  | cons h1 h2 h3 h4 _ ih => exact .cons h3 ih
theorem RpK.vals {H : Hp} {ks : List (NestedKey × Addr × V)} {kvs : List (D × D)} (h : RpK H ks kvs) : RpA H (ks.map fun x => x.2.2) (valsD kvs) := by
  induction h with
  | nil => exact .nil
  | cons h1 h2 h3 h4 _ ih => exact .cons h4 ih
section
variable {X : Cx}
def rListK (w : World) : List V → Hp → VK → Prop := fun xs H Q => ∃ a ks ep, xs = [.ref a] ∧ H a = some (DN w a ks ep) ∧ ∀ p, H p = none → Q (.ref p) (upd H p (.lst (ks.map fun x => .ref x.2.1)))
theorem call_listK (hc : X.calm = true) : CallR X (.type "list") (rListK X.w) := by
  intro pins s σ H xs us Q I r ⟨a, ks, ep, ex, ea, q⟩
  subst ex
  cases r with
  | cons r rr =>
    cases rr
    rename_i u
    obtain rfl : u = Value.ref a := r
    obtain ⟨hs, o, es, hgd, hx, hdt, hsz, ent⟩ := dn_raw I ea
    obtain ⟨⟨_, _, _, hl, _⟩, _⟩ := I.hok a _ ea
    refine PySem.W.kdl_call (KdlSrc.rawDict (es := es) (ep := ep) hs) (I.ok.hd hc) ⟨o, hgd, hx, hdt⟩ (by rw [hsz]; exact hl) fun h' tk acc' c' kp e it => ?_
    have rv : Vals (ks.map fun x => V.ref x.2.1) acc'.toList := vals_of (P := fun i v => ∃ hi : i < es.size, v = es[i].key) (by rw [List.length_map, Array.length_toList, it.1, hsz]) (fun j v e => it.2 j v (by rw [← Array.getElem?_toList]; exact e)) fun j v x e ⟨hi, ex⟩ => by
      rw [List.getElem?_map] at e
      cases hk : ks[j]? with
      | none => rw [hk] at e; cases e
      | some p =>
        rw [hk] at e
        cases e
        obtain ⟨en, h1, h2, _⟩ := ent j p.1 p.2.1 p.2.2 hk
        rw [Array.getElem?_eq_getElem hi] at h1
        cases h1
        rw [ex, h2]
        rfl
    refine ⟨.ref s.heap.objs.size, _, I.laid (t' := tk) kp (Nat.le_refl _) (show ObjOk X.prog X.w _ h' _ (.lst (ks.map fun x => V.ref x.2.1)) from ⟨by rw [List.length_map]; exact hl, acc'.toList, c', rv, by rw [Array.toArray_toList]; exact e⟩), rfl, q _ (I.hok.fresh (Nat.le_refl _))⟩
/-- the values' view -/
def VView (r d : Addr) : HO := .ext fun h => h.IsValuesView r d
def rListV (w : World) : List V → Hp → VK → Prop := fun xs H Q => ∃ r a ks ep, xs = [.ref r] ∧ H r = some (VView r a) ∧ H a = some (DN w a ks ep) ∧ ∀ p, H p = none → Q (.ref p) (upd H p (.lst (ks.map fun x => x.2.2)))
theorem call_listV (hc : X.calm = true) : CallR X (.type "list") (rListV X.w) := by
  intro pins s σ H xs us Q I r ⟨vw, a, ks, ep, ex, er, ea, q⟩
  subst ex
  cases r with
  | cons r rr =>
    cases rr
    rename_i u
    obtain rfl : u = Value.ref vw := r
    obtain ⟨hs, o, es, hgd, hx, hdt, hsz, ent⟩ := dn_raw I ea
    obtain ⟨⟨_, _, _, hl, _⟩, _⟩ := I.hok a _ ea
    obtain ⟨hv, _⟩ := I.hok vw _ er
    refine PySem.W.kdl_call (KdlSrc.rawValues (es := es) (ep := ep)) (I.ok.hd hc) ⟨hv, o, hgd, hx, hdt⟩ (by rw [hsz]; exact hl) fun h' tk acc' c' kp e it => ?_
    have rv : Vals (ks.map fun x => x.2.2) acc'.toList := vals_of (P := fun i v => ∃ hi : i < es.size, v = es[i].val) (by rw [List.length_map, Array.length_toList, it.1, hsz]) (fun j v e => it.2 j v (by rw [← Array.getElem?_toList]; exact e)) fun j v x e ⟨hi, ex⟩ => by
      rw [List.getElem?_map] at e
      cases hk : ks[j]? with
      | none => rw [hk] at e; cases e
      | some p =>
        rw [hk] at e
        cases e
        obtain ⟨en, h1, _, h2⟩ := ent j p.1 p.2.1 p.2.2 hk
        rw [Array.getElem?_eq_getElem hi] at h1
        cases h1
        rw [ex]
        exact h2
    refine ⟨.ref s.heap.objs.size, _, I.laid (t' := tk) kp (Nat.le_refl _) (show ObjOk X.prog X.w _ h' _ (.lst (ks.map fun x => x.2.2)) from ⟨by rw [List.length_map]; exact hl, acc'.toList, c', rv, by rw [Array.toArray_toList]; exact e⟩), rfl, q _ (I.hok.fresh (Nat.le_refl _))⟩
variable {x : Str} {p pos apos cpos : Pos} {e : Expr} {f : Env → Option (List (D × D))}
theorem r_listK (hc : X.calm = true) (hg : Gl X x) (hm : X.mg x = none) (hv : bootBuiltins x = some (.type "list")) (ha : REN X e f) (hn : x ≠ "__name__" := by decide) (hdb : (x == ("__debug__" : Str)) = false := by decide)
    (he : starEach [e] X.env = (false, eval e X.env) :: starEach [] X.env := by rfl) : RE X (.Call (.Name x p) [e] [] pos) (eLV (eKeys f)) := by
  refine peI (pe_callTy (call_listK hc) hg hm hv (pa_cons ha pa_nil he) hn hdb he rfl) fun σ H Q ⟨O, own, env, d, E, e, q⟩ => ?_
  unfold eLV eKeys at e
  cases hf : f env with
  | none => rw [hf] at e; cases e
  | some kvs =>
    rw [hf] at e
    cases e
    exact ⟨O, own, env, kvs, E, hf, fun a ks H1 k1 ⟨ep, e1⟩ r1 => ⟨a, ks, ep, rfl, e1, fun p hp => q _ _ (k1.trans (Same.upd hp)) (Rp.newL hp (fresh_of (E.mono k1).there hp) r1.keys)⟩⟩
/-- d.values() -/
def tVw (w : W2) (f : Env → Option (List (D × D))) : TE := fun σ H Q => ∃ O own env kvs, EnvOk w O own H σ env ∧ f env = some kvs ∧ ∀ r a ks ep H', Same w H H' → H' r = some (VView r a) → H' a = some (DN w.w a ks ep) → RpK (hid O H') ks kvs → Q (.ref r) H'
theorem pe_values (ha : REN X e f) (hbase : attributeBase e "values" X.env (eval e X.env) = eval e X.env := by rfl) (hline : (apos.endLine == cpos.line) = true := by rfl) : PE X (.Call (.Attribute e "values" apos) [] [] cpos) (tVw (wX X) f) := by
  refine ⟨fun pins s σ H Q I ⟨O, own, env, kvs, E, ef, q⟩ => ?_⟩
  refine wpAny_Call_method (T := "dict") (id := "dict.values") hbase rfl hline PySem.F.plainAttrs_dict PySem.F.slot_dict_values PySem.F.type_dict_values (thn (ren_run ha I E ef) fun u s1 ⟨d, ks, H1, eu, I1, k1, ⟨ep, e1⟩, r1⟩ => ?_)
  subst eu
  obtain ⟨hs, o, es, hgd, hx, hdt, hsz, ent⟩ := dn_raw I1 e1
  refine ⟨⟨o, hgd, hx.1⟩, fun b q => by cases q; exact ⟨o, hgd, hx.2.1⟩, ?_⟩
  show wpAny _ _ (callWith cpos (.builtin "dict.values") [.ref d] [] []) _ X.xe s1
  have hn := I1.hok.fresh (Nat.le_refl s1.heap.objs.size)
  have ev : (s1.heap.push { cls := .type "dict_values", data := .fields #[.ref d] }).get? s1.heap.objs.size = some { cls := .type "dict_values", data := .fields #[.ref d] } := Heap.get?_push_size _ rfl
  refine method_meetsIn PySem.F.slot_dict_values PySem.F.entry_dict_values rfl (PySem.evalArgs_none ⟨rfl, ⟨o, hgd, hx.1⟩, PySem.F.args_dict_values_1 _, _, meets_dict_values_raw d hs, ⟨es, ep, o, hgd, hx, hdt⟩, ?_⟩)
  refine ⟨.ref s1.heap.objs.size, _, I1.laid (t' := s1.toks) (o := VView s1.heap.objs.size d) (fun b ob q => Heap.get?_push_of_some _ q) (Nat.le_refl _) ⟨⟨_, ev, rfl, rfl⟩, ⟨_, ev⟩, fun h1 h2 ⟨o, a, b⟩ f => ⟨o, f o a, b⟩⟩, rfl, ?_⟩
  exact q _ d ks ep _ (k1.trans (Same.upd hn)) upd_same (by rw [upd_ne (ne_of_none e1 hn)]; exact e1) (r1.mono (hid_monoS (Sub.upd hn)))
theorem r_listV (hc : X.calm = true) (hg : Gl X x) (hm : X.mg x = none) (hv : bootBuiltins x = some (.type "list")) (ha : REN X e f) (hbase : attributeBase e "values" X.env (eval e X.env) = eval e X.env := by rfl) (hline : (apos.endLine == cpos.line) = true := by rfl) (hn : x ≠ "__name__" := by decide) (hdb : (x == ("__debug__" : Str)) = false := by decide)
    (he : starEach [.Call (.Attribute e "values" apos) [] [] cpos] X.env = (false, eval (.Call (.Attribute e "values" apos) [] [] cpos) X.env) :: starEach [] X.env := by rfl) : RE X (.Call (.Name x p) [.Call (.Attribute e "values" apos) [] [] cpos] [] pos) (eLV (eVals f)) := by
  refine peI (pe_callTy (call_listV hc) hg hm hv (pa_cons (pe_values ha hbase hline) pa_nil he) hn hdb he rfl) fun σ H Q ⟨O, own, env, d, E, e, q⟩ => ?_
  unfold eLV eVals at e
  cases hf : f env with
  | none => rw [hf] at e; cases e
  | some kvs =>
    rw [hf] at e
    cases e
    exact ⟨O, own, env, kvs, E, hf, fun r a ks ep H1 k1 er e1 r1 => ⟨r, a, ks, ep, rfl, er, e1, fun p hp => q _ _ (k1.trans (Same.upd hp)) (Rp.newL hp (fresh_of (E.mono k1).there hp) r1.vals)⟩⟩
end
end Ev

set_option Elab.async false
set_option linter.all false
set_option autoImplicit false
set_option maxRecDepth 100000
set_option maxHeartbeats 4000000
/-! Ev15: chains of three comparisons; the defs' promises -/
namespace Ev
open PySem PySem.Spec L2
def c4 (g1 g2 g3 : D → D → Option Bool) (f1 f2 f3 f4 : Env → Option D) : Env → Option Bool := fun env => match f1 env with
  | some d => match f2 env with
    | some e => match g1 d e with
      | some true => match f3 env with
        | some f => match g2 e f with
          | some true => match f4 env with
            | some h => g3 f h
            | none => none
          | some false => some false
          | none => none
        | none => none
      | some false => some false
      | none => none
    | none => none
  | none => none
section
variable {X : Cx} {pos : Pos} {a b c d : Expr}
theorem rev_run {e : Expr} {g : Env → Option D} (h : REV X e g) {pins : List (Addr × Obj)} {s : Shared} {σ : St} {H : Hp} (I : Inv X pins σ H s) {O : Addr → Prop} {own : Nat → Option Addr} {env : Env} {d : D} (E : EnvOk (wX X) O own H σ env) (e' : g env = some d) :
    wpAny (model X.prog X.w) X.A (eval e X.env) (fun u s' => ∃ v H', Inv X pins σ H' s' ∧ RelV v u ∧ Same (wX X) H H' ∧ Rp H' v d) X.xe s :=
  thn (h.run pins s σ H (fun x H1 => Same (wX X) H H1 ∧ Rp H1 x d) I ⟨O, own, env, d, E, e', fun v H1 k r => ⟨k, r⟩⟩)
    fun u s1 ⟨x, H1, I1, rx, k1, r1⟩ => ⟨x, H1, I1, rx, k1, r1⟩
theorem r_chain4 {op1 op2 op3 : CmpOp} {g1 g2 g3 : D → D → Option Bool} {f1 f2 f3 f4 : Env → Option D} (ho1 : CmpD X op1 g1) (ho2 : CmpD X op2 g2) (ho3 : CmpD X op3 g3) (ha : REV X a f1) (hb : REV X b f2) (hc : REV X c f3) (hd : REV X d f4)
    (hm : lastMarks [op1, op2, op3] [b, c, d] = false := by with_unfolding_all rfl) : RE X (.Compare a [op1, op2, op3] [b, c, d] pos) (eOfB (c4 g1 g2 g3 f1 f2 f3 f4)) := by
  refine ⟨fun pins s σ H Q I ⟨O, own, env, r, E, e, q⟩ => ?_⟩
  obtain ⟨rb, hr, rfl⟩ := eOfB_some e
  unfold c4 at hr
  split at hr
  · rename_i d1 h1
    split at hr
    · rename_i d2 h2
      refine PyProof.Rows.Compare_chain (thn (rev_run ha I E h1) fun v s1 ⟨x, H1, I1, r1, k1, p1⟩ => PyProof.Rows.chain_link (thn (rev_run hb I1 (E.mono k1) h2) fun u s2 ⟨y, H2, I2, r2, k2, p2⟩ => ?_)) hm
      have E2 := (E.mono k1).mono k2
      split at hr
      · rename_i h3
        refine thn (ho1 pins s2 σ H2 x y v u (fun z H3 => z = .bl true ∧ H3 = H2) I2 r1 r2 ⟨d1, d2, true, p1.mono k2.sub, p2, h3, rfl, rfl⟩) fun t s3 ⟨z, H3, I3, r3, ez, eH⟩ => ?_
        subst ez eH
        cases r3
        refine wpAny_truthy_bool (iteT ?_)
        split at hr
        · rename_i d3 h4
          refine PyProof.Rows.chain_link (thn (rev_run hc I3 E2 h4) fun u3 s4 ⟨y3, H4, I4, r4, k4, p4⟩ => ?_)
          split at hr
          · rename_i h5
            refine thn (ho2 pins s4 σ H4 y y3 u u3 (fun z H3 => z = .bl true ∧ H3 = H4) I4 r2 r4 ⟨d2, d3, true, p2.mono k4.sub, p4, h5, rfl, rfl⟩) fun t s5 ⟨z, H5, I5, r5, ez, eH⟩ => ?_
            subst ez eH
            cases r5
            refine wpAny_truthy_bool (iteT ?_)
            split at hr
            · rename_i d4 h6
              refine PyProof.Rows.chain_last (thn (rev_run hd I5 (E2.mono k4) h6) fun u4 s6 ⟨y4, H6, I6, r6, k6, p6⟩ => ?_)
              exact ho3 pins s6 σ H6 y3 y4 u3 u4 Q I6 r4 r6 ⟨d3, d4, rb, p4.mono k6.sub, p6, hr, q _ H6 (((k1.trans k2).trans k4).trans k6) (.bl _)⟩
            · cases hr
          · rename_i h5
            cases hr
            refine thn (ho2 pins s4 σ H4 y y3 u u3 (fun z H3 => z = .bl false ∧ H3 = H4) I4 r2 r4 ⟨d2, d3, false, p2.mono k4.sub, p4, h5, rfl, rfl⟩) fun t s5 ⟨z, H5, I5, r5, ez, eH⟩ => ?_
            subst ez eH
            cases r5
            exact wpAny_truthy_bool (iteF ⟨.bl false, _, I5, rfl, q _ _ ((k1.trans k2).trans k4) (.bl _)⟩)
          · cases hr
        · cases hr
      · rename_i h3
        cases hr
        refine thn (ho1 pins s2 σ H2 x y v u (fun z H3 => z = .bl false ∧ H3 = H2) I2 r1 r2 ⟨d1, d2, false, p1.mono k2.sub, p2, h3, rfl, rfl⟩) fun t s3 ⟨z, H3, I3, r3, ez, eH⟩ => ?_
        subst ez eH
        cases r3
        exact wpAny_truthy_bool (iteF ⟨.bl false, _, I3, rfl, q _ _ (k1.trans k2) (.bl _)⟩)
      · cases hr
    · cases hr
  · cases hr
end
/-! ### a def's promise, by its name -/
structure Fn (P : Program) (w : World) (K : PySem.W.Frag) (mg : Str → Option Value) (base : Heap) (x : Str) (ps : List Str) (k : Nat) (F : List C → Option C) : Prop where
  ex : ∃ (f : Addr) (fd : FuncData), mg x = some (.ref f) ∧ PySem.W.keepIn K (.ref f) = true ∧ Binds K fd ps [] ∧ FnOk P w K mg base CX0 k f fd ps (spF ⟨w, IsP K mg base⟩ F ps.length)
  tk : Takes F ps.length
section
variable {X : Cx} {k : Nat} {ps : List Str} {x : Str} {p pos : Pos} {e : Expr} {es : List Expr} {F : List C → Option C}
theorem r_fn (c : Fn X.prog X.w X.K X.mg X.base x ps k F) (hr : Room k X.A) (hg : Gl X x) {g : Env → Option (List C)}
    (ha : RA X (e :: es) g) (hdb : (x == ("__debug__" : Str)) = false := by decide) (he : starEach (e :: es) X.env = (false, eval e X.env) :: starEach es X.env := by rfl) (hpl : (backTo pos (starEach es X.env)).any (·.1) = false := by rfl) :
    REC X (.Call (.Name x p) (e :: es) [] pos) (eCall F g) := by
  obtain ⟨f, fd, hm, hk, hb, G⟩ := c.ex
  exact r_call G c.tk hr hg hm hk hb ha hdb he hpl
theorem r_fn0 {X : Cx} {k : Nat} {x : Str} {p pos : Pos} {F : List C → Option C} (c : Fn X.prog X.w X.K X.mg X.base x [] k F) (hr : Room k X.A) (hg : Gl X x) (hdb : (x == ("__debug__" : Str)) = false := by decide) :
    REC X (.Call (.Name x p) [] [] pos) (eCall F aNil) := by
  obtain ⟨f, fd, hm, hk, hb, G⟩ := c.ex
  exact r_call0 G c.tk hr hg hm hk hb hdb
end
section
variable {P : Program} {w : World} {K : PySem.W.Frag} {mg : Str → Option Value} {base : Heap} {x qual : Str} {params : Arguments} {body : List Stmt} {scope : Scope} {f : Addr} {fd : FuncData} {N ps : List Str} {k n more : Nat} {tb : Env → Option Out}
theorem Fn.make (hm : mg x = some (.ref f)) (F : FunD K x qual params body scope [] [] f fd) (hb : Binds K fd ps []) (S : FnScope N ps scope) (hn : ps.length = n) (hN : N.length = n + more)
    (h : ∀ (cdv : Value) (A : Around) (outer : List PySem.Env) (s : Shared) (H : Hp) (E : XK), Room k (A.deeper (PyProof.Rows.envOfC qual scope s.heap.objs.size f cdv)) → RSs (cxOf CX0 P w K mg base N qual scope f cdv A outer s H E).nox body tb) :
    Fn P w K mg base x ps (k + 1) (fnM n more tb) := by
  subst hn
  exact ⟨⟨f, fd, hm, F.kp, hb, fn_ok F S rfl hN h⟩, fnM_takes⟩
/-- .. its code object told -/
theorem Fn.makeC (hm : mg x = some (.ref f)) (F : FunD K x qual params body scope [] [] f fd) (hb : Binds K fd ps []) (S : FnScope N ps scope) (hn : ps.length = n) (hN : N.length = n + more)
    (h : ∀ (c : Addr), fd.code = .ref c → ∀ (A : Around) (outer : List PySem.Env) (s : Shared) (H : Hp) (E : XK), Room k (A.deeper (PyProof.Rows.envOfC qual scope s.heap.objs.size f (.ref c))) → RSs (cxOf CX0 P w K mg base N qual scope f (.ref c) A outer s H E).nox body tb) :
    Fn P w K mg base x ps (k + 1) (fnM n more tb) := by
  subst hn
  refine ⟨⟨f, fd, hm, F.kp, hb, fn_okC F S rfl hN fun cdv hc hf => ?_⟩, fnM_takes⟩
  obtain ⟨c, rfl⟩ := He.codeIn_ref hc
  exact h c hf
/-- .. that calls itself -/
theorem Fn.makeR {step : (List C → Option C) → List C → Option C} {tbs : (List C → Option C) → Env → Option Out} (hst : ∀ G, step G = fnM n more (tbs G)) (hm : mg x = some (.ref f)) (F : FunD K x qual params body scope [] [] f fd) (hb : Binds K fd ps []) (S : FnScope N ps scope) (hn : ps.length = n) (hN : N.length = n + more)
    (h : ∀ (j : Nat) (G : List C → Option C), Fn P w K mg base x ps (k + j) G → ∀ (cdv : Value) (A : Around) (outer : List PySem.Env) (s : Shared) (H : Hp) (E : XK), Room (k + j) (A.deeper (PyProof.Rows.envOfC qual scope s.heap.objs.size f cdv)) → RSs (cxOf CX0 P w K mg base N qual scope f cdv A outer s H E).nox body (tbs G)) :
    ∀ j, Fn P w K mg base x ps (k + j) (itF step j) := by
  intro j
  subst hn
  induction j with
  | zero => exact ⟨⟨f, fd, hm, F.kp, hb, fn_never rfl⟩, fun cs r e => nomatch e⟩
  | succ j ih =>
    rw [itF_succ, hst]
    exact ⟨⟨f, fd, hm, F.kp, hb, fn_ok (k := k + j) F S rfl hN (h j _ ih)⟩, fnM_takes⟩
end
end Ev

set_option autoImplicit false
namespace Ev
open PySem PySem.Spec L2
theorem r_globE {X : Cx} {pos : Pos} {x : Str} {i : Int} (hg : Gl X x) (hm : ∃ t, X.mg x = some (.int i t)) (hd : (x == ("__debug__" : Str)) = false := by decide) : RE X (.Name x pos) (eInt i) := let ⟨_, h⟩ := hm; r_glob hg h hd
/-! ### sum of a tuple -/
theorem sum_intTup {prog : Program} {w : World} {A : Around} {E : Value → Shared → Prop} {s : Shared} {l : Addr} {xs : Array (Int × Tok)} {Q : Value → Shared → Prop} (hh : A.handled = none) (hl : s.heap.IsTuple l (intItems xs))
    (h : ∀ h' tk t', (∀ b o, s.heap.get? b = some o → h'.get? b = some o) → Q (.int (preSum (numAt xs) xs.size) t') { s with heap := h', toks := tk }) :
    wpAny (model prog w) A (call (.builtin "sum") [.ref l]) Q E s := by
  have hlt : l < s.heap.objs.size := by obtain ⟨_, e, _⟩ := hl; exact Heap.lt_size e
  refine call_sum_walkG (wpAny_pyIter_tuple hl ?_)
  refine ⟨_, _, _, _, _, _, numAt xs, rfl, Walks.tuple (A := A.in1) hh _ l (Nat.ne_of_lt hlt) (intItems xs), ⟨⟨_, Heap.get?_push_size _ rfl, rfl, rfl⟩, hl.push _⟩, (fun b hb => ?_), (fun _ _ => intItems_at), fun h' tk t' hk => ?_⟩
  · show b < (s.heap.push _).objs.size
    rw [Heap.size_push]
    rcases List.mem_cons.mp hb with rfl | hb
    · exact Nat.lt_succ_self _
    · rcases List.mem_cons.mp hb with rfl | hb
      · exact Nat.lt_succ_of_lt hlt
      · cases hb
  · have := h h' tk t' (fun b o e => hk b o (fun hm => by
      rcases List.mem_cons.mp hm with e1 | hm
      · exact absurd (e1 ▸ Heap.lt_size e) (Nat.lt_irrefl _)
      · cases hm) (Heap.get?_push_of_some _ e))
    simpa [intItems] using this
def gSumT : D → Option D
  | .tup xs => match intsOf xs with
    | some ns => some (.int (sumI ns 0))
    | none => none
  | _ => none
theorem b_sumT {X : Cx} (hc : X.calm = true) : Call1V X (.builtin "sum") gSumT := by
  intro pins s σ H xs us Q I r h
  obtain ⟨x, d, r0, rfl, hd, hg, q⟩ := h
  unfold gSumT at hg
  split at hg
  · split at hg
    · rename_i bs hb
      cases hg
      cases hd with
      | @tup a vs _ h1 h2 =>
        cases ints_of h2 hb
        obtain ⟨its, rv, pl, _⟩ := I.tuple (SqT.of h1)
        rw [Vals.ref1 r]
        have hi := rv.ints
        obtain ⟨ys, e⟩ := hi.allInts.items
        have hn : numsOf (intItems ys).toList = bs := by rw [← e]; exact hi.numsOf
        rw [nums_intItems] at hn
        have pl : s.heap.IsTuple a its.toArray := pl
        rw [e] at pl
        refine sum_intTup (I.ok.hd hc) pl fun h' tk t' hk => ?_
        rw [preSum_eq, List.take_of_length_le (by simp), hn]
        exact ⟨.int _, H, I.kept hk, ⟨_, rfl⟩, q _ fun H' => by rw [sumI_eq, Int.zero_add]; exact .int _⟩
    · cases hg
  · cases hg
/-! ### sorted by a key -/
def ksOf (F : List C → Option C) : List D → Option (List (Int × D))
  | [] => some []
  | d :: r => match F [.d d] with
    | some (.d (.int i)) => match ksOf F r with
      | some ks => some ((i, d) :: ks)
      | none => none
    | _ => none
def kins {α : Type} (k : Int) (d : α) : List (Int × α) → List (Int × α)
  | [] => [(k, d)]
  | (j, e) :: r => match ilt k j with
    | true => (k, d) :: (j, e) :: r
    | false => (j, e) :: kins k d r
def ksort {α : Type} : List (Int × α) → List (Int × α) → List (Int × α)
  | [], acc => acc
  | (k, d) :: r, acc => ksort r (kins k d acc)
def kvalsD {α : Type} : List (Int × α) → List α
  | [] => []
  | (_, d) :: r => d :: kvalsD r
def eSortK (F : List C → Option C) (f : Env → Option D) : Env → Option D := fun env => match f env with
  | some (.lst xs) => match ksOf F xs with
    | some ks => some (.lst (kvalsD (ksort ks [])))
    | none => none
  | _ => none
end Ev

set_option Elab.async false
set_option linter.all false
set_option autoImplicit false
set_option maxRecDepth 100000
set_option maxHeartbeats 4000000
/-! EvS: a stable sort by a key, list.sort over an invariant -/
namespace Ev
open PySem PySem.Spec L2 PyProof.Rows
section
variable {α β : Type}
abbrev Sd (l : List (Int × α)) : Prop := l.Pairwise (fun p q => p.1 ≤ q.1)
theorem kins_filter (k : Int) (d : α) (c : Int) : ∀ {l : List (Int × α)}, Sd l → (kins k d l).filter (fun p => p.1 == c) = l.filter (fun p => p.1 == c) ++ (if k == c then [(k, d)] else [])
  | [], _ => by
    show List.filter _ [(k, d)] = _
    rw [List.filter_cons]; rfl
  | (j, e) :: r, h => by
    obtain ⟨h1, h2⟩ := List.pairwise_cons.mp h
    unfold kins
    split
    · rename_i q
      rw [ilt_eq] at q
      have q := of_decide_eq_true q
      rw [List.filter_cons]
      show (if (k == c) = true then _ else _) = _
      by_cases hk : k = c
      · subst hk
        have e0 : ((j, e) :: r).filter (fun p => p.1 == k) = [] := by
          rw [List.filter_eq_nil_iff]
          intro p hp
          have : k < p.1 := by
            rcases List.mem_cons.mp hp with rfl | hp
            · exact q
            · exact Int.lt_of_lt_of_le q (h1 p hp)
          simp only [beq_iff_eq]
          omega
        rw [e0]; simp
      · have z : (k == c) = false := by simpa using hk
        rw [z]; simp
    · rw [List.filter_cons, List.filter_cons, kins_filter k d c h2]
      split <;> simp
theorem kins_mem {k : Int} {d : α} : ∀ {l : List (Int × α)} {p : Int × α}, p ∈ kins k d l → p = (k, d) ∨ p ∈ l
  | [], p, h => by
    have : p ∈ [(k, d)] := h
    simpa using this
  | (j, e) :: r, p, h => by
    unfold kins at h
    split at h
    · simpa using h
    · rcases List.mem_cons.mp h with rfl | h
      · exact .inr List.mem_cons_self
      · rcases kins_mem h with q | q
        · exact .inl q
        · exact .inr (List.mem_cons_of_mem _ q)
theorem kins_sd (k : Int) (d : α) : ∀ {l : List (Int × α)}, Sd l → Sd (kins k d l)
  | [], _ => by
    show Sd [(k, d)]
    exact List.pairwise_singleton _ _
  | (j, e) :: r, h => by
    obtain ⟨h1, h2⟩ := List.pairwise_cons.mp h
    unfold kins
    split
    · rename_i q
      rw [ilt_eq] at q
      have q := of_decide_eq_true q
      refine List.pairwise_cons.mpr ⟨fun p hp => ?_, h⟩
      rcases List.mem_cons.mp hp with rfl | hp
      · exact Int.le_of_lt q
      · exact Int.le_trans (Int.le_of_lt q) (h1 p hp)
    · rename_i q
      rw [ilt_eq] at q
      have q := of_decide_eq_false q
      refine List.pairwise_cons.mpr ⟨fun p hp => ?_, kins_sd k d h2⟩
      rcases kins_mem hp with rfl | hp
      · exact Int.not_lt.mp q
      · exact h1 p hp
theorem ksort_sd : ∀ {l acc : List (Int × α)}, Sd acc → Sd (ksort l acc)
  | [], _, h => h
  | (k, d) :: r, _, h => ksort_sd (l := r) (kins_sd k d h)
theorem ksort_filter (c : Int) : ∀ {l acc : List (Int × α)}, Sd acc → (ksort l acc).filter (fun p => p.1 == c) = acc.filter (fun p => p.1 == c) ++ l.filter (fun p => p.1 == c)
  | [], acc, h => by
    show acc.filter _ = _
    simp
  | (k, d) :: r, acc, h => by
    show (ksort r (kins k d acc)).filter _ = _
    rw [ksort_filter c (kins_sd k d h), kins_filter k d c h, List.filter_cons]
    show _ = _ ++ (if (k == c) = true then _ else _)
    by_cases q : (k == c) = true
    · rw [if_pos q, if_pos q]; simp
    · rw [if_neg q, if_neg q]; simp
theorem sd_unique : ∀ {l m : List (Int × α)}, Sd l → Sd m → (∀ c, l.filter (fun p => p.1 == c) = m.filter (fun p => p.1 == c)) → l = m
  | [], [], _, _, _ => rfl
  | [], q :: r, _, _, h => by
    have := h q.1
    simp at this
  | p :: r, [], _, _, h => by
    have := h p.1
    simp at this
  | p :: r, q :: t, hl, hm, h => by
    obtain ⟨a1, a2⟩ := List.pairwise_cons.mp hl
    obtain ⟨b1, b2⟩ := List.pairwise_cons.mp hm
    have e : p.1 = q.1 := by
      have m1 : q ∈ (p :: r).filter (fun x => x.1 == q.1) := by rw [h q.1]; simp
      have m2 : p ∈ (q :: t).filter (fun x => x.1 == p.1) := by rw [← h p.1]; simp
      have l1 : p.1 ≤ q.1 := by
        rcases List.mem_cons.mp (List.mem_filter.mp m1).1 with z | z
        · rw [z]; exact Int.le_refl _
        · exact a1 _ z
      have l2 : q.1 ≤ p.1 := by
        rcases List.mem_cons.mp ((List.mem_filter.mp m2).1) with z | z
        · rw [z]; exact Int.le_refl _
        · exact b1 _ z
      exact Int.le_antisymm l1 l2
    have hp := h p.1
    rw [List.filter_cons, List.filter_cons, if_pos (by simp), if_pos (by simp [e])] at hp
    obtain ⟨e1, e2⟩ := List.cons.inj hp
    subst e1
    refine congrArg _ (sd_unique a2 b2 fun c => ?_)
    by_cases hc : p.1 = c
    · subst hc; exact e2
    · have := h c
      have z : (p.1 == c) = false := by simpa using hc
      rw [List.filter_cons, List.filter_cons, z] at this
      simpa using this
theorem ksort_eq {l m : List (Int × α)} (hs : Sd m) (hf : ∀ c, m.filter (fun p => p.1 == c) = l.filter (fun p => p.1 == c)) : m = ksort l [] :=
  sd_unique hs (ksort_sd List.Pairwise.nil) fun c => by rw [ksort_filter c List.Pairwise.nil, hf c]; rfl
theorem kvalsD_eq : ∀ l : List (Int × α), kvalsD l = l.map Prod.snd
  | [] => rfl
  | (k, d) :: r => congrArg (d :: ·) (kvalsD_eq r)
/-! two such lists, related by the values -/
inductive R2 (R : α → β → Prop) : List (Int × α) → List (Int × β) → Prop
  | nil : R2 R [] []
  | cons {k : Int} {x : α} {y : β} {l : List (Int × α)} {m : List (Int × β)} : R x y → R2 R l m → R2 R ((k, x) :: l) ((k, y) :: m)
variable {R : α → β → Prop}
theorem R2.kins {k : Int} {x : α} {y : β} (r : R x y) {l : List (Int × α)} {m : List (Int × β)} (h : R2 R l m) : R2 R (kins k x l) (kins k y m) := by
  induction h with
  | nil => exact .cons r .nil
  | @cons j u v l m a b ih =>
    unfold Ev.kins
    cases ilt k j with
    | true => exact .cons r (.cons a b)
    | false => exact .cons a ih
theorem R2.ksort {l acc : List (Int × α)} {m acc' : List (Int × β)} (h : R2 R l m) (h' : R2 R acc acc') : R2 R (ksort l acc) (ksort m acc') := by
  induction h generalizing acc acc' with
  | nil => exact h'
  | cons a b ih => exact ih (h'.kins a)
end
/-! ### list.sort over an invariant -/
structure KJ (a kS : Addr) (e1 : Nat) (J : Array Value → Nat → Shared → Prop) : Prop where
  k : ∀ {kA e s}, J kA e s → s.heap.get? kS = some (seqObj "list" kA e)
  a : ∀ {kA e s}, J kA e s → s.heap.get? a = some (seqObj "list" #[] e1)
  up : ∀ {kA e s}, J kA e s → ∀ h' kA' e', Heap.SameBut kS s.heap h' → h'.get? kS = some (seqObj "list" kA' e') → J kA' e' { s with heap := h' }
/-- the end: the keys' list, then the list itself is written -/
def KFin (a kS : Addr) (b : Bool) (kz : List Int) (vs : List Value) (P : PySem.Fin → Shared → Prop) (s : Shared) : Prop :=
  ∀ h1 h' tk out c, Heap.SameBut kS s.heap h1 → Heap.SameBut a h1 h' → h'.get? a = some (seqObj "list" out c) → KskOutSt b kz vs out.toList → P (.done (.ret .none)) { s with heap := h', toks := tk }
section
variable {prog : Program} {w : World} {A : Around} {E : Value → Shared → Prop} {s : Shared} {a kS : Addr} {b : Bool} {vs : List Value} {kz : List Int} {keys : Array Value} {e e1 : Nat} {P : PySem.Fin → Shared → Prop} {J : Array Value → Nat → Shared → Prop}
theorem kj_tail {st : SortSt} (G : KJ a kS e1 J) (j : J keys e s) (hka : kS ≠ a)
    (hk : IntsAre keys.toList kz) (hlen : kz.length = vs.length) (hZ : vs.length ≤ sizeLine) (hp : (arrOf st).Perm (keys.zip vs.toArray)) (hs : SortedTo (arrOf st) (arrOf st).size) (hfl : failedOf st = none)
    (hst : Stable intKind (arrOf st) (if b = true then (keys.zip vs.toArray).reverse else keys.zip vs.toArray)) (h : KFin a kS b kz vs P s) :
    wpAny (model prog w) A (ksk_tail a b e1 (.ref kS) st) P E s := by
  have hZ2 := hZ
  rw [sizeLine_eq] at hZ2
  have nk := G.k j
  have na := G.a j
  have hsz : keys.size = vs.length := by
    have h1 := hk.length
    rw [Array.length_toList] at h1
    omega
  have hsz2 : (arrOf st).size = vs.length := by rw [hp.size_eq, Array.size_zip, hsz, List.size_toArray, Nat.min_self]
  have hout : (if b then ((arrOf st).map (fun x : Keyed => x.2)).reverse else (arrOf st).map (fun x : Keyed => x.2)).size = vs.length := by
    cases b with
    | false => simp only [Bool.false_eq_true, if_false, Array.size_map]; exact hsz2
    | true => simp only [if_true, Array.size_reverse, Array.size_map]; exact hsz2
  have s1 := Heap.SameBut.update s.heap kS (Obj.mapSeq fun _ => (#[] : Array Value))
  have na1 : (s.heap.update kS (Obj.mapSeq fun _ => (#[] : Array Value))).get? a = some (seqObj "list" #[] e1) := (s1.2 a hka.symm).trans na
  have s2 := Heap.SameBut.update (s.heap.update kS (Obj.mapSeq fun _ => (#[] : Array Value))) a (Obj.mapSeq fun _ => if b then ((arrOf st).map (fun x : Keyed => x.2)).reverse else (arrOf st).map (fun x : Keyed => x.2))
  obtain ⟨c2, hc2⟩ : ∃ c2, ((s.heap.update kS (Obj.mapSeq fun _ => (#[] : Array Value))).update a (Obj.mapSeq fun _ => if b then ((arrOf st).map (fun x : Keyed => x.2)).reverse else (arrOf st).map (fun x : Keyed => x.2))).get? a = some (seqObj "list" (if b then ((arrOf st).map (fun x : Keyed => x.2)).reverse else (arrOf st).map (fun x : Keyed => x.2)) c2) :=
    ⟨_, get?_update_seq na1 fun _ => if b then ((arrOf st).map (fun x : Keyed => x.2)).reverse else (arrOf st).map (fun x : Keyed => x.2)⟩
  unfold ksk_tail
  try dsimp only
  refine wpAny_bind (listUpdate_at nk rfl ?_ (by rw [hsz, sizeLine_eq]; omega) (Nat.zero_le _))
  refine wpAny_bind (wpAny_letGo ?_)
  refine wpAny_bind (seqEpoch_at na1 rfl ?_)
  refine wpAny_bind (listUpdate_at na1 rfl ?_ (Nat.zero_le _) (Nat.le_trans (Nat.le_of_eq hout) (by rw [sizeLine_eq]; omega)))
  rw [hfl]
  simp only [bne_self_eq_false, Bool.false_eq_true, if_false]
  exact wpAny_pure (h _ _ _ _ c2 s1 s2 hc2 (ksk_outSt hk hp hs hst))
theorem kj_end (G : KJ a kS e1 J) (j : J keys e s) (hka : kS ≠ a)
    (hk : IntsAre keys.toList kz) (hlen : kz.length = vs.length) (hZ : vs.length ≤ sizeLine) (h : KFin a kS b kz vs P s) :
    wpAny (model prog w) A (ksk_end a b vs.toArray e1 (.ref kS) keys) P E s := by
  have hZ2 := hZ
  rw [sizeLine_eq] at hZ2
  have hsz : keys.size = vs.length := by
    have h1 := hk.length
    rw [Array.length_toList] at h1
    omega
  have hzs : (keys.zip vs.toArray).size = vs.length := by rw [Array.size_zip, hsz, List.size_toArray, Nat.min_self]
  have step : ∀ t : Sem PySem.Fin, wpAny (model prog w) A t P E s → wpAny (model prog w) A (if b = true then (do let _ ← rule "list.sort.reverse"; t) else t) P E s := by
    intro t ht
    split
    · exact wpAny_bind (wpAny_rule ht)
    · exact ht
  have hstart : (if b = true then (keys.zip vs.toArray).reverse else keys.zip vs.toArray).Perm (keys.zip vs.toArray) := by
    cases b with
    | false => exact Array.Perm.refl _
    | true => exact Array.perm_iff_toList_perm.mpr (by rw [if_pos rfl, Array.toList_reverse]; exact List.reverse_perm _)
  unfold ksk_end
  try dsimp only
  refine step _ ?_
  by_cases h2 : vs.toArray.size < 2
  · rw [if_pos h2, if_pos h2]
    refine wpAny_bind (wpAny_pure ?_)
    rw [StateT.run_pure]
    refine wpAny_bind (wpAny_pure ?_)
    try dsimp only
    refine kj_tail (st := SortSt.mk' general' (if b = true then (keys.zip vs.toArray).reverse else keys.zip vs.toArray) #[] 7 none) G j hka hk hlen hZ hstart ?_ rfl (Stable.refl _) h
    intro i j hij hj
    have hj2 : j < (if b = true then (keys.zip vs.toArray).reverse else keys.zip vs.toArray).size := hj
    rw [hstart.size_eq, hzs] at hj2
    rw [List.size_toArray] at h2
    have : i = j := by omega
    subst this
    exact Int.le_refl _
  · rw [if_neg h2, if_neg h2]
    rw [List.size_toArray] at h2
    rw [ksk_kind hk (by rw [hsz]; omega)]
    refine wpAny_bind (wpAny_pure ?_)
    have hss : (if b = true then (keys.zip vs.toArray).reverse else keys.zip vs.toArray).size = vs.length := by rw [hstart.size_eq, hzs]
    refine wpAny_bind (wpAny_mono (wpS_sortRunsSt (κ := intKind) (a₀ := if b = true then (keys.zip vs.toArray).reverse else keys.zip vs.toArray)
      (st := SortSt.mk' oneType' (if b = true then (keys.zip vs.toArray).reverse else keys.zip vs.toArray) #[] 7 none)
      (Q := fun _ st' => (arrOf st').Perm (keys.zip vs.toArray) ∧ failedOf st' = none ∧ SortedTo (arrOf st') (arrOf st').size ∧
        Stable intKind (arrOf st') (if b = true then (keys.zip vs.toArray).reverse else keys.zip vs.toArray))
      intKind_oneLt ((ksk_keysOfInt (ksk_intKeys hk)).perm hstart) ⟨Array.Perm.refl _, rfl, rfl⟩ rfl (Stable.refl _) (by rw [hss]; omega)
      fun st' a1 a2 a3 a4 => ⟨a1.trans hstart, a2, by rw [a1.size_eq]; exact sortedTo_of_int a3, a4⟩) ?_ fun _ _ e => e)
    rintro ⟨⟨⟩, st'⟩ s' ⟨rfl, hp, hf, hs, hst⟩
    try dsimp only
    exact kj_tail G j hka hk hlen hZ hp hs hf hst h
/-- the key of each -/
def KTurn (prog : Program) (w : World) (A : Around) (f : Value) (vs : List Value) (kz : List Int) (J : Array Value → Nat → Shared → Prop) : Prop :=
  ∀ (i : Nat) (v : Value) (k : Int), vs[i]? = some v → kz[i]? = some k → ∀ kA e s, J kA e s →
    wpAny (model prog w) A (call f [v]) (fun u s' => ∃ t, u = .int k t ∧ J kA e s') (fun _ _ => False) s
theorem kj_rest {f : Value} (G : KJ a kS e1 J) (j : J #[] 0 s) (hka : kS ≠ a) (hlen : kz.length = vs.length) (hZ : vs.length ≤ sizeLine) (turn : KTurn prog w A f vs kz J) (h : ∀ kA e s', J kA e s' → KFin a kS b kz vs P s') :
    wpAny (model prog w) A (ksk_rest a f b vs.toArray e1 (.ref kS)) P E s := by
  have hZ2 := hZ
  rw [sizeLine_eq] at hZ2
  unfold ksk_rest
  refine wpAny_bind (wpAny_rule ?_)
  first
    | rw [List.forIn_toArray]
    | (rw [← Array.forIn_toList]; simp only [List.toList_toArray])
    | rw [← Array.forIn_toList]
  refine wpAny_bind (ksk_fold (fun i s' => ∃ kA e, J kA e s' ∧ IntsAre kA.toList (kz.take i)) vs 0 s ⟨#[], 0, j, by simpa using IntsAre.nil⟩ ?step ?done)
  case step =>
    rintro j x s' hx ⟨kA, e, j', hk⟩
    simp only [Nat.zero_add] at hk ⊢
    have hj : j < vs.length := (List.getElem?_eq_some_iff.mp hx).1
    obtain ⟨k, hkj⟩ : ∃ k, kz[j]? = some k := ⟨_, List.getElem?_eq_getElem (by omega)⟩
    have hz : kA.size ≤ vs.length := by
      have h1 := hk.length
      rw [Array.length_toList, List.length_take] at h1
      omega
    refine wpAny_bind (wpAny_attempt (wpAny_mono (turn j x k hx hkj kA e _ j') (fun v s'' he => ?_) fun _ _ hF => hF.elim))
    obtain ⟨t2, rfl, j2⟩ := he
    try dsimp only
    have nk := G.k j2
    have s1 := Heap.SameBut.update s''.heap kS (Obj.mapSeq (·.push (.int k t2)))
    obtain ⟨c2, hc2⟩ : ∃ c2, (s''.heap.update kS (Obj.mapSeq (·.push (.int k t2)))).get? kS = some (seqObj "list" (kA.push (.int k t2)) c2) := ⟨_, get?_update_seq nk (·.push (.int k t2))⟩
    have ek : kz.take (j + 1) = kz.take j ++ [k] := by rw [List.take_add_one, hkj]; simp
    have ea : (kA.push (Value.int k t2)).toList = kA.toList ++ [Value.int k t2] := by simp
    refine wpAny_bind (listUpdate_at nk rfl ?_ (by rw [sizeLine_eq]; omega) (Nat.le_trans (Nat.le_of_eq (Array.size_push ..)) (by rw [sizeLine_eq]; omega)))
    exact wpAny_pure ⟨rfl, kA.push (.int k t2), c2, G.up j2 _ _ _ s1 hc2, by rw [ea, ek]; exact ksk_snoc hk⟩
  case done =>
    rintro s' ⟨kA, e, j', hk⟩
    have hk' : IntsAre kA.toList kz := by
      have e3 : kz.take (0 + vs.length) = kz := List.take_of_length_le (by omega)
      rw [e3] at hk
      exact hk
    try dsimp only
    refine wpAny_bind (listItems_at (G.k j') rfl ?_)
    exact kj_end G j' hka hk' hlen hZ (h kA e s' j')
/-- what the list at a wants of the invariant -/
structure KStart (prog : Program) (w : World) (A : Around) (f : Value) (b : Bool) (a : Addr) (vs : List Value) (kz : List Int) (P : PySem.Fin → Shared → Prop) (s : Shared) : Prop where
  go : ∀ h1 h3 kS e1, Heap.SameBut a s.heap h1 → h1.get? a = some (seqObj "list" #[] e1) → h1.objs.size = s.heap.objs.size → (∀ b o, h1.get? b = some o → h3.get? b = some o) → h1.objs.size ≤ kS → h3.get? kS = some (seqObj "list" #[] 0) →
    ∃ J, KJ a kS e1 J ∧ J #[] 0 { s with heap := h3 } ∧ KTurn prog w A f vs kz J ∧ ∀ kA e s', J kA e s' → KFin a kS b kz vs P s'
theorem kj_sort {f : Value} {n : Nat} (ho : s.heap.get? a = some (seqObj "list" vs.toArray n)) (hlen : kz.length = vs.length) (hZ : vs.length ≤ sizeLine) (T : KStart prog w A f b a vs kz P s) :
    wpAny (model prog w) A (ksk_tree a f b) P E s := by
  have hZ2 := hZ
  rw [sizeLine_eq] at hZ2
  have ha : a < s.heap.objs.size := Heap.lt_size ho
  have s1 := Heap.SameBut.update s.heap a (Obj.mapSeq fun _ => (#[] : Array Value))
  obtain ⟨e1, ho1⟩ : ∃ e1, (s.heap.update a (Obj.mapSeq fun _ => (#[] : Array Value))).get? a = some (seqObj "list" #[] e1) := ⟨_, get?_update_seq ho fun _ => #[]⟩
  have hkS : ((s.heap.update a (Obj.mapSeq fun _ => (#[] : Array Value))).push (seqObj "tuple" vs.toArray 0)).objs.size = s.heap.objs.size + 1 := by rw [size_push', Heap.size_update]
  unfold ksk_tree
  refine wpAny_bind (listItems_at ho rfl ?_)
  refine wpAny_bind (listUpdate_at ho rfl ?_ (by rw [List.size_toArray, sizeLine_eq]; omega) (Nat.zero_le _))
  refine wpAny_bind (seqEpoch_at ho1 rfl ?_)
  refine wpAny_bind (wpAny_newTuple ?_ (by show vs.length ≤ _; rw [sizeLine_eq]; omega))
  refine wpAny_bind (wpAny_newList ?_ (Nat.zero_le _))
  refine wpAny_holding ?_
  have z1 : (s.heap.update a (Obj.mapSeq fun _ => (#[] : Array Value))).objs.size = s.heap.objs.size := Heap.size_update ..
  have z3 : ((((s.heap.update a (Obj.mapSeq fun _ => (#[] : Array Value))).push (seqObj "tuple" vs.toArray 0)).push (seqObj "list" #[] 0))).get? ((s.heap.update a (Obj.mapSeq fun _ => (#[] : Array Value))).push (seqObj "tuple" vs.toArray 0)).objs.size = some (seqObj "list" #[] 0) := Heap.get?_push_size _ rfl
  have z2 : ∀ b o, (s.heap.update a (Obj.mapSeq fun _ => (#[] : Array Value))).get? b = some o → (((s.heap.update a (Obj.mapSeq fun _ => (#[] : Array Value))).push (seqObj "tuple" vs.toArray 0)).push (seqObj "list" #[] 0)).get? b = some o := fun b o q => Heap.get?_push_of_some _ (Heap.get?_push_of_some _ q)
  have z4 : (s.heap.update a (Obj.mapSeq fun _ => (#[] : Array Value))).objs.size ≤ ((s.heap.update a (Obj.mapSeq fun _ => (#[] : Array Value))).push (seqObj "tuple" vs.toArray 0)).objs.size := by rw [hkS, z1]; exact Nat.le_succ _
  have z5 : ((s.heap.update a (Obj.mapSeq fun _ => (#[] : Array Value))).push (seqObj "tuple" vs.toArray 0)).objs.size ≠ a := by rw [hkS]; exact Nat.ne_of_gt (Nat.lt_succ_of_lt ha)
  generalize ((s.heap.update a (Obj.mapSeq fun _ => (#[] : Array Value))).push (seqObj "tuple" vs.toArray 0)).push (seqObj "list" #[] 0) = h3 at z2 z3 ⊢
  generalize ((s.heap.update a (Obj.mapSeq fun _ => (#[] : Array Value))).push (seqObj "tuple" vs.toArray 0)).objs.size = kS at z3 z4 z5 ⊢
  generalize s.heap.update a (Obj.mapSeq fun _ => (#[] : Array Value)) = h1 at s1 ho1 z1 z2 z4
  obtain ⟨J, G, j, t, h⟩ := T.go h1 h3 kS e1 s1 ho1 z1 z2 z4 z3
  exact kj_rest (s := { s with heap := h3 }) G j z5 hlen hZ t h
end
section
variable {prog : Program} {w : World} {A : Around} {E : Value → Shared → Prop} {s : Shared} {l : Addr} {b : Bool} {vs : List Value} {kz : List Int} {Q : Value → Shared → Prop}
theorem kj_sorted {f : Value} {kw : List (Str × Value)} (hl : s.heap.IsList l vs.toArray) (hlen : kz.length = vs.length) (hZ : vs.length ≤ sizeLine)
    (ha1 : argsOk "sorted" ⟨[.ref l], kw⟩) (ha2 : ∀ x, argsOk "list.sort" ⟨[.ref x], kw⟩) (ht : ∀ x, Builtin.«list.sort» ⟨[.ref x], kw⟩ = ksk_tree x f b)
    (T : ∀ h' a, (∀ b o, s.heap.get? b = some o → h'.get? b = some o) → s.heap.objs.size ≤ a → h'.get? a = some (seqObj "list" vs.toArray 0) → KStart prog w A.in1.in1 f b a vs kz (fun r s' => r = .done (.ret .none) ∧ Q (.ref a) s') { s with heap := h' }) :
    wpAny (model prog w) A (call (.builtin "sorted") [.ref l] kw) Q E s := by
  have hZ2 := hZ
  rw [sizeLine_eq] at hZ2
  refine call_function_entry_kw kind_sorted plain_sorted entry_sorted ha1 ?_
  unfold Builtin.«sorted»
  refine wpAny_bind (m := checkCount "sorted" 1 1 _) (wpAny_pure ?_)
  refine wpAny_bind (collect_list hl ?_ (by rw [sizeLine_eq]; omega))
  refine wpAny_bind (wpAny_newList ?_ (by rw [sizeLine_eq]; omega))
  have hsz : ((s.heap.push (seqObj "list" #[] 0)).update s.heap.objs.size (Obj.mapSeq (· ++ vs.toArray))).objs.size = s.heap.objs.size + 1 := by
    rw [Heap.size_update, size_push']
  have hoL : (((s.heap.push (seqObj "list" #[] 0)).update s.heap.objs.size (Obj.mapSeq (· ++ vs.toArray))).push (seqObj "list" vs.toArray 0)).get? (s.heap.objs.size + 1) = some (seqObj "list" vs.toArray 0) := by
    rw [← hsz]; exact Heap.get?_push_size _ rfl
  have keep : ∀ b o, s.heap.get? b = some o → (((s.heap.push (seqObj "list" #[] 0)).update s.heap.objs.size (Obj.mapSeq (· ++ vs.toArray))).push (seqObj "list" vs.toArray 0)).get? b = some o := fun b o q => by
    have hlt : b < s.heap.objs.size := Heap.lt_size q
    rw [Heap.get?_push_ne _ _ _ (by rw [hsz]; exact Nat.ne_of_lt (Nat.lt_succ_of_lt hlt)), Heap.get?_update_ne _ _ _ _ (Nat.ne_of_lt hlt), Heap.get?_push_ne _ _ _ (Nat.ne_of_lt hlt)]
    exact q
  show wpAny _ _ _ _ _ { s with heap := ((s.heap.push (seqObj "list" #[] 0)).update s.heap.objs.size (Obj.mapSeq (· ++ vs.toArray))).push (seqObj "list" vs.toArray 0) }
  rw [hsz]
  refine wpAny_bind (wpAny_holding (wpAny_call_entry_kw slot_list_sort ⟨_, hoL, rfl⟩ entry_list_sort ?body (ha2 _)))
  case body =>
    have ht' := ht (s.heap.objs.size + 1)
    show wpAny (model prog w) A.in1.in1 (Builtin.«list.sort» ⟨[.ref (s.heap.objs.size + 1)], kw⟩) _ _ _
    rw [ht']
    refine wpAny_mono (kj_sort (s := { s with heap := ((s.heap.push (seqObj "list" #[] 0)).update s.heap.objs.size (Obj.mapSeq (· ++ vs.toArray))).push (seqObj "list" vs.toArray 0) }) hoL hlen hZ (T _ _ keep (Nat.le_succ _) hoL)) (fun r s' hr => ?_) fun _ _ hE => hE
    obtain ⟨rfl, hq⟩ := hr
    exact ⟨_, rfl, wpAny_pure ⟨_, rfl, hq⟩⟩
end
end Ev

set_option Elab.async false
set_option linter.all false
set_option autoImplicit false
set_option maxRecDepth 100000
set_option maxHeartbeats 4000000
/-! EvK: sorted(.., key=lambda ..) -/
namespace Ev
open PySem PySem.Spec L2 PyProof.Rows
section
variable {X : Cx} {pins : List (Addr × Obj)} {σ : St} {H : Hp} {s : Shared}
/-- the lambda is made -/
theorem lam_mk {c P : Addr} {q : Str} {params : Arguments} {body : Expr} {scope : Scope} {pos : Pos} {E : Value → Shared → Prop} {Q : Value → Shared → Prop} (I : Inv X pins σ H s) (TB : LamX.TabB X.base X.mg c P) (hcode : X.env.code = .ref c)
    (hT : LamX.TabS H P q) (hq : X.env.qual ++ "<lambda>" = q) (hdef : defaultsOf params X.env = ([], [])) (hfree : ∀ y ∈ scope.names, y.2 = .free → ∃ c, X.env.cells.lookup y.1 = some c)
    (h : ∀ (f c' : Addr) (pm ctv : Value) (H1 : Hp) (s' : Shared), Inv X pins σ H1 s' → Sub H H1 → LamX.TabS H1 P q →
      s'.heap.get? f = some (PySem.W.kla_obj "<lambda>" q params body scope (cloFrom X.env.cells scope.names []) pm c' ctv) → s.heap.objs.size ≤ f → H1 f = none → H1 c' = some (LamX.CodeO c' q) → Q (.ref f) s') :
    wpAny (model X.prog X.w) X.A (eval (.Lambda params body scope pos) X.env) Q E s := by
  subst hq
  obtain ⟨ps, hP, ht, ha⟩ := hT
  refine PySem.W.kla_eval hdef ?_
  have bP : s.heap.BuiltinsAt X.mg P := TB.bm.keeps I.bk
  have hP' : s.heap.get? P = some { cls := .none, data := .fields ps } := I.hok P _ hP
  cases hc : codeAmong pos ps.toList with
  | none =>
    refine PySem.W.kla_makeFunction (mg := X.mg) (c := c) (P := P) (ps := ps) (closure_ok hfree) I.ok.glob (I.mod.glob.keeps I.bk) hcode (TB.code.keeps I.bk) hP' ht hc TB.gP bP fun c' ctv h' tk hx hge hlt hrec htb => ?_
    obtain ⟨c2, oc, vs, t, e2, hoc, hd, hv⟩ := hrec
    cases e2
    have hsz : s.heap.objs.size ≤ h'.objs.size := Nat.le_trans hge (Nat.le_of_lt hlt)
    have nC : H c' = none := I.hok.fresh hge
    have I1 := LamX.inv_table (t' := tk) (more := #[rawInt pos.line, rawInt pos.col, .ref c']) (h' := h'.push (PySem.W.kla_obj "<lambda>" (X.env.qual ++ "<lambda>") params body scope (cloFrom X.env.cells scope.names []) ((X.mg "__name__").getD .none) c' ctv)) I hP
      (fun b o hb e => Heap.get?_push_of_some _ (hx b o hb e)) (Heap.get?_push_of_some _ htb) hge ⟨oc, vs, t, Heap.get?_push_of_some _ hoc, hd, hv⟩
    have hE : ∀ b o, H b = some o → (∀ ps, o ≠ .tbl ps) → L2.upd (L2.upd H P (.tbl (ps ++ #[rawInt pos.line, rawInt pos.col, .ref c']))) c' (LamX.CodeO c' (X.env.qual ++ "<lambda>")) b = some o := fun b o e n => by
      rw [upd_ne (ne_of_none e nC), upd_ne (fun z => n ps (Option.some.inj (e.symm.trans (by rw [z]; exact hP))))]
      exact e
    have eL : (ps ++ #[rawInt pos.line, rawInt pos.col, .ref c']).toList = ps.toList ++ [rawInt pos.line, rawInt pos.col, .ref c'] := by simp
    refine h h'.objs.size c' ((X.mg "__name__").getD .none) ctv _ _ I1 ⟨fun b o e n => hE b o e n.ne, fun b ⟨o, e⟩ => ?_⟩ ?_ (Heap.get?_push_size _ rfl) hsz ?_ upd_same
    · by_cases h1 : b = c'
      · rw [h1, upd_same]; exact ⟨_, rfl⟩
      · rw [upd_ne h1]
        by_cases h2 : b = P
        · rw [h2, upd_same]; exact ⟨_, rfl⟩
        · rw [upd_ne h2]; exact ⟨o, e⟩
    · refine ⟨_, by rw [upd_ne (ne_of_none hP nC), upd_same], by rw [eL]; exact PySem.TriplesOk_snoc _ _ _ _ ht, fun p' cv hcv => ?_⟩
      rw [eL] at hcv
      rcases LamX.among_app _ ht hcv with z | z
      · obtain ⟨c0, e1, e2⟩ := ha p' cv z
        exact ⟨c0, e1, hE _ _ e2 LamX.codeO_ne⟩
      · exact ⟨c', z, upd_same⟩
    · have n1 : h'.objs.size ≠ c' := Nat.ne_of_gt hlt
      have n2 : h'.objs.size ≠ P := Nat.ne_of_gt (Nat.lt_of_lt_of_le (Heap.lt_size hP') hsz)
      rw [upd_ne n1, upd_ne n2]
      exact I.hok.fresh hsz
  | some cv =>
    obtain ⟨c', e, hco⟩ := ha pos cv hc
    subst e
    refine PySem.W.kla_makeFunctionHit (mg := X.mg) (c := c) (P := P) (ps := ps) (closure_ok hfree) I.ok.glob (I.mod.glob.keeps I.bk) hcode (TB.code.keeps I.bk) hP' ht hc bP fun ctv h' tk hx hsz => ?_
    have I1 : Inv X pins σ H { s with heap := h'.push (PySem.W.kla_obj "<lambda>" (X.env.qual ++ "<lambda>") params body scope (cloFrom X.env.cells scope.names []) ((X.mg "__name__").getD .none) c' ctv), toks := tk } := I.kept fun b o e => Heap.get?_push_of_some _ (hx b o e)
    exact h h'.objs.size c' ((X.mg "__name__").getD .none) ctv H _ I1 (Sub.refl H) ⟨ps, hP, ht, ha⟩ (Heap.get?_push_size _ rfl) hsz (I.hok.fresh hsz) hco
/-- an object of ours, untracked so far, is tracked from now on -/
theorem inv_track {t' : Nat} {T : Addr} {ob : HO} {h' : Heap} (I : Inv X pins σ H s) (k : ∀ b o, b ≠ T → s.heap.get? b = some o → h'.get? b = some o) (hf : FpOk X pins H T)
    (new : ObjOk X.prog X.w (L2.upd H T ob) h' T ob) : Inv X pins σ (L2.upd H T ob) { s with heap := h', toks := t' } := by
  obtain ⟨hn, f1, f2, f3, f4, f5⟩ := hf
  have ch : ∀ b, b ∉ [T] → b ≠ T := fun b hb z => hb (by rw [z]; exact List.mem_cons_self)
  refine I.step (g' := s.gens) (d' := s.drawn) (ch := [T]) (fun b hb => by rw [List.mem_singleton.mp hb]; exact ⟨f3, f1, f4, f5⟩) (fun b o _ _ hc e _ => k b o (ch b hc) e) (fun b o _ _ hc e _ => ⟨o.slots, k b o (ch b hc) e⟩)
    (fun b o hc e n => by rw [upd_ne (ch b hc)]; exact n) (fun b o hc e => ⟨o, k b o (ch b hc) e⟩) (fun b xs e => by rw [upd_ne (ne_of_none e hn)]; exact e) (fun b o u e => by rw [upd_ne (ne_of_none e hn)]; exact e) (fun b ps e => ⟨#[], by rw [upd_ne (ne_of_none e hn), e]; simp⟩) (fun m hm => ?_) (fun b u e => ?_) I.bare
  · obtain ⟨o, es, ep, ho, r⟩ := hm
    exact ⟨o, es, ep, k _ o (fun z => f1 z.symm) ho, r⟩
  · by_cases hb : b = T
    · subst hb
      rw [upd_same] at e
      cases e
      exact new
    · rw [upd_ne hb] at e
      refine (I.hok b u e).stay (fun c v hc q => k c v ?_ q) (fun c q => by rw [upd_ne (ne_of_none q hn)]; exact q) fun c xs q => by rw [upd_ne (ne_of_none q hn)]; exact q
      rcases hc with z | z
      · rw [z]; exact hb
      · exact ne_of_none z hn
/-- what the lambda's own names are -/
structure LamOk (scope : Scope) : Prop where
  S : FnScope ["tree"] ["tree"] scope
  par : scope.names.lookup ("tree" : Str) = some NameKind.local
  gl : scope.names.lookup ("depth_sum" : Str) = some NameKind.globalImplicit
theorem LamOk.clo {scope : Scope} (L : LamOk scope) (cells : List (Str × Addr)) : cloFrom cells scope.names [] = [] := List.eq_nil_iff_forall_not_mem.mpr fun ⟨n, c⟩ h => by
  rcases cloFrom_mem h with z | ⟨z, _⟩
  · cases z
  · exact L.S.nofree _ z rfl
theorem lam_body {Z : Cx} {k : Nat} {p1 p2 p3 : Pos} {F : List C → Option C} (c : Fn Z.prog Z.w Z.K Z.mg Z.base "depth_sum" ["tree"] k F) (hr : Room k Z.A) (hg : Gl Z "depth_sum") (hN : Z.N[0]? = some ("tree" : Str)) (hv : Z.env.scope.names.lookup ("tree" : Str) = some NameKind.local) :
    REC Z (.Call (.Name "depth_sum" p1) [.Name "tree" p2] [] p3) (eCall F (aCons (eToC (eVar 0)) aNil)) :=
  r_fn c hr hg (r_acons (r_toC (r_var 0 (pe_var hN (.inl hv)))) r_anil)
/-- the lambda is called -/
theorem lam_call {k : Nat} {q : Str} {f c' : Addr} {pm ctv : Value} {scope : Scope} {pt p1 p2 p3 : Pos} {F : List C → Option C} {A : Around} {x : V} {u : Value} {O : Addr → Prop} {d : D} {i : Int}
    (I : Inv X pins σ H s) (L : LamOk scope) (c : Fn X.prog X.w X.K X.mg X.base "depth_sum" ["tree"] k F) (hr : Room (k + 1) A) (e0 : Env0 X.prog X.w X.K X.mg X.base A X.stack s H)
    (hf : s.heap.get? f = some (PySem.W.kla_obj "<lambda>" q ⟨[], [⟨"tree", none, pt⟩], none, [], [], none, []⟩ (.Call (.Name "depth_sum" p1) [.Name "tree" p2] [] p3) scope [] pm c' ctv)) (hco : H c' = some (LamX.CodeO c' q))
    (ru : RelV x u) (rx : Rp (hid O H) x d) (hO : ∀ a, O a → ∃ o, H a = some o) (hT : TB (wX X) H) (hF : F [.d d] = some (.d (.int i))) :
    wpAny (model X.prog X.w) A (call (.ref f) [u]) (fun v s' => ∃ t H', v = .int i t ∧ Inv X pins σ H' s' ∧ Same (wX X) H H') (fun _ _ => False) s := by
  obtain ⟨⟨oc, vs, t, hoc, hdc, hvc⟩, _, _⟩ := I.hok c' _ hco
  have lim : s.heap.NoLimit := e0.mod.nolimit.keeps fun b o e => (e0.bs b o e).1
  have rc : codeAny (model X.prog X.w) A (.call (.ref f) ⟨[u], []⟩) (CR CX0 X.stack X.prog X.w H s (fun v H' => v = .int i ∧ Same (wX X) H H') (fun _ _ _ => False)) s := by
    refine PySem.W.kla_callFunE hr.depth hf rfl L.S.co L.S.gen rfl ⟨c', oc, vs, t, rfl, hoc, hdc, hvc⟩ ?_
    rw [show bindArgs (PySem.W.kla_fn "<lambda>" q ⟨[], [⟨"tree", none, pt⟩], none, [], [], none, []⟩ (.Call (.Name "depth_sum" p1) [.Name "tree" p2] [] p3) scope [] pm (.ref c') ctv) ⟨[u], []⟩ = pure ((["tree"] : List Str).zip [u]) from rfl]
    refine wpAny_pure (wpAny_newFunctionEnv_cells L.S.kind (fun ⟨n, v⟩ hy => .inl ?_) fun env he s1 x => ⟨lim.keeps x.toInCall.keep, ?_⟩)
    · rw [List.mem_singleton.mp (List.of_mem_zip hy).1]
      exact L.par
    subst he
    have J : Inv (cxOf CX0 X.prog X.w X.K X.mg X.base ["tree"] q scope f (.ref c') A X.stack s H (fun _ _ _ => False)) [] (L2.start ["tree"] [_]) H s1 := inv_start L.S hr.hd e0 rfl (.cons ru .nil) x
    have hb : REC (cxOf CX0 X.prog X.w X.K X.mg X.base ["tree"] q scope f (.ref c') A X.stack s H (fun _ _ _ => False)) (.Call (.Name "depth_sum" p1) [.Name "tree" p2] [] p3) (eCall F (aCons (eToC (eVar 0)) aNil)) :=
      lam_body (Z := cxOf CX0 X.prog X.w X.K X.mg X.base ["tree"] q scope f (.ref c') A X.stack s H (fun _ _ _ => False)) c (hr.deeper _) L.gl rfl L.par
    have E1 : EnvOk (wX X) O (fun _ => none) H (L2.start ["tree"] [_]) [some (.d d)] := ⟨rfl, hO, (fun i a z => nomatch z), (fun i j a z => nomatch z), fun j c z => .inl (by
      cases j with
      | zero => cases z; exact ⟨_, rfl, .d rx⟩
      | succ j => simp at z), hT⟩
    refine PySem.W.kla_codeExpr (wpAny_mono (hb.run [] _ _ H (fun v H' => v = .int i ∧ Same (wX X) H H') J ⟨O, fun _ => none, [some (.d d)], .d (.int i), E1, ?_, fun v H' k2 r2 => ?_⟩) (fun v s' hq => ?_) fun e s' hq => hq)
    · show (match (aCons (eToC (eVar 0)) aNil) [some (.d d)] with | some cs => F cs | none => none) = _
      exact hF
    · cases r2 with
      | d r2 => cases r2; exact ⟨rfl, k2⟩
    · obtain ⟨w', H', J', rv, z⟩ := hq
      exact ⟨w', H', J'.os, J'.bare, J'.base, J'.hok, rv, z⟩
  refine wpAny_call (codeAny_mono rc fun r s' hq => ?_)
  cases r with
  | error e => exact (show False from hq).elim
  | ok fl =>
    cases fl with
    | ret u2 =>
      obtain ⟨v, H', I', rv, ev, k2⟩ := I.after hq
      subst ev
      obtain ⟨t2, e2⟩ : ∃ t, u2 = .int i t := rv
      exact ⟨t2, H', e2, I', k2⟩
    | next => exact False.elim hq
    | brk => exact False.elim hq
    | cont => exact False.elim hq
end
end Ev

set_option Elab.async false
set_option linter.all false
set_option autoImplicit false
set_option maxRecDepth 100000
set_option maxHeartbeats 4000000
/-! EvL: sorted(.., key=lambda ..), the rule -/
namespace Ev
open PySem PySem.Spec L2 PyProof.Rows
theorem ksOf_spec {F : List C → Option C} : ∀ {ds : List D} {ks : List (Int × D)}, ksOf F ds = some ks → ks.map Prod.snd = ds ∧ ∀ (i : Nat) (d : D), ds[i]? = some d → ∃ k : Int, (ks.map Prod.fst)[i]? = some k ∧ F [.d d] = some (.d (.int k))
  | [], ks, h => by
    cases h
    exact ⟨rfl, fun i d e => by simp at e⟩
  | d :: r, ks, h => by
    unfold ksOf at h
    split at h
    · rename_i i hF
      split at h
      · rename_i ks' hk
        cases h
        obtain ⟨h1, h2⟩ := ksOf_spec hk
        refine ⟨by simp [h1], fun j e he => ?_⟩
        cases j with
        | zero => simp at he; subst he; exact ⟨i, by simp, hF⟩
        | succ j => simpa using h2 j e (by simpa using he)
      · cases h
    · cases h
theorem R2.zipV {xs : List V} {vs : List Value} (r : Vals xs vs) : ∀ kz : List Int, R2 RelV (kz.zip xs) (kz.zip vs) := by
  induction r with
  | nil => intro kz; cases kz <;> exact .nil
  | cons a _ ih =>
    intro kz
    cases kz with
    | nil => exact .nil
    | cons k kz => exact .cons a (ih kz)
theorem R2.zipR {H : Hp} : ∀ {ks : List (Int × D)} {xs : List V}, RpA H xs (ks.map Prod.snd) → R2 (Rp H) ((ks.map Prod.fst).zip xs) ks
  | [], xs, r => by cases r; exact .nil
  | (k, d) :: ks, xs, r => by
    cases r with
    | cons a b => exact .cons a (R2.zipR b)
theorem R2.vals {l : List (Int × V)} {m : List (Int × Value)} (r : R2 RelV l m) : Vals (kvalsD l) (kvalsD m) := by
  induction r with
  | nil => exact .nil
  | cons a _ ih => exact .cons a ih
theorem R2.rpa {H : Hp} {l : List (Int × V)} {m : List (Int × D)} (r : R2 (Rp H) l m) : RpA H (kvalsD l) (kvalsD m) := by
  induction r with
  | nil => exact .nil
  | cons a _ ih => exact .cons a ih
instance {c : Addr} {q : Str} : NT (LamX.CodeO c q) := ⟨fun ps => LamX.codeO_ne ps⟩
theorem boot_sorted : bootBuiltins ("sorted" : Str) = some (.builtin "sorted") := by decide +kernel
theorem r_sortKey {X : Cx} {k : Nat} {a : Expr} {p pos pt p1 p2 p3 pl pk : Pos} {scope : Scope} {F : List C → Option C} {f : Env → Option D} {c P : Addr} (hc : X.calm = true) (hg : Gl X "sorted") (hm : X.mg "sorted" = none)
    (hfn : Fn X.prog X.w X.K X.mg X.base "depth_sum" ["tree"] k F) (hr : Room (k + 3) X.A) (TBb : LamX.TabB X.base X.mg c P) (hP : ∀ a, (wX X).P a ↔ a = P) (hcode : X.env.code = .ref c) (hq : X.env.qual ++ "<lambda>" = qL) (L : LamOk scope) (ha : RE X a f)
    (he : starEach [a] X.env = (false, eval a X.env) :: starEach [] X.env := by rfl) :
    RE X (.Call (.Name "sorted" p) [a] [⟨some "key", .Lambda ⟨[], [⟨"tree", none, pt⟩], none, [], [], none, []⟩ (.Call (.Name "depth_sum" p1) [.Name "tree" p2] [] p3) scope pl, pk⟩] pos) (eSortK F f) := by
  refine ⟨fun pins s σ H Q I ⟨O, own, env, r, E, e, q⟩ => ?_⟩
  unfold eSortK at e
  split at e
  case h_2 => cases e
  rename_i ds hf
  split at e
  case h_2 => cases e
  rename_i ks hks
  cases e
  obtain ⟨ksd, ksk⟩ := ksOf_spec hks
  refine wpAny_Call_Name_kw (ld_blt I hg hm boot_sorted ?_)
  refine callWith_kw (thn ((r_acons (r_toC ha) r_anil he).run pos pins s σ H (fun vs H1 => Same (wX X) H H1 ∧ RpCA (wX X) (hid O H1) vs [.d (.lst ds)]) I ⟨O, own, env, [.d (.lst ds)], E, ?_, fun vs H1 k1 r1 => ⟨k1, r1⟩⟩) fun us s1 ⟨vs0, H1, I1, rv, k1, r1⟩ => ?_) (by rw [he]; rfl) (by rw [he]; rfl)
  · simp [aCons, eToC, aNil, hf]
  cases r1 with
  | cons r1 r1' =>
  cases r1'
  cases r1 with
  | d r1 =>
  cases r1 with
  | @lst l xs _ hl hx =>
  have eus : us = [.ref l] := by
    cases rv with
    | cons a b =>
      cases b
      exact congrArg (· :: []) a
  subst eus
  have T1 : LamX.TabS H1 P qL := (E.mono k1).tab P ((hP P).mpr rfl)
  refine PyProof.Rows.kws_cons (lam_mk I1 TBb hcode T1 hq rfl (fun y hy z => absurd z (L.S.nofree y hy)) fun g c' pm ctv H2 s2 I2 k2 T2 hgo hgs hgn hco => PyProof.Rows.kws_nil ?_)
  rw [L.clo] at hgo
  have S2 : Same (wX X) H1 H2 := ⟨k2, fun z a ha => by rw [(hP a).mp ha]; exact T2⟩
  have S02 := k1.trans S2
  have E2 := E.mono S02
  show wpAny (model X.prog X.w) X.A (call (.builtin "sorted") [.ref l] [(Str.ofString "key", .ref g)]) _ X.xe s2
  have hl2 : H2 l = some (.lst xs) := k2.ap (hid_ap hl)
  have hx2 : RpA (hid O H2) xs ds := hx.mono (hid_mono S2)
  obtain ⟨hz, its, n, rvs, hlo⟩ := I2.hok l _ hl2
  have hlx := hx2.length
  have hlv := rvs.length
  have hk1 : (ks.map Prod.fst).length = its.length := by rw [List.length_map, ← hlv, hlx, ← ksd, List.length_map]
  have zl : its.length ≤ sizeLine := by rw [← hlv]; exact hz
  refine kj_sorted (b := false) (vs := its) (kz := ks.map Prod.fst) ⟨_, hlo, rfl, n, rfl⟩ hk1 zl (ksk_s1 _ _) (fun x => ksk_l1 _ _) (fun x => ksk_t1 _ _) fun h' a0 keep hsz hga => ⟨fun h1 h3 kS e1 sb1 ho1 hsz1 keep3 hsz3 hk3 => ?_⟩
  have I3 : Inv X pins σ H2 { s2 with heap := h' } := I2.kept (t' := s2.toks) keep
  have fa : FpOk X pins H2 a0 := I2.fpOk hsz (I2.hok.fresh hsz)
  obtain ⟨a0n, a01, a02, a03, a04, a05⟩ := fa
  have I4 : Inv X pins σ H2 { s2 with heap := h1 } := I3.turned (t' := s2.toks) (fun b o hb q => (sb1.2 b hb).trans q) a0n a01 a03 a04 a05
  have I5 : Inv X pins σ H2 { s2 with heap := h3 } := I4.kept (t' := s2.toks) keep3
  have fk : FpOk X pins H2 kS := I4.fpOk hsz3 (I4.hok.fresh hsz3)
  obtain ⟨fkn, fk1, fk2, fk3, fk4, fk5⟩ := fk
  have nka : kS ≠ a0 := fun z => absurd (Heap.lt_size ho1) (Nat.not_lt.mpr (by rw [← z]; exact hsz3))
  have fg : FpOk X pins H2 g := I1.fpOk hgs hgn
  obtain ⟨fgn, fg1, fg2, fg3, fg4, fg5⟩ := fg
  have hgl : g < s2.heap.objs.size := Heap.lt_size hgo
  have nga : g ≠ a0 := Nat.ne_of_lt (Nat.lt_of_lt_of_le hgl hsz)
  have hg1 := (sb1.2 g nga).trans (keep g _ hgo)
  have ngk : g ≠ kS := Nat.ne_of_lt (Nat.lt_of_lt_of_le (Heap.lt_size hg1) hsz3)
  have hg3 := keep3 g _ hg1
  have cellS : ∀ (kA : Array Value) (e : Nat) v, (seqObj "list" kA e).data ≠ .cell v := fun kA e v z => nomatch z
  let pz : Array Value → Nat → List (Addr × Obj) := fun kA e => pins ++ [(kS, seqObj "list" kA e), (a0, seqObj "list" #[] e1), (g, PySem.W.kla_obj "<lambda>" qL ⟨[], [⟨"tree", none, pt⟩], none, [], [], none, []⟩ (.Call (.Name "depth_sum" p1) [.Name "tree" p2] [] p3) scope [] pm c' ctv)]
  have m1 : ∀ kA e, (kS, seqObj "list" kA e) ∈ X.pn ++ pz kA e := fun kA e => List.mem_append_right _ (List.mem_append_right _ List.mem_cons_self)
  have m2 : ∀ kA e, (a0, seqObj "list" #[] e1) ∈ X.pn ++ pz kA e := fun kA e => List.mem_append_right _ (List.mem_append_right _ (List.mem_cons_of_mem _ List.mem_cons_self))
  have m3 : ∀ kA e, (g, PySem.W.kla_obj "<lambda>" qL ⟨[], [⟨"tree", none, pt⟩], none, [], [], none, []⟩ (.Call (.Name "depth_sum" p1) [.Name "tree" p2] [] p3) scope [] pm c' ctv) ∈ X.pn ++ pz kA e := fun kA e => List.mem_append_right _ (List.mem_append_right _ (List.mem_cons_of_mem _ (List.mem_cons_of_mem _ List.mem_cons_self)))
  -- the pins but kS's
  have drop : ∀ {kA e H' s'}, Inv X (pz kA e) σ H' s' → ∀ h' tk, Heap.SameBut kS s'.heap h' → Inv X pins σ H' { s' with heap := h', toks := tk } ∧ ∀ p ∈ pz kA e, p.1 ≠ kS → h'.get? p.1 = some p.2 := fun {kA e H' s'} J h' tk sb => by
    have Iw : Inv X pins σ H' s' := J.pins_of fun p hp => J.pin p (List.mem_append_right _ (List.mem_append_left _ hp))
    exact ⟨Iw.turned (t' := tk) (fun b o hb q => (sb.2 b hb).trans q) (J.pin _ (m1 kA e)).2.1 fk1 fk3 fk4 fk5, fun p hp hn => (sb.2 p.1 hn).trans (J.pin p (List.mem_append_right _ hp)).1⟩
  refine ⟨fun kA e s' => ∃ H', Inv X (pz kA e) σ H' s' ∧ Same (wX X) H2 H', ⟨fun {kA e s'} ⟨H', J, _⟩ => (J.pin _ (m1 kA e)).1, fun {kA e s'} ⟨H', J, _⟩ => (J.pin _ (m2 kA e)).1, fun {kA e s'} ⟨H', J, kq⟩ h'' kA' e' sb hget => ?_⟩, ⟨H2, I5.pins_of fun p hp => ?_, Same.refl H2⟩, fun i v kk hv hkk kA e s' ⟨H', J, kq⟩ => ?_, fun kA e s' ⟨H', J, kq⟩ h1f h'f tk out cc sbk sba hgo2 hout => ⟨rfl, ?_⟩⟩
  · obtain ⟨Id, hd⟩ := drop J h'' s'.toks sb
    refine ⟨H', Id.pins_of fun p hp => ?_, kq⟩
    rcases List.mem_append.mp hp with hp' | hp'
    · have z := Id.pin p (List.mem_append_right _ hp')
      exact z
    · rcases List.mem_cons.mp hp' with rfl | hp'
      · exact ⟨hget, (J.pin _ (m1 kA e)).2.1, fk1, fk2, cellS _ _⟩
      · rcases List.mem_cons.mp hp' with rfl | hp'
        · have z := J.pin _ (m2 kA e)
          exact ⟨hd _ (List.mem_append_right _ (List.mem_cons_of_mem _ List.mem_cons_self)) (fun z => nka z.symm), z.2⟩
        · rw [List.mem_singleton.mp hp']
          have z := J.pin _ (m3 kA e)
          exact ⟨hd _ (List.mem_append_right _ (List.mem_cons_of_mem _ (List.mem_cons_of_mem _ List.mem_cons_self))) ngk, z.2⟩
  · rcases List.mem_append.mp hp with hp' | hp'
    · exact I5.pin p (List.mem_append_right _ hp')
    · rcases List.mem_cons.mp hp' with rfl | hp'
      · exact ⟨hk3, fkn, fk1, fk2, cellS _ _⟩
      · rcases List.mem_cons.mp hp' with rfl | hp'
        · exact ⟨keep3 _ _ ho1, a0n, a01, a02, cellS _ _⟩
        · rw [List.mem_singleton.mp hp']
          exact ⟨hg3, fgn, fg1, fg2, fun v z => nomatch z⟩
  · have hi : i < xs.length := by rw [hlv]; exact (List.getElem?_eq_some_iff.mp hv).1
    obtain ⟨x, hxi⟩ : ∃ x, xs[i]? = some x := ⟨_, List.getElem?_eq_getElem hi⟩
    obtain ⟨u, hu, ru⟩ := rvs.get hxi
    rw [hv] at hu
    cases hu
    obtain ⟨d, hd, rd⟩ := hx2.getV hxi
    obtain ⟨k0, hk0, hF⟩ := ksk i d hd
    rw [hkk] at hk0
    cases hk0
    have E3 := E2.mono kq
    refine wpAny_mono (lam_call J L hfn (hr.in1.in1.mono (by omega)) J.env0.in1.in1 (J.pin _ (m3 kA e)).1 (kq.ap hco) ru (rd.mono (hid_mono kq)) E3.there E3.tab hF) (fun v s'' ⟨t, H'', ev, I'', k''⟩ => ⟨t, ev, H'', I'', kq.trans k''⟩) fun _ _ z => z
  · obtain ⟨Id, hd⟩ := drop J h1f s'.toks sbk
    obtain ⟨ps, hpm, ho, hs, hst⟩ := hout
    have eps : ps = ksort ((ks.map Prod.fst).zip its) [] := ksort_eq (by simpa using hs) hst
    have eout : out.toList = kvalsD (ksort ((ks.map Prod.fst).zip its) []) := by rw [ho, eps, kvalsD_eq]
    have rV : Vals (kvalsD (ksort ((ks.map Prod.fst).zip xs) [])) out.toList := by
      rw [eout]; exact (R2.ksort (R2.zipV rvs _) .nil).vals
    have a0n' : H' a0 = none := (J.pin _ (m2 kA e)).2.1
    have E3 := E2.mono kq
    have hx3 : RpA (hid O H') xs (ks.map Prod.snd) := by rw [ksd]; exact hx2.mono (hid_mono kq)
    have rD : RpA (hid O H') (kvalsD (ksort ((ks.map Prod.fst).zip xs) [])) (kvalsD (ksort ks [])) := (R2.ksort (R2.zipR hx3) .nil).rpa
    have hlen : (kvalsD (ksort ((ks.map Prod.fst).zip xs) [])).length ≤ sizeLine := by
      have e1 := rV.length
      have e2 := hpm.length_eq
      rw [e1, ho, List.length_map, e2, List.length_zip]
      exact Nat.le_trans (Nat.min_le_right _ _) zl
    refine ⟨.ref a0, _, inv_track (s := { s' with heap := h1f, toks := s'.toks }) (ob := .lst (kvalsD (ksort ((ks.map Prod.fst).zip xs) []))) (t' := tk) Id (fun b o hb z => (sba.2 b hb).trans z) ⟨a0n', a01, a02, a03, a04, a05⟩ ⟨hlen, out.toList, cc, rV, by rw [hgo2]⟩, rfl, q _ _ ((S02.trans kq).trans (Same.upd a0n')) (Rp.newL a0n' (fresh_of E3.there a0n') rD)⟩
end Ev

set_option Elab.async false
set_option linter.all false
set_option autoImplicit false
set_option maxRecDepth 100000
set_option maxHeartbeats 0
namespace Ev
open PySem PySem.Spec L2
def T_is_whole : Env → Option Out := (sRet (eAnd (eIs isInt (eVar 0)) (eAnd (eNot (eIs isBool (eVar 0))) (eOfB (c3 gLe gLe (eVar 1) (eVar 0) (eVar 2))))))
def M_is_whole : List C → Option C := fnM 3 0 T_is_whole
def T_are_next : Env → Option Out := (sRet (eOfB (c2 gIn (e2 oMod (e2 oSub (eVar 1) (eVar 2)) (eVar 0)) (eTup (aCons (eToC (eInt 1)) (aCons (eToC (e2 oSub (eVar 0) (eInt 1))) aNil))))))
def M_are_next : List C → Option C := fnM 3 0 T_are_next
def T_fits_cut : Env → Option Out := (sSeq (sIf (tOrF (tNotF (eB (eIs isTuple (eVar 1)))) (tOrF (c2 gNe (e1 gLen (eVar 1)) (eInt 2)) (tNotF (eB (e1 gAll (eLV (eComp [2] (itT (eVar 1)) (gSet 2) cYes (eOfC (eCall M_is_whole (aCons (eToC (eVar 2)) (aCons (eToC (eInt 0)) (aCons (eToC (e2 oSub (eVar 0) (eInt 1))) aNil)))))))))))) (sRet (eBl false))
  sNil)
  (sRet (eAnd (eOfB (c2 gLt (e2 gIx (eVar 1) (eInt 0)) (e2 gIx (eVar 1) (eInt 1)))) (eNot (eOfC (eCall M_are_next (aCons (eToC (eVar 0)) (aCons (eToC (e2 gIx (eVar 1) (eInt 0))) (aCons (eToC (e2 gIx (eVar 1) (eInt 1))) aNil)))))))))
def M_fits_cut : List C → Option C := fnM 2 1 T_fits_cut
def T_cross : Env → Option Out := (sRet (eOr (eOfB (c4 gLt gLt gLt (e2 gIx (eVar 0) (eInt 0)) (e2 gIx (eVar 1) (eInt 0)) (e2 gIx (eVar 0) (eInt 1)) (e2 gIx (eVar 1) (eInt 1)))) (eOfB (c4 gLt gLt gLt (e2 gIx (eVar 1) (eInt 0)) (e2 gIx (eVar 0) (eInt 0)) (e2 gIx (eVar 1) (eInt 1)) (e2 gIx (eVar 0) (eInt 1))))))
def M_cross : List C → Option C := fnM 2 0 T_cross
def T_rises : Env → Option Out := (sRet (e1 gAll (eLV (eComp [1, 2] (itZ (eVar 0) (eTail (eVar 0))) (gUnp (gsCons 1 (gsCons 2 gsNil))) cYes (eOfB (c2 gLtT (eVar 1) (eVar 2)))))))
def M_rises : List C → Option C := fnM 1 2 T_rises
def T_fits_cutting : Env → Option Out := (sSeq (sIf (tOrF (tNotF (eB (eIs isTuple (eVar 0)))) (tOrF (c2 gNe (e1 gLen (eVar 0)) (eInt 2)) (tNotF (eB (eOfC (eCall M_is_whole (aCons (eToC (e2 gIx (eVar 0) (eInt 0))) (aCons (eToC (eInt 3)) (aCons (eToC (eInt 40)) aNil))))))))) (sRet (eBl false))
  sNil)
  (sSeq (sAsg (eToC (eVar 0)) (gUnp (gsCons 1 (gsCons 2 gsNil))))
  (sSeq (sIf (tOrF (tNotF (eB (eIs isTuple (eVar 2)))) (tOrF (c2 gNe (e1 gLen (eVar 2)) (e2 oSub (eVar 1) (eInt 3))) (tNotF (eB (e1 gAll (eLV (eComp [3] (itT (eVar 2)) (gSet 3) cYes (eOfC (eCall M_fits_cut (aCons (eToC (eVar 1)) (aCons (eToC (eVar 3)) aNil))))))))))) (sRet (eBl false))
  sNil)
  (sRet (eAnd (eOfC (eCall M_rises (aCons (eToC (eVar 2)) aNil))) (eNot (e1 gAny (eLV (eComp [5] (itT (eVar 2)) (gSet 5) cYes (e1 gAny (eLV (eComp [4] (itT (eVar 2)) (gSet 4) cYes (eOfC (eCall M_cross (aCons (eToC (eVar 5)) (aCons (eToC (eVar 4)) aNil))))))))))))))))
def M_fits_cutting : List C → Option C := fnM 1 5 T_fits_cutting
def T_all_ties : Env → Option Out := (sSeq (sAsg (eToC (eVar 0)) (gUnp (gsCons 1 (gsCons 2 gsNil))))
  (sRet (e1 gSortT (eCatL (eToL (eCatL (eToL (eLV (eComp [3] (itR1 (e2 oSub (eVar 1) (eInt 1))) (gSet 3) cYes (eTup (aCons (eToC (eVar 3)) (aCons (eToC (e2 oAdd (eVar 3) (eInt 1))) aNil)))))) (eToL (eLst (aCons (eToC (eTup (aCons (eToC (eInt 0)) (aCons (eToC (e2 oSub (eVar 1) (eInt 1))) aNil)))) aNil))))) (eToL (e1 gListOf (eVar 2)))))))
def M_all_ties : List C → Option C := fnM 1 3 T_all_ties
def T_near_of : Env → Option Out := (sSeq (sOwn 1 (eComp [4] (itR1 (e2 gIx (eVar 0) (eInt 0))) (gSet 4) cYes (eLst aNil)))
  (sSeq (sFor (itL (eOfC (eCall M_all_ties (aCons (eToC (eVar 0)) aNil)))) (gUnp (gsCons 2 (gsCons 3 gsNil)))
  (sSeq (sSetItem 1 (eVar 2) (eCatL (eToL (eIxL (eVarL 1) (eVar 2))) (eToL (eLst (aCons (eToC (eVar 3)) aNil)))))
  (sSetItem 1 (eVar 3) (eCatL (eToL (eIxL (eVarL 1) (eVar 3))) (eToL (eLst (aCons (eToC (eVar 2)) aNil)))))))
  (sFreeze 1 (sRet (eLV (eComp [5] (itL (eVar 1)) (gSet 5) cYes (e1 gSortI (eVar 5))))))))
def M_near_of : List C → Option C := fnM 1 5 T_near_of
def T_thirds_of : Env → Option Out := (sSeq (sAsg (eCall M_near_of (aCons (eToC (eVar 0)) aNil)) (gSet 2))
  (sRet (eLV (eComp [3] (itL (e2 gIx (eVar 2) (e2 gIx (eVar 1) (eInt 0)))) (gSet 3) (c2 gIn (eVar 3) (e2 gIx (eVar 2) (e2 gIx (eVar 1) (eInt 1)))) (eVar 3)))))
def M_thirds_of : List C → Option C := fnM 2 2 T_thirds_of
def T_need_cutting : Env → Option Out := (sIf (tNotF (eB (eOfC (eCall M_fits_cutting (aCons (eToC (eVar 0)) aNil))))) sNever
  sNil)
def M_need_cutting : List C → Option C := fnM 1 0 T_need_cutting
def T_need_corner : Env → Option Out := (sIf (tNotF (eB (eOfC (eCall M_is_whole (aCons (eToC (eVar 1)) (aCons (eToC (eInt 0)) (aCons (eToC (e2 oSub (e2 gIx (eVar 0) (eInt 0)) (eInt 1))) aNil))))))) sNever
  sNil)
def M_need_corner : List C → Option C := fnM 2 0 T_need_corner
def T_need_cut : Env → Option Out := (sIf (tOrF (tNotF (eB (eOfC (eCall M_fits_cut (aCons (eToC (e2 gIx (eVar 0) (eInt 0))) (aCons (eToC (eVar 1)) aNil)))))) (c2 gNotIn (eVar 1) (e2 gIx (eVar 0) (eInt 1)))) sNever
  sNil)
def M_need_cut : List C → Option C := fnM 2 0 T_need_cut
def T_need_sides : Env → Option Out := (sIf (tNotF (eB (eOfC (eCall M_is_whole (aCons (eToC (eVar 0)) (aCons (eToC (eInt 3)) (aCons (eToC (eVar 1)) aNil))))))) sNever
  sNil)
def M_need_sides : List C → Option C := fnM 2 0 T_need_sides
def T_need_number : Env → Option Out := (sIf (tNotF (eB (eOfC (eCall M_is_whole (aCons (eToC (eVar 0)) (aCons (eToC (eVar 1)) (aCons (eToC (eVar 2)) aNil))))))) sNever
  sNil)
def M_need_number : List C → Option C := fnM 3 0 T_need_number
def T_need_few : Env → Option Out := (sIf (c2 gGt (eVar 0) (eVar 1)) sNever
  sNil)
def M_need_few : List C → Option C := fnM 2 0 T_need_few
def T_cut_for : Env → Option Out := (sSeq (sAsg (eToC (eOfC (eCall M_thirds_of (aCons (eToC (eVar 0)) (aCons (eToC (eVar 1)) aNil))))) (gUnp (gsCons 2 (gsCons 3 gsNil))))
  (sRet (eTup (aCons (eToC (eVar 2)) (aCons (eToC (eVar 3)) aNil)))))
def M_cut_for : List C → Option C := fnM 2 2 T_cut_for
def T_with_cut : Env → Option Out := (sRet (eTup (aCons (eToC (e2 gIx (eVar 0) (eInt 0))) (aCons (eToC (e1 gTupleOf (e1 gSortT (eCatL (eToL (eLV (eComp [3] (itT (e2 gIx (eVar 0) (eInt 1))) (gSet 3) (c2 gNe (eVar 3) (eVar 1)) (eVar 3)))) (eToL (eLst (aCons (eToC (eVar 2)) aNil))))))) aNil))))
def M_with_cut : List C → Option C := fnM 3 1 T_with_cut
def T_swapped_at : Env → Option Out := (sRetC (eCall M_with_cut (aCons (eToC (eVar 0)) (aCons (eToC (eVar 1)) (aCons (eCall M_cut_for (aCons (eToC (eVar 0)) (aCons (eToC (eVar 1)) aNil))) aNil)))))
def M_swapped_at : List C → Option C := fnM 2 0 T_swapped_at
def T_exchanged : Env → Option Out := (sSeq (sDrop (eCall M_need_cutting (aCons (eToC (eVar 0)) aNil)))
  (sSeq (sDrop (eCall M_need_cut (aCons (eToC (eVar 0)) (aCons (eToC (eVar 1)) aNil))))
  (sRetC (eCall M_swapped_at (aCons (eToC (eVar 0)) (aCons (eToC (eVar 1)) aNil))))))
def M_exchanged : List C → Option C := fnM 2 0 T_exchanged
def T_tree_size (G : List C → Option C) : Env → Option Out := (sSeq (sIf (tOrF (tNotF (eB (eIs isTuple (eVar 0)))) (tOrF (c2 gNotIn (e1 gLen (eVar 0)) (eTup (aCons (eToC (eInt 0)) (aCons (eToC (eInt 2)) aNil)))) (tAndF (c2 gNe (eVar 0) (eTup aNil)) (c2 gEq (eVar 1) (eInt 0))))) (sRet eNon)
  sNil)
  (sSeq (sIf (c2 gEq (eVar 0) (eTup aNil)) (sRet (eInt 0))
  sNil)
  (sSeq (sAsg (eCall G (aCons (eToC (e2 gIx (eVar 0) (eInt 0))) (aCons (eToC (e2 oSub (eVar 1) (eInt 1))) aNil))) (gSet 2))
  (sSeq (sAsg (eToC (eIf (c2 gIsN (eVar 2) eNon) eNon (eOfC (eCall G (aCons (eToC (e2 gIx (eVar 0) (eInt 1))) (aCons (eToC (e2 oSub (e2 oSub (eVar 1) (eInt 1)) (eVar 2))) aNil)))))) (gSet 3))
  (sRet (eIf (c2 gIsN (eVar 3) eNon) eNon (e2 oAdd (e2 oAdd (eVar 2) (eVar 3)) (eInt 1))))))))
def S_tree_size (G : List C → Option C) : List C → Option C := fnM 2 2 (T_tree_size G)
def M_tree_size : List C → Option C := itF S_tree_size 8
def T_fits_tree : Env → Option Out := (sRet (eOfB (c2 gNotN (eOfC (eCall M_tree_size (aCons (eToC (eVar 0)) (aCons (eToC (eInt 24)) aNil)))) eNon)))
def M_fits_tree : List C → Option C := fnM 1 0 T_fits_tree
def T_fork_count (G : List C → Option C) : Env → Option Out := (sRet (eIf (c2 gEq (eVar 0) (eTup aNil)) (eInt 0) (e2 oAdd (e2 oAdd (eOfC (eCall G (aCons (eToC (e2 gIx (eVar 0) (eInt 0))) aNil))) (eOfC (eCall G (aCons (eToC (e2 gIx (eVar 0) (eInt 1))) aNil)))) (eInt 1))))
def S_fork_count (G : List C → Option C) : List C → Option C := fnM 1 0 (T_fork_count G)
def M_fork_count : List C → Option C := itF S_fork_count 8
def T_tree_between (G : List C → Option C) : Env → Option Out := (sSeq (sIf (c2 gLt (e2 oSub (eVar 2) (eVar 1)) (eInt 2)) (sRet (eTup aNil))
  sNil)
  (sSeq (sAsg (eToC (e2 gIx (eLV (eComp [4] (itL (eOfC (eCall M_thirds_of (aCons (eToC (eVar 0)) (aCons (eToC (eTup (aCons (eToC (eVar 1)) (aCons (eToC (eVar 2)) aNil)))) aNil))))) (gSet 4) (c3 gLt gLt (eVar 1) (eVar 4) (eVar 2)) (eVar 4))) (eInt 0))) (gSet 3))
  (sRet (eTup (aCons (eCall G (aCons (eToC (eVar 0)) (aCons (eToC (eVar 1)) (aCons (eToC (eVar 3)) aNil)))) (aCons (eCall G (aCons (eToC (eVar 0)) (aCons (eToC (eVar 3)) (aCons (eToC (eVar 2)) aNil)))) aNil))))))
def S_tree_between (G : List C → Option C) : List C → Option C := fnM 3 2 (T_tree_between G)
def M_tree_between : List C → Option C := itF S_tree_between 8
def T_tree_cuts (G : List C → Option C) : Env → Option Out := (sSeq (sIf (c2 gEq (eVar 0) (eTup aNil)) (sRet (eLst aNil))
  sNil)
  (sSeq (sAsg (eToC (e2 oAdd (e2 oAdd (eVar 1) (eOfC (eCall M_fork_count (aCons (eToC (e2 gIx (eVar 0) (eInt 0))) aNil)))) (eInt 1))) (gSet 2))
  (sSeq (sAsg (eToC (e2 oAdd (e2 oAdd (eVar 2) (eOfC (eCall M_fork_count (aCons (eToC (e2 gIx (eVar 0) (eInt 1))) aNil)))) (eInt 1))) (gSet 3))
  (sRet (eCatL (eToL (eCatL (eToL (eOfC (eCall G (aCons (eToC (e2 gIx (eVar 0) (eInt 0))) (aCons (eToC (eVar 1)) aNil))))) (eToL (eOfC (eCall G (aCons (eToC (e2 gIx (eVar 0) (eInt 1))) (aCons (eToC (eVar 2)) aNil))))))) (eToL (eLst (aCons (eToC (eTup (aCons (eToC (eVar 1)) (aCons (eToC (eVar 3)) aNil)))) aNil))))))))
def S_tree_cuts (G : List C → Option C) : List C → Option C := fnM 2 2 (T_tree_cuts G)
def M_tree_cuts : List C → Option C := itF S_tree_cuts 8
def T_cutting_by : Env → Option Out := (sSeq (sAsg (eToC (e2 oAdd (eOfC (eCall M_fork_count (aCons (eToC (eVar 0)) aNil))) (eInt 2))) (gSet 1))
  (sRet (eTup (aCons (eToC (eVar 1)) (aCons (eToC (e1 gTupleOf (e1 gSortT (eLV (eComp [2] (itL (eOfC (eCall M_tree_cuts (aCons (eToC (eVar 0)) (aCons (eToC (eInt 0)) aNil))))) (gSet 2) (c2 gNe (eVar 2) (eTup (aCons (eToC (eInt 0)) (aCons (eToC (e2 oSub (eVar 1) (eInt 1))) aNil)))) (eVar 2)))))) aNil)))))
def M_cutting_by : List C → Option C := fnM 1 2 T_cutting_by
def T_reaches_of (G : List C → Option C) : Env → Option Out := (sRet (eIf (c2 gEq (eVar 0) (eTup aNil)) (eTup aNil) (e2 oCat (e2 oCat (eOfC (eCall G (aCons (eToC (e2 gIx (eVar 0) (eInt 0))) aNil))) (eTup (aCons (eCall M_fork_count (aCons (eToC (e2 gIx (eVar 0) (eInt 1))) aNil)) aNil))) (eOfC (eCall G (aCons (eToC (e2 gIx (eVar 0) (eInt 1))) aNil))))))
def S_reaches_of (G : List C → Option C) : List C → Option C := fnM 1 0 (T_reaches_of G)
def M_reaches_of : List C → Option C := itF S_reaches_of 8
def T_need_tree : Env → Option Out := (sIf (tNotF (eB (eOfC (eCall M_fits_tree (aCons (eToC (eVar 0)) aNil))))) sNever
  sNil)
def M_need_tree : List C → Option C := fnM 1 0 T_need_tree
def T_need_pair : Env → Option Out := (sSeq (sDrop (eCall M_need_tree (aCons (eToC (eVar 0)) aNil)))
  (sSeq (sDrop (eCall M_need_tree (aCons (eToC (eVar 1)) aNil)))
  (sIf (c2 gNe (eOfC (eCall M_fork_count (aCons (eToC (eVar 0)) aNil))) (eOfC (eCall M_fork_count (aCons (eToC (eVar 1)) aNil)))) sNever
  sNil)))
def M_need_pair : List C → Option C := fnM 2 0 T_need_pair
def T_need_fork : Env → Option Out := (sIf (tOrF (tNotF (eB (eOfC (eCall M_is_whole (aCons (eToC (eVar 1)) (aCons (eToC (eInt 0)) (aCons (eToC (eInt 24)) aNil))))))) (c2 gNotIn (eVar 1) (eVar 0))) sNever
  sNil)
def M_need_fork : List C → Option C := fnM 2 0 T_need_fork
def T_need_small_cutting : Env → Option Out := (sSeq (sDrop (eCall M_need_cutting (aCons (eToC (eVar 0)) aNil)))
  (sDrop (eCall M_need_few (aCons (eToC (e2 gIx (eVar 0) (eInt 0))) (aCons (eToC (e2 oAdd (eInt 24) (eInt 2))) aNil)))))
def M_need_small_cutting : List C → Option C := fnM 1 0 T_need_small_cutting
def T_tree_of : Env → Option Out := (sSeq (sDrop (eCall M_need_small_cutting (aCons (eToC (eVar 0)) aNil)))
  (sRetC (eCall M_tree_between (aCons (eToC (eVar 0)) (aCons (eToC (eInt 0)) (aCons (eToC (e2 oSub (e2 gIx (eVar 0) (eInt 0)) (eInt 1))) aNil))))))
def M_tree_of : List C → Option C := fnM 1 0 T_tree_of
def T_tree_cutting : Env → Option Out := (sSeq (sDrop (eCall M_need_tree (aCons (eToC (eVar 0)) aNil)))
  (sSeq (sIf (c2 gEq (eVar 0) (eTup aNil)) sNever
  sNil)
  (sRetC (eCall M_cutting_by (aCons (eToC (eVar 0)) aNil)))))
def M_tree_cutting : List C → Option C := fnM 1 0 T_tree_cutting
def T_reaches : Env → Option Out := (sSeq (sDrop (eCall M_need_tree (aCons (eToC (eVar 0)) aNil)))
  (sRetC (eCall M_reaches_of (aCons (eToC (eVar 0)) aNil))))
def M_reaches : List C → Option C := fnM 1 0 T_reaches
def T_can_turn (G : List C → Option C) : Env → Option Out := (sSeq (sIf (c2 gEq (eVar 0) (eTup aNil)) (sRet (eLst aNil))
  sNil)
  (sSeq (sAsg (eToC (e2 oAdd (eVar 1) (eOfC (eCall M_fork_count (aCons (eToC (e2 gIx (eVar 0) (eInt 0))) aNil))))) (gSet 2))
  (sSeq (sAsg (eToC (eIf (c2 gNe (e2 gIx (eVar 0) (eInt 0)) (eTup aNil)) (eLst (aCons (eToC (eVar 2)) aNil)) (eLst aNil))) (gSet 3))
  (sRet (eCatL (eToL (eCatL (eToL (eOfC (eCall G (aCons (eToC (e2 gIx (eVar 0) (eInt 0))) (aCons (eToC (eVar 1)) aNil))))) (eVarL 3))) (eToL (eOfC (eCall G (aCons (eToC (e2 gIx (eVar 0) (eInt 1))) (aCons (eToC (e2 oAdd (eVar 2) (eInt 1))) aNil))))))))))
def S_can_turn (G : List C → Option C) : List C → Option C := fnM 2 2 (T_can_turn G)
def M_can_turn : List C → Option C := itF S_can_turn 8
def T_turned_once (G : List C → Option C) : Env → Option Out := (sSeq (sAsg (eCall M_fork_count (aCons (eToC (e2 gIx (eVar 0) (eInt 0))) aNil)) (gSet 2))
  (sSeq (sIf (c2 gLt (eVar 1) (eVar 2)) (sRet (eTup (aCons (eCall G (aCons (eToC (e2 gIx (eVar 0) (eInt 0))) (aCons (eToC (eVar 1)) aNil))) (aCons (eToC (e2 gIx (eVar 0) (eInt 1))) aNil))))
  sNil)
  (sSeq (sIf (c2 gGt (eVar 1) (eVar 2)) (sRet (eTup (aCons (eToC (e2 gIx (eVar 0) (eInt 0))) (aCons (eCall G (aCons (eToC (e2 gIx (eVar 0) (eInt 1))) (aCons (eToC (e2 oSub (e2 oSub (eVar 1) (eVar 2)) (eInt 1))) aNil))) aNil))))
  sNil)
  (sRet (eTup (aCons (eToC (e2 gIx (e2 gIx (eVar 0) (eInt 0)) (eInt 0))) (aCons (eToC (eTup (aCons (eToC (e2 gIx (e2 gIx (eVar 0) (eInt 0)) (eInt 1))) (aCons (eToC (e2 gIx (eVar 0) (eInt 1))) aNil)))) aNil)))))))
def S_turned_once (G : List C → Option C) : List C → Option C := fnM 2 1 (T_turned_once G)
def M_turned_once : List C → Option C := itF S_turned_once 8
def T_lies_below : Env → Option Out := (sRet (e1 gAll (eLV (eComp [2, 3] (itZ (eOfC (eCall M_reaches_of (aCons (eToC (eVar 0)) aNil))) (eOfC (eCall M_reaches_of (aCons (eToC (eVar 1)) aNil)))) (gUnp (gsCons 2 (gsCons 3 gsNil))) cYes (eOfB (c2 gLe (eVar 2) (eVar 3)))))))
def M_lies_below : List C → Option C := fnM 2 2 T_lies_below
def T_steps_up : Env → Option Out := (sSeq (sAsg (eToC (eTup aNil)) (gSet 2))
  (sSeq (sWhile 60 (c2 gNe (eVar 0) (eVar 1))
  (sSeq (sAsg (eToC (eLV (eComp [4] (itL (eOfC (eCall M_can_turn (aCons (eToC (eVar 0)) (aCons (eToC (eInt 0)) aNil))))) (gSet 4) (eB (eOfC (eCall M_lies_below (aCons (eCall M_turned_once (aCons (eToC (eVar 0)) (aCons (eToC (eVar 4)) aNil))) (aCons (eToC (eVar 1)) aNil))))) (eVar 4)))) (gSet 3))
  (sAsg (eToC (eTup (aCons (eToC (e2 oCat (eVar 2) (eTup (aCons (eToC (e2 gIx (eVar 3) (eInt 0))) aNil)))) (aCons (eCall M_turned_once (aCons (eToC (eVar 0)) (aCons (eToC (e2 gIx (eVar 3) (eInt 0))) aNil))) aNil)))) (gUnp (gsCons 2 (gsCons 0 gsNil))))))
  (sRet (eVar 2))))
def M_steps_up : List C → Option C := fnM 2 3 T_steps_up
def T_fork_between : Env → Option Out := (sSeq (sAsg (eToC (eLV (eComp [3] (itL (eOfC (eCall M_can_turn (aCons (eToC (eVar 0)) (aCons (eToC (eInt 0)) aNil))))) (gSet 3) (c2 gEq (eOfC (eCall M_turned_once (aCons (eToC (eVar 0)) (aCons (eToC (eVar 3)) aNil)))) (eVar 1)) (eVar 3)))) (gSet 2))
  (sRet (eIf (c2 gNe (eVar 2) (eLst aNil)) (e2 gIx (eVar 2) (eInt 0)) eNon)))
def M_fork_between : List C → Option C := fnM 2 2 T_fork_between
def T_fork_turned : Env → Option Out := (sSeq (sDrop (eCall M_need_tree (aCons (eToC (eVar 0)) aNil)))
  (sSeq (sDrop (eCall M_need_fork (aCons (eCall M_can_turn (aCons (eToC (eVar 0)) (aCons (eToC (eInt 0)) aNil))) (aCons (eToC (eVar 1)) aNil))))
  (sRetC (eCall M_turned_once (aCons (eToC (eVar 0)) (aCons (eToC (eVar 1)) aNil))))))
def M_fork_turned : List C → Option C := fnM 2 0 T_fork_turned
def T_is_below : Env → Option Out := (sSeq (sDrop (eCall M_need_pair (aCons (eToC (eVar 0)) (aCons (eToC (eVar 1)) aNil))))
  (sRetC (eCall M_lies_below (aCons (eToC (eVar 0)) (aCons (eToC (eVar 1)) aNil)))))
def M_is_below : List C → Option C := fnM 2 0 T_is_below
def T_way_up : Env → Option Out := (sSeq (sDrop (eCall M_need_pair (aCons (eToC (eVar 0)) (aCons (eToC (eVar 1)) aNil))))
  (sRet (eIf (eB (eOfC (eCall M_lies_below (aCons (eToC (eVar 0)) (aCons (eToC (eVar 1)) aNil))))) (eOfC (eCall M_steps_up (aCons (eToC (eVar 0)) (aCons (eToC (eVar 1)) aNil)))) eNon)))
def M_way_up : List C → Option C := fnM 2 0 T_way_up
def T_turned_fork : Env → Option Out := (sSeq (sDrop (eCall M_need_cutting (aCons (eToC (eVar 0)) aNil)))
  (sSeq (sDrop (eCall M_need_cut (aCons (eToC (eVar 0)) (aCons (eToC (eVar 1)) aNil))))
  (sSeq (sDrop (eCall M_need_few (aCons (eToC (e2 gIx (eVar 0) (eInt 0))) (aCons (eToC (e2 oAdd (eInt 24) (eInt 2))) aNil))))
  (sSeq (sAsg (eCall M_swapped_at (aCons (eToC (eVar 0)) (aCons (eToC (eVar 1)) aNil))) (gSet 2))
  (sSeq (sPar [3, 4] (fCons (eCall M_tree_between (aCons (eToC (eVar 0)) (aCons (eToC (eInt 0)) (aCons (eToC (e2 oSub (e2 gIx (eVar 0) (eInt 0)) (eInt 1))) aNil)))) (fCons (eCall M_tree_between (aCons (eToC (eVar 2)) (aCons (eToC (eInt 0)) (aCons (eToC (e2 oSub (e2 gIx (eVar 0) (eInt 0)) (eInt 1))) aNil)))) aNil)))
  (sSeq (sAsg (eToC (eOfB (c2 gLtT (eVar 1) (eOfC (eCall M_cut_for (aCons (eToC (eVar 0)) (aCons (eToC (eVar 1)) aNil))))))) (gSet 5))
  (sRet (eTup (aCons (eToC (eIf (eB (eVar 5)) (eOfC (eCall M_fork_between (aCons (eToC (eVar 3)) (aCons (eToC (eVar 4)) aNil)))) (eOfC (eCall M_fork_between (aCons (eToC (eVar 4)) (aCons (eToC (eVar 3)) aNil)))))) (aCons (eToC (eVar 5)) aNil))))))))))
def M_turned_fork : List C → Option C := fnM 2 4 T_turned_fork
def T_type_is_whole : Env → Option Out := (sRet (eAnd (eIs isInt (eVar 0)) (eNot (eIs isBool (eVar 0)))))
def M_type_is_whole : List C → Option C := fnM 1 0 T_type_is_whole
def T_way_steps : Env → Option Out := (sSeq (sIf (tOrF (tNotF (eB (eIs isTuple (eVar 1)))) (c2 gGt (e1 gLen (eVar 1)) (eInt 80))) (sRet eNon)
  sNil)
  (sSeq (sAsg (eToC (eTup aNil)) (gSet 2))
  (sSeq (sFor (itT (eVar 1)) (gSet 3)
  (sSeq (sIf (tOrF (tNotF (eB (eIs isTuple (eVar 3)))) (tOrF (c2 gNe (e1 gLen (eVar 3)) (eInt 2)) (tNotF (eB (e1 gAll (eLV (eComp [5] (itT (eVar 3)) (gSet 5) cYes (eOfC (eCall M_type_is_whole (aCons (eToC (eVar 5)) aNil)))))))))) (sRet eNon)
  sNil)
  (sSeq (sIf (c2 gNotIn (eVar 3) (e2 gIx (eVar 0) (eInt 1))) (sRet eNon)
  sNil)
  (sSeq (sAsg (eCall M_cut_for (aCons (eToC (eVar 0)) (aCons (eToC (eVar 3)) aNil))) (gSet 4))
  (sPar [2, 0] (fCons (eToC (e2 oCat (eVar 2) (eTup (aCons (eToC (eVar 4)) aNil)))) (fCons (eCall M_with_cut (aCons (eToC (eVar 0)) (aCons (eToC (eVar 3)) (aCons (eToC (eVar 4)) aNil)))) aNil)))))))
  (sRet (eTup (aCons (eToC (eVar 0)) (aCons (eToC (eVar 2)) aNil)))))))
def M_way_steps : List C → Option C := fnM 2 4 T_way_steps
def T_leads_to : Env → Option Out := (sSeq (sAsg (eCall M_way_steps (aCons (eToC (eVar 0)) (aCons (eToC (eVar 2)) aNil))) (gSet 3))
  (sRet (eAnd (eOfB (c2 gNotN (eVar 3) eNon)) (eOfB (c2 gEq (e2 gIx (eVar 3) (eInt 0)) (eVar 1))))))
def M_leads_to : List C → Option C := fnM 3 1 T_leads_to
def T_need_two : Env → Option Out := (sSeq (sDrop (eCall M_need_cutting (aCons (eToC (eVar 0)) aNil)))
  (sSeq (sDrop (eCall M_need_cutting (aCons (eToC (eVar 1)) aNil)))
  (sIf (c2 gNe (e2 gIx (eVar 0) (eInt 0)) (e2 gIx (eVar 1) (eInt 0))) sNever
  sNil)))
def M_need_two : List C → Option C := fnM 2 0 T_need_two
def T_need_way : Env → Option Out := (sIf (c2 gIsN (eOfC (eCall M_way_steps (aCons (eToC (eVar 0)) (aCons (eToC (eVar 1)) aNil)))) eNon) sNever
  sNil)
def M_need_way : List C → Option C := fnM 2 0 T_need_way
def T_behind_way : Env → Option Out := (sSeq (sDrop (eCall M_need_cutting (aCons (eToC (eVar 0)) aNil)))
  (sSeq (sDrop (eCall M_need_way (aCons (eToC (eVar 0)) (aCons (eToC (eVar 1)) aNil))))
  (sRet (e2 gIx (eOfC (eCall M_way_steps (aCons (eToC (eVar 0)) (aCons (eToC (eVar 1)) aNil)))) (eInt 0)))))
def M_behind_way : List C → Option C := fnM 2 0 T_behind_way
def T_far_from_fan : Env → Option Out := (sSeq (sDrop (eCall M_need_cutting (aCons (eToC (eVar 0)) aNil)))
  (sSeq (sDrop (eCall M_need_corner (aCons (eToC (eVar 0)) (aCons (eToC (eVar 1)) aNil))))
  (sRet (e1 gLen (eLV (eComp [2] (itT (e2 gIx (eVar 0) (eInt 1))) (gSet 2) (c2 gNotIn (eVar 1) (eVar 2)) (eVar 2)))))))
def M_far_from_fan : List C → Option C := fnM 2 1 T_far_from_fan
def T_cuts_of_both : Env → Option Out := (sRet (eLV (eComp [2] (itT (e2 gIx (eVar 0) (eInt 1))) (gSet 2) (c2 gIn (eVar 2) (e2 gIx (eVar 1) (eInt 1))) (eVar 2))))
def M_cuts_of_both : List C → Option C := fnM 2 1 T_cuts_of_both
def T_split_by : Env → Option Out := (sSeq (sIf (tOrF (c2 gNotIn (e2 gIx (eVar 1) (eInt 0)) (eVar 0)) (c2 gNotIn (e2 gIx (eVar 1) (eInt 1)) (eVar 0))) (sRet (eLst (aCons (eToC (eVar 0)) aNil)))
  sNil)
  (sSeq (sAsg (eToC (e1 gTupleOf (eLV (eComp [4] (itT (eVar 0)) (gSet 4) (c3 gLe gLe (e2 gIx (eVar 1) (eInt 0)) (eVar 4) (e2 gIx (eVar 1) (eInt 1))) (eVar 4))))) (gSet 2))
  (sSeq (sAsg (eToC (e1 gTupleOf (eLV (eComp [4] (itT (eVar 0)) (gSet 4) (tOrF (c2 gLe (eVar 4) (e2 gIx (eVar 1) (eInt 0))) (c2 gGe (eVar 4) (e2 gIx (eVar 1) (eInt 1)))) (eVar 4))))) (gSet 3))
  (sRet (eIf (tOrF (c2 gLt (e1 gLen (eVar 2)) (eInt 3)) (c2 gLt (e1 gLen (eVar 3)) (eInt 3))) (eLst (aCons (eToC (eVar 0)) aNil)) (eLst (aCons (eToC (eVar 2)) (aCons (eToC (eVar 3)) aNil))))))))
def M_split_by : List C → Option C := fnM 2 3 T_split_by
def T_fields_by : Env → Option Out := (sSeq (sAsg (eToC (eLst (aCons (eToC (eTupRg (eVar 0))) aNil))) (gSet 2))
  (sSeq (sFor (itL (eVar 1)) (gSet 3)
  (sSeq (sAsg (eToC (eLst aNil)) (gSet 4))
  (sSeq (sFor (itL (eVar 2)) (gSet 5)
  (sAsg (eToC (eCatL (eVarL 4) (eToL (eOfC (eCall M_split_by (aCons (eToC (eVar 5)) (aCons (eToC (eVar 3)) aNil))))))) (gSet 4)))
  (sAsg (eToC (eVar 4)) (gSet 2)))))
  (sRet (e1 gSortT (eVar 2)))))
def M_fields_by : List C → Option C := fnM 2 4 T_fields_by
def T_fields_of : Env → Option Out := (sRetC (eCall M_fields_by (aCons (eToC (e2 gIx (eVar 0) (eInt 0))) (aCons (eCall M_cuts_of_both (aCons (eToC (eVar 0)) (aCons (eToC (eVar 1)) aNil))) aNil))))
def M_fields_of : List C → Option C := fnM 2 0 T_fields_of
def T_piece_within : Env → Option Out := (sSeq (sAsg (eDc [] putI .di [5, 6] (itE (eVar 1)) (gUnp (gsCons 5 (gsCons 6 gsNil))) cYes (eVar 6) (eVar 5)) (gSet 2))
  (sSeq (sAsg (eToC (e2 oSub (e1 gLen (eVar 1)) (eInt 1))) (gSet 3))
  (sSeq (sAsg (eToC (eLV (eComp [7, 8] (itT (e2 gIx (eVar 0) (eInt 1))) (gUnp (gsCons 7 (gsCons 8 gsNil))) (tAndF (cInI (eVar 7) (eVarC 2)) (cInI (eVar 8) (eVarC 2))) (eTup (aCons (eToC (eIGet (eVarC 2) (eVar 7))) (aCons (eToC (eIGet (eVarC 2) (eVar 8))) aNil)))))) (gSet 4))
  (sRet (eTup (aCons (eToC (e1 gLen (eVar 1))) (aCons (eToC (e1 gTupleOf (e1 gSortT (eLV (eComp [9] (itL (eVar 4)) (gSet 9) (c3 gLt gLt (eInt 1) (e2 oSub (e2 gIx (eVar 9) (eInt 1)) (e2 gIx (eVar 9) (eInt 0))) (eVar 3)) (eVar 9)))))) aNil)))))))
def M_piece_within : List C → Option C := fnM 2 8 T_piece_within
def T_nexts_of : Env → Option Out := (sRet (eLV (eComp [1] (itT (e2 gIx (eVar 0) (eInt 1))) (gSet 1) cYes (eTup (aCons (eToC (eVar 1)) (aCons (eCall M_with_cut (aCons (eToC (eVar 0)) (aCons (eToC (eVar 1)) (aCons (eCall M_cut_for (aCons (eToC (eVar 0)) (aCons (eToC (eVar 1)) aNil))) aNil)))) aNil))))))
def M_nexts_of : List C → Option C := fnM 1 1 T_nexts_of
def T_reach_from : Env → Option Out := (sSeq (sPar [2, 3, 4] (fCons (fN (eDict1 (eVar 0) (eTup (aCons (eToC (eInt 0)) (aCons (eToC (eInt 1)) aNil))))) (fCons (eToC (eLst (aCons (eToC (eVar 0)) aNil))) (fCons (eToC (eInt 0)) aNil))))
  (sSeq (sWhile 60 (tAndF (c2 gNe (eVar 3) (eLst aNil)) (tNotF (cInN (eVar 1) (eVarN 2))))
  (sSeq (sPar [4, 5] (fCons (eToC (e2 oAdd (eVar 4) (eInt 1))) (fCons (eToC (eLst aNil)) aNil)))
  (sSeq (sFor (itL (eVar 3)) (gSet 6)
  (sSeq (sAsg (eToC (e2 gIx (eDGet (eVarN 2) (eVar 6)) (eInt 1))) (gSet 7))
  (sFor (itL (eOfC (eCall M_nexts_of (aCons (eToC (eVar 6)) aNil)))) (gUnp (gsCons 8 (gsCons 9 gsNil)))
  (sIf (tNotF (cInN (eVar 9) (eVarN 2))) (sSeq (sAsg (eToC (eCatL (eVarL 5) (eToL (eLst (aCons (eToC (eVar 9)) aNil))))) (gSet 5))
  (sSetKey 2 (eVar 9) (eTup (aCons (eToC (eVar 4)) (aCons (eToC (eVar 7)) aNil)))))
  (sIf (c2 gEq (e2 gIx (eDGet (eVarN 2) (eVar 9)) (eInt 0)) (eVar 4)) (sSetKey 2 (eVar 9) (eTup (aCons (eToC (eVar 4)) (aCons (eToC (e2 oAdd (e2 gIx (eDGet (eVarN 2) (eVar 9)) (eInt 1)) (eVar 7))) aNil))))
  sNil)))))
  (sAsg (eToC (eVar 5)) (gSet 3)))))
  (sFreeze 2 (sRetC (eVarC 2)))))
def M_reach_from : List C → Option C := fnM 2 8 T_reach_from
def T_back_from : Env → Option Out := (sSeq (sPar [2, 3] (fCons (eToC (eTup aNil)) (fCons (eToC (eVar 1)) aNil)))
  (sSeq (sWhile 60 (c2 gGt (e2 gIx (eDGet (eVarN 0) (eVar 3)) (eInt 0)) (eInt 0))
  (sSeq (sAsg (eToC (e2 oSub (e2 gIx (eDGet (eVarN 0) (eVar 3)) (eInt 0)) (eInt 1))) (gSet 4))
  (sSeq (sAsg (eToC (e2 gIx (eLV (eComp [7] (itL (eOfC (eCall M_nexts_of (aCons (eToC (eVar 3)) aNil)))) (gSet 7) (tAndF (cInN (e2 gIx (eVar 7) (eInt 1)) (eVarN 0)) (c2 gEq (e2 gIx (eDGet (eVarN 0) (e2 gIx (eVar 7) (eInt 1))) (eInt 0)) (eVar 4))) (eVar 7))) (eInt 0))) (gUnp (gsCons 5 (gsCons 6 gsNil))))
  (sPar [2, 3] (fCons (eToC (e2 oCat (eTup (aCons (eCall M_cut_for (aCons (eToC (eVar 3)) (aCons (eToC (eVar 5)) aNil))) aNil)) (eVar 2))) (fCons (eToC (eVar 6)) aNil))))))
  (sRet (eVar 2))))
def M_back_from : List C → Option C := fnM 2 6 T_back_from
def T_pairs_within : Env → Option Out := (sSeq (sAsg (eToC (eLV (eComp [3] (itL (eOfC (eCall M_fields_of (aCons (eToC (eVar 0)) (aCons (eToC (eVar 1)) aNil))))) (gSet 3) (c2 gGt (e1 gLen (eVar 3)) (eInt 3)) (eVar 3)))) (gSet 2))
  (sRet (eLV (eComp [3] (itL (eVar 2)) (gSet 3) cYes (eTup (aCons (eToC (eVar 3)) (aCons (eCall M_piece_within (aCons (eToC (eVar 0)) (aCons (eToC (eVar 3)) aNil))) (aCons (eCall M_piece_within (aCons (eToC (eVar 1)) (aCons (eToC (eVar 3)) aNil))) aNil))))))))
def M_pairs_within : List C → Option C := fnM 2 2 T_pairs_within
def T_bringing : Env → Option Out := (sSeq (sAsg (eToC (eLV (eComp [3] (itL (eOfC (eCall M_nexts_of (aCons (eToC (eVar 0)) aNil)))) (gSet 3) (tAndF (c2 gNotIn (e2 gIx (eVar 3) (eInt 0)) (e2 gIx (eVar 1) (eInt 1))) (c2 gIn (eOfC (eCall M_cut_for (aCons (eToC (eVar 0)) (aCons (eToC (e2 gIx (eVar 3) (eInt 0))) aNil)))) (e2 gIx (eVar 1) (eInt 1)))) (eVar 3)))) (gSet 2))
  (sRet (eIf (c2 gNe (eVar 2) (eLst aNil)) (e2 gIx (eVar 2) (eInt 0)) eNon)))
def M_bringing : List C → Option C := fnM 2 2 T_bringing
def T_way_in (G : List C → Option C) : Env → Option Out := (sSeq (sAsg (eToC (eTup aNil)) (gSet 2))
  (sSeq (sFor (itL (eOfC (eCall M_pairs_within (aCons (eToC (eVar 0)) (aCons (eToC (eVar 1)) aNil))))) (gUnp (gsCons 3 (gsCons 4 (gsCons 5 gsNil))))
  (sSeq (sAsg (eCall M_bringing (aCons (eToC (eVar 4)) (aCons (eToC (eVar 5)) aNil))) (gSet 6))
  (sSeq (sIf (c2 gNotN (eVar 6) eNon) (sAsg (eToC (e2 oCat (eTup (aCons (eToC (e2 gIx (eVar 6) (eInt 0))) aNil)) (eOfC (eCall G (aCons (eToC (e2 gIx (eVar 6) (eInt 1))) (aCons (eToC (eVar 5)) aNil)))))) (gSet 7))
  (sAsg (eCall M_back_from (aCons (eCall M_reach_from (aCons (eToC (eVar 4)) (aCons (eToC (eVar 5)) aNil))) (aCons (eToC (eVar 5)) aNil))) (gSet 7)))
  (sAsg (eToC (e2 oCat (eVar 2) (e1 gTupleOf (eLV (eComp [8, 9] (itT (eVar 7)) (gUnp (gsCons 8 (gsCons 9 gsNil))) cYes (eTup (aCons (eToC (e2 gIx (eVar 3) (eVar 8))) (aCons (eToC (e2 gIx (eVar 3) (eVar 9))) aNil)))))))) (gSet 2)))))
  (sRet (eVar 2))))
def S_way_in (G : List C → Option C) : List C → Option C := fnM 2 8 (T_way_in G)
def M_way_in : List C → Option C := itF S_way_in 8
def T_need_fields : Env → Option Out := (sSeq (sDrop (eCall M_need_two (aCons (eToC (eVar 0)) (aCons (eToC (eVar 1)) aNil))))
  (sDrop (eCall M_need_few (aCons (eToC (e1 gMax (eLV (eComp [2] (itL (eOfC (eCall M_fields_of (aCons (eToC (eVar 0)) (aCons (eToC (eVar 1)) aNil))))) (gSet 2) cYes (e1 gLen (eVar 2)))))) (aCons (eToC (eInt 8)) aNil)))))
def M_need_fields : List C → Option C := fnM 2 1 T_need_fields
def T_fewest_exchanges : Env → Option Out := (sSeq (sDrop (eCall M_need_fields (aCons (eToC (eVar 0)) (aCons (eToC (eVar 1)) aNil))))
  (sRet (e1 gLen (eOfC (eCall M_way_in (aCons (eToC (eVar 0)) (aCons (eToC (eVar 1)) aNil)))))))
def M_fewest_exchanges : List C → Option C := fnM 2 0 T_fewest_exchanges
def T_is_least_way : Env → Option Out := (sSeq (sDrop (eCall M_need_fields (aCons (eToC (eVar 0)) (aCons (eToC (eVar 1)) aNil))))
  (sRet (eAnd (eOfC (eCall M_leads_to (aCons (eToC (eVar 0)) (aCons (eToC (eVar 1)) (aCons (eToC (eVar 2)) aNil))))) (eOfB (c2 gEq (e1 gLen (eVar 2)) (e1 gLen (eOfC (eCall M_way_in (aCons (eToC (eVar 0)) (aCons (eToC (eVar 1)) aNil))))))))))
def M_is_least_way : List C → Option C := fnM 3 0 T_is_least_way
def T_catalan : Env → Option Out := (sSeq (sAsg (eToC (eInt 1)) (gSet 1))
  (sSeq (sFor (itR1 (eVar 0)) (gSet 2)
  (sAsg (eToC (e2 oDiv (e2 oMul (e2 oMul (eVar 1) (eInt 2)) (e2 oAdd (e2 oMul (eInt 2) (eVar 2)) (eInt 1))) (e2 oAdd (eVar 2) (eInt 2)))) (gSet 1)))
  (sRet (eVar 1))))
def M_catalan : List C → Option C := fnM 1 2 T_catalan
def T_count_cuttings : Env → Option Out := (sSeq (sDrop (eCall M_need_sides (aCons (eToC (eVar 0)) (aCons (eToC (eInt 200)) aNil))))
  (sRetC (eCall M_catalan (aCons (eToC (e2 oSub (eVar 0) (eInt 2))) aNil))))
def M_count_cuttings : List C → Option C := fnM 1 0 T_count_cuttings
def T_fars_of : Env → Option Out := (sSeq (sAsg (eCall M_reach_from (aCons (eToC (eVar 0)) (aCons (eToC eNon) aNil))) (gSet 1))
  (sRetC (eDc [] putN .dn [2] (itN (eVarC 1)) (gSet 2) cYes (eVar 2) (e2 gIx (eDGet (eVarN 1) (eVar 2)) (eInt 0)))))
def M_fars_of : List C → Option C := fnM 1 2 T_fars_of
def T_layers : Env → Option Out := (sSeq (sDrop (eCall M_need_cutting (aCons (eToC (eVar 0)) aNil)))
  (sSeq (sDrop (eCall M_need_few (aCons (eToC (e2 gIx (eVar 0) (eInt 0))) (aCons (eToC (eInt 8)) aNil))))
  (sSeq (sAsg (eToC (eLV (eVals (eToN (eCall M_fars_of (aCons (eToC (eVar 0)) aNil)))))) (gSet 1))
  (sRet (e1 gTupleOf (eLV (eComp [2] (itR1 (e2 oAdd (e1 gMax (eVar 1)) (eInt 1))) (gSet 2) cYes (eCount (eVar 1) (eVar 2)))))))))
def M_layers : List C → Option C := fnM 1 2 T_layers
def T_depth_sum (G : List C → Option C) : Env → Option Out := (sRet (eIf (c2 gEq (eVar 0) (eTup aNil)) (eInt 0) (e2 oAdd (e2 oAdd (eOfC (eCall G (aCons (eToC (e2 gIx (eVar 0) (eInt 0))) aNil))) (eOfC (eCall M_fork_count (aCons (eToC (e2 gIx (eVar 0) (eInt 1))) aNil)))) (eOfC (eCall G (aCons (eToC (e2 gIx (eVar 0) (eInt 1))) aNil))))))
def S_depth_sum (G : List C → Option C) : List C → Option C := fnM 1 0 (T_depth_sum G)
def M_depth_sum : List C → Option C := itF S_depth_sum 8
def T_passed_by : Env → Option Out := (sSeq (sPar [2, 3] (fCons (fN (eDict1 (eVar 0) (eBl true))) (fCons (eToC (eLst (aCons (eToC (eVar 0)) aNil))) aNil)))
  (sSeq (sWhile 60 (c2 gNe (eVar 3) (eLst aNil))
  (sSeq (sOwn 4 (eLstF aNil))
  (sSeq (sFor (itL (eVar 3)) (gSet 5)
  (sFor (itL (eLV (eComp [7] (itL (eOfC (eCall M_can_turn (aCons (eToC (eVar 5)) (aCons (eToC (eInt 0)) aNil))))) (gSet 7) cYes (eOfC (eCall M_turned_once (aCons (eToC (eVar 5)) (aCons (eToC (eVar 7)) aNil))))))) (gSet 6)
  (sIf (tAndF (tNotF (cInN (eVar 6) (eVarN 2))) (eB (eOfC (eCall M_lies_below (aCons (eToC (eVar 6)) (aCons (eToC (eVar 1)) aNil)))))) (sSeq (sSetKey 2 (eVar 6) (eBl true))
  (sAppend 4 (eVar 6)))
  sNil)))
  (sFreeze 4 (sAsg (eVarC 4) (gSet 3))))))
  (sRet (eSortK M_depth_sum (eLV (eKeys (eVarN 2)))))))
def M_passed_by : List C → Option C := fnM 2 6 T_passed_by
def T_ranks_between : Env → Option Out := (sSeq (sOwnN 2 (eDict1 (eVar 0) (eTup (aCons (eToC (eInt 0)) (aCons (eToC (eInt 0)) (aCons (eToC (eInt 1)) aNil))))))
  (sSeq (sFor (itL (eOfC (eCall M_passed_by (aCons (eToC (eVar 0)) (aCons (eToC (eVar 1)) aNil))))) (gSet 3)
  (sSeq (sAsg (eToC (eDGet (eVarN 2) (eVar 3))) (gUnp (gsCons 4 (gsCons 5 (gsCons 6 gsNil)))))
  (sFor (itL (eOfC (eCall M_can_turn (aCons (eToC (eVar 3)) (aCons (eToC (eInt 0)) aNil))))) (gSet 7)
  (sSeq (sAsg (eCall M_turned_once (aCons (eToC (eVar 3)) (aCons (eToC (eVar 7)) aNil))) (gSet 8))
  (sIf (eB (eOfC (eCall M_lies_below (aCons (eToC (eVar 8)) (aCons (eToC (eVar 1)) aNil))))) (sSeq (sAsg (eToC (eDGet2 (eVarN 2) (eVar 8) (eTup (aCons (eToC (eInt 0)) (aCons (eToC (e2 oAdd (eVar 5) (eInt 1))) (aCons (eToC (eInt 0)) aNil)))))) (gUnp (gsCons 9 (gsCons 10 (gsCons 11 gsNil)))))
  (sSetKey 2 (eVar 8) (eTup (aCons (eToC (e2 (oI fun i j => some (maxII i j)) (eVar 9) (e2 oAdd (eVar 4) (eInt 1)))) (aCons (eToC (e2 (oI fun i j => some (minII i j)) (eVar 10) (e2 oAdd (eVar 5) (eInt 1)))) (aCons (eToC (e2 oAdd (eVar 11) (eVar 6))) aNil))))))
  sNil)))))
  (sFreeze 2 (sRetC (eVarC 2)))))
def M_ranks_between : List C → Option C := fnM 2 10 T_ranks_between
def T_need_few_forks : Env → Option Out := (sSeq (sDrop (eCall M_need_pair (aCons (eToC (eVar 0)) (aCons (eToC (eVar 1)) aNil))))
  (sDrop (eCall M_need_few (aCons (eCall M_fork_count (aCons (eToC (eVar 0)) aNil)) (aCons (eToC (eInt 7)) aNil)))))
def M_need_few_forks : List C → Option C := fnM 2 0 T_need_few_forks
def T_comb_tree : Env → Option Out := (sSeq (sAsg (eToC (eTup aNil)) (gSet 2))
  (sSeq (sFor (itR1 (eVar 0)) (gSet 3)
  (sAsg (eToC (eIf (eB (eVar 1)) (eTup (aCons (eToC (eVar 2)) (aCons (eToC (eTup aNil)) aNil))) (eTup (aCons (eToC (eTup aNil)) (aCons (eToC (eVar 2)) aNil))))) (gSet 2)))
  (sRet (eVar 2))))
def M_comb_tree : List C → Option C := fnM 2 2 T_comb_tree
def T_fewest_up : Env → Option Out := (sSeq (sDrop (eCall M_need_few_forks (aCons (eToC (eVar 0)) (aCons (eToC (eVar 1)) aNil))))
  (sRet (eIf (eB (eOfC (eCall M_lies_below (aCons (eToC (eVar 0)) (aCons (eToC (eVar 1)) aNil))))) (e2 gIx (eDGet (eToN (eCall M_ranks_between (aCons (eToC (eVar 0)) (aCons (eToC (eVar 1)) aNil)))) (eVar 1)) (eInt 1)) eNon)))
def M_fewest_up : List C → Option C := fnM 2 0 T_fewest_up
def T_least_tree : Env → Option Out := (sSeq (sDrop (eCall M_need_number (aCons (eToC (eVar 0)) (aCons (eToC (eInt 0)) (aCons (eToC (eInt 24)) aNil)))))
  (sRetC (eCall M_comb_tree (aCons (eToC (eVar 0)) (aCons (eToC (eBl true)) aNil)))))
def M_least_tree : List C → Option C := fnM 1 0 T_least_tree
def T_greatest_tree : Env → Option Out := (sSeq (sDrop (eCall M_need_number (aCons (eToC (eVar 0)) (aCons (eToC (eInt 0)) (aCons (eToC (eInt 24)) aNil)))))
  (sRetC (eCall M_comb_tree (aCons (eToC (eVar 0)) (aCons (eToC (eBl false)) aNil)))))
def M_greatest_tree : List C → Option C := fnM 1 0 T_greatest_tree
def T__law_joined : Env → Option Out := (sSeq (sAsg (eToC (e2 gIx (eVar 0) (eInt 0))) (gSet 3))
  (sSeq (sAsg (eToC (eTup (aCons (eToC (e2 (oI fun i j => some (minII i j)) (eVar 1) (eVar 2))) (aCons (eToC (e2 (oI fun i j => some (maxII i j)) (eVar 1) (eVar 2))) aNil)))) (gSet 4))
  (sRet (eOr (eOfB (c2 gIn (eVar 4) (e2 gIx (eVar 0) (eInt 1)))) (eOfB (c2 gIn (e2 oMod (e2 oSub (eVar 1) (eVar 2)) (eVar 3)) (eTup (aCons (eToC (eInt 1)) (aCons (eToC (e2 oSub (eVar 3) (eInt 1))) aNil)))))))))
def M__law_joined : List C → Option C := fnM 3 2 T__law_joined
def T__law_pieces : Env → Option Out := (sSeq (sPar [1, 2] (fCons (fL (eLstF aNil)) (fCons (fL (eLstF (aCons (eToC (eTup (aCons (eToC (eInt 0)) (aCons (eToC (e2 oSub (e2 gIx (eVar 0) (eInt 0)) (eInt 1))) aNil)))) aNil))) aNil)))
  (sSeq (sWhile 60 (c2 gNe (eLV (eVarL 2)) (eLst aNil))
  (sSeq (sPop 2 (gUnp (gsCons 3 (gsCons 4 gsNil))))
  (sFor (itR2 (e2 oAdd (eVar 3) (eInt 1)) (eVar 4)) (gSet 5)
  (sIf (tAndF (eB (eOfC (eCall M__law_joined (aCons (eToC (eVar 0)) (aCons (eToC (eVar 3)) (aCons (eToC (eVar 5)) aNil)))))) (eB (eOfC (eCall M__law_joined (aCons (eToC (eVar 0)) (aCons (eToC (eVar 5)) (aCons (eToC (eVar 4)) aNil))))))) (sSeq (sAppend 1 (eTup (aCons (eToC (eVar 3)) (aCons (eToC (eVar 5)) (aCons (eToC (eVar 4)) aNil)))))
  (sOwn 2 (eCatF (eVarL 2) (eToL (eLst (aCons (eToC (eTup (aCons (eToC (eVar 3)) (aCons (eToC (eVar 5)) aNil)))) (aCons (eToC (eTup (aCons (eToC (eVar 5)) (aCons (eToC (eVar 4)) aNil)))) aNil)))))))
  sNil))))
  (sFreeze 1 (sRet (e1 gSortT (eVar 1))))))
def M__law_pieces : List C → Option C := fnM 1 5 T__law_pieces
def T__law_counts : Env → Option Out := (sSeq (sAsg (eCall M__law_pieces (aCons (eToC (eVar 0)) aNil)) (gSet 1))
  (sRet (e1 gTupleOf (eLV (eComp [3] (itR1 (e2 gIx (eVar 0) (eInt 0))) (gSet 3) cYes (e1 gLen (eLV (eComp [2] (itL (eVar 1)) (gSet 2) (c2 gIn (eVar 3) (eVar 2)) (eInt 1)))))))))
def M__law_counts : List C → Option C := fnM 1 3 T__law_counts
def T__law_shown : Env → Option Out := (sSeq (sAsg (eToC (eLst (aCons (eToC (eTup (aCons (eToC (eInt 4)) (aCons (eToC (eTup (aCons (eToC (eTup (aCons (eToC (eInt 0)) (aCons (eToC (eInt 2)) aNil)))) aNil))) aNil)))) (aCons (eToC (eTup (aCons (eToC (eInt 5)) (aCons (eToC (eTup (aCons (eToC (eTup (aCons (eToC (eInt 0)) (aCons (eToC (eInt 2)) aNil)))) (aCons (eToC (eTup (aCons (eToC (eInt 0)) (aCons (eToC (eInt 3)) aNil)))) aNil)))) aNil)))) (aCons (eToC (eTup (aCons (eToC (eInt 6)) (aCons (eToC (eTup (aCons (eToC (eTup (aCons (eToC (eInt 0)) (aCons (eToC (eInt 2)) aNil)))) (aCons (eToC (eTup (aCons (eToC (eInt 0)) (aCons (eToC (eInt 4)) aNil)))) (aCons (eToC (eTup (aCons (eToC (eInt 2)) (aCons (eToC (eInt 4)) aNil)))) aNil))))) aNil)))) aNil))))) (gSet 0))
  (sRet (eCatL (eVarL 0) (eToL (eLst (aCons (eToC (eTup (aCons (eToC (eInt 6)) (aCons (eToC (eTup (aCons (eToC (eTup (aCons (eToC (eInt 0)) (aCons (eToC (eInt 2)) aNil)))) (aCons (eToC (eTup (aCons (eToC (eInt 2)) (aCons (eToC (eInt 5)) aNil)))) (aCons (eToC (eTup (aCons (eToC (eInt 3)) (aCons (eToC (eInt 5)) aNil)))) aNil))))) aNil)))) (aCons (eToC (eTup (aCons (eToC (eInt 6)) (aCons (eToC (eTup (aCons (eToC (eTup (aCons (eToC (eInt 0)) (aCons (eToC (eInt 2)) aNil)))) (aCons (eToC (eTup (aCons (eToC (eInt 0)) (aCons (eToC (eInt 3)) aNil)))) (aCons (eToC (eTup (aCons (eToC (eInt 0)) (aCons (eToC (eInt 4)) aNil)))) aNil))))) aNil)))) aNil)))))))
def M__law_shown : List C → Option C := fnM 0 1 T__law_shown
def T__law_up_right : Env → Option Out := (sSeq (sPar [2, 3] (fCons (eCall M_tree_of (aCons (eToC (eVar 0)) aNil)) (fCons (eCall M_tree_of (aCons (eToC (eVar 1)) aNil)) aNil)))
  (sSeq (sPar [4, 5] (fCons (eCall M_way_up (aCons (eToC (eVar 2)) (aCons (eToC (eVar 3)) aNil))) (fCons (eToC (eVar 2)) aNil)))
  (sSeq (sAsg (eToC (eOfB (c2 gEq (eLV (eComp [13, 14] (itZ (eOfC (eCall M_reaches (aCons (eToC (eVar 2)) aNil))) (eOfC (eCall M_reaches (aCons (eToC (eVar 3)) aNil)))) (gUnp (gsCons 13 (gsCons 14 gsNil))) (c2 gGt (eVar 13) (eVar 14)) (eInt 1))) (eLst aNil)))) (gSet 6))
  (sSeq (sIf (tOrF (c2 gNe (eOfB (c2 gNotN (eVar 4) eNon)) (eVar 6)) (c2 gNe (eOfC (eCall M_is_below (aCons (eToC (eVar 2)) (aCons (eToC (eVar 3)) aNil)))) (eVar 6))) (sRet (eBl false))
  sNil)
  (sSeq (sIf (c2 gNe (eOfB (c2 gNotN (eOfC (eCall M_fewest_up (aCons (eToC (eVar 2)) (aCons (eToC (eVar 3)) aNil)))) eNon)) (eVar 6)) (sRet (eBl false))
  sNil)
  (sSeq (sIf (c2 gIsN (eVar 4) eNon) (sRet (eBl true))
  sNil)
  (sSeq (sPar [7, 8] (fCons (eToC (eLst aNil)) (fCons (eToC (eVar 0)) aNil)))
  (sSeq (sFor (itT (eVar 4)) (gSet 9)
  (sSeq (sAsg (eCall M_fork_turned (aCons (eToC (eVar 5)) (aCons (eToC (eVar 9)) aNil))) (gSet 5))
  (sSeq (sAsg (eCall M_tree_cutting (aCons (eToC (eVar 5)) aNil)) (gSet 10))
  (sSeq (sAsg (eToC (eLV (eComp [15] (itT (e2 gIx (eVar 8) (eInt 1))) (gSet 15) (c2 gNotIn (eVar 15) (e2 gIx (eVar 10) (eInt 1))) (eVar 15)))) (gSet 11))
  (sSeq (sIf (tOrF (c2 gNe (e1 gLen (eVar 11)) (eInt 1)) (c2 gNe (eOfC (eCall M_exchanged (aCons (eToC (eVar 8)) (aCons (eToC (e2 gIx (eVar 11) (eInt 0))) aNil)))) (eVar 10))) (sRet (eBl false))
  sNil)
  (sSeq (sIf (c2 gNe (eOfC (eCall M_turned_fork (aCons (eToC (eVar 8)) (aCons (eToC (e2 gIx (eVar 11) (eInt 0))) aNil)))) (eTup (aCons (eToC (eVar 9)) (aCons (eToC (eBl true)) aNil)))) (sRet (eBl false))
  sNil)
  (sPar [7, 8] (fCons (eToC (eCatL (eVarL 7) (eVarL 11))) (fCons (eToC (eVar 10)) aNil)))))))))
  (sSeq (sIf (tOrF (c2 gNe (eVar 8) (eVar 1)) (c2 gNe (eOfC (eCall M_behind_way (aCons (eToC (eVar 0)) (aCons (eToC (e1 gTupleOf (eVar 7))) aNil)))) (eVar 1))) (sRet (eBl false))
  sNil)
  (sSeq (sAsg (eCall M_fewest_exchanges (aCons (eToC (eVar 0)) (aCons (eToC (eVar 1)) aNil))) (gSet 12))
  (sSeq (sIf (tNotF (c3 gLe gLe (eVar 12) (eOfC (eCall M_fewest_up (aCons (eToC (eVar 2)) (aCons (eToC (eVar 3)) aNil)))) (e1 gLen (eVar 4)))) (sRet (eBl false))
  sNil)
  (sRet (eOfB (c2 gEq (eOfC (eCall M_is_least_way (aCons (eToC (eVar 0)) (aCons (eToC (eVar 1)) (aCons (eToC (e1 gTupleOf (eVar 7))) aNil))))) (eOfB (c2 gEq (e1 gLen (eVar 4)) (eVar 12)))))))))))))))))
def M__law_up_right : List C → Option C := fnM 2 14 T__law_up_right
def T__law_fans_right : Env → Option Out := (sSeq (sAsg (eToC (eTup (aCons (eToC (e2 gIx (eVar 0) (eInt 0))) (aCons (eCall M_tree_of (aCons (eToC (eVar 0)) aNil)) aNil)))) (gUnp (gsCons 1 (gsCons 2 gsNil))))
  (sSeq (sPar [3, 4] (fCons (eCall M_least_tree (aCons (eToC (e2 oSub (eVar 1) (eInt 2))) aNil)) (fCons (eCall M_greatest_tree (aCons (eToC (e2 oSub (eVar 1) (eInt 2))) aNil)) aNil)))
  (sSeq (sAsg (eToC (eLst (aCons (eToC (e1 gTupleOf (eLV (eComp [7] (itR2 (eInt 2) (e2 oSub (eVar 1) (eInt 1))) (gSet 7) cYes (eTup (aCons (eToC (eInt 0)) (aCons (eToC (eVar 7)) aNil))))))) (aCons (eToC (e1 gTupleOf (eLV (eComp [8] (itR2 (eInt 1) (e2 oSub (eVar 1) (eInt 2))) (gSet 8) cYes (eTup (aCons (eToC (eVar 8)) (aCons (eToC (e2 oSub (eVar 1) (eInt 1))) aNil))))))) aNil)))) (gSet 5))
  (sSeq (sIf (tOrF (c2 gNe (eOfC (eCall M_tree_cutting (aCons (eToC (eVar 3)) aNil))) (eTup (aCons (eToC (eVar 1)) (aCons (eToC (e2 gIx (eVar 5) (eInt 0))) aNil)))) (c2 gNe (eOfC (eCall M_tree_cutting (aCons (eToC (eVar 4)) aNil))) (eTup (aCons (eToC (eVar 1)) (aCons (eToC (e2 gIx (eVar 5) (eInt 1))) aNil))))) (sRet (eBl false))
  sNil)
  (sSeq (sAsg (eCall M__law_counts (aCons (eToC (eVar 0)) aNil)) (gSet 6))
  (sSeq (sIf (c2 gNe (eOfC (eCall M_fewest_up (aCons (eToC (eVar 3)) (aCons (eToC (eVar 2)) aNil)))) (e2 oSub (e2 oSub (eVar 1) (eInt 2)) (e2 gIx (eVar 6) (eInt 0)))) (sRet (eBl false))
  sNil)
  (sSeq (sIf (c2 gNe (eOfC (eCall M_far_from_fan (aCons (eToC (eVar 0)) (aCons (eToC (eInt 0)) aNil)))) (e2 oSub (e2 oSub (eVar 1) (eInt 2)) (e2 gIx (eVar 6) (eInt 0)))) (sRet (eBl false))
  sNil)
  (sSeq (sIf (c2 gNe (eOfC (eCall M_fewest_up (aCons (eToC (eVar 2)) (aCons (eToC (eVar 4)) aNil)))) (e2 oSub (e2 oSub (eVar 1) (eInt 2)) (e2 gIx (eVar 6) (eNeg (eInt 1))))) (sRet (eBl false))
  sNil)
  (sSeq (sIf (c2 gNe (eOfC (eCall M_far_from_fan (aCons (eToC (eVar 0)) (aCons (eToC (e2 oSub (eVar 1) (eInt 1))) aNil)))) (e2 oSub (e2 oSub (eVar 1) (eInt 2)) (e2 gIx (eVar 6) (eNeg (eInt 1))))) (sRet (eBl false))
  sNil)
  (sRet (eOfB (c2 gEq (eOfC (eCall M_fewest_exchanges (aCons (eToC (eTup (aCons (eToC (eVar 1)) (aCons (eToC (e2 gIx (eVar 5) (eInt 0))) aNil)))) (aCons (eToC (eVar 0)) aNil)))) (e2 oSub (e2 oSub (eVar 1) (eInt 2)) (e2 gIx (eVar 6) (eInt 0)))))))))))))))
def M__law_fans_right : List C → Option C := fnM 1 8 T__law_fans_right
end Ev

set_option Elab.async false
set_option linter.all false
set_option autoImplicit false
set_option maxRecDepth 100000
set_option maxHeartbeats 0
namespace Ev
open PySem PySem.Spec L2
theorem sc_is_whole : FnScope ["value", "low", "high"] ["value", "low", "high"] (defScope EW.s_is_whole) := ⟨rfl, rfl, rfl, by decide +kernel, rfl, by decide +kernel, by decide +kernel⟩
theorem ok_is_whole {P : Program} {w : World} {K : PySem.W.Frag} {mg : Str → Option Value} {base : Heap} {f : Addr} {fd : FuncData} (m : mg "is_whole" = some (.ref f)) (F : FunD K "is_whole" "is_whole" (defArgs EW.s_is_whole) (defBody EW.s_is_whole) (defScope EW.s_is_whole) [] [] f fd) (n_isinstance : mg "isinstance" = none) (n_int : mg "int" = none) (n_bool : mg "bool" = none) :
    Fn P w K mg base "is_whole" ["value", "low", "high"] 1 M_is_whole :=
  Fn.make m F (F.bindsN fun _ _ _ _ _ _ us hl => match us, hl with | [_, _, _], _ => rfl) sc_is_whole rfl rfl fun cdv A outer s H E hr => show RSs _ _ T_is_whole from
  (rs_one (rs_ret (r_and (r_isi isInt_ok rfl n_isinstance rfl n_int (by decide +kernel) (r_var 0 (pv 0))) (r_and (r_not (r_isi isBool_ok rfl n_isinstance rfl n_bool (by decide +kernel) (r_var 0 (pv 0)))) (r_one (r_chain c_le c_le (r_V (r_var 1 (pv 1))) (r_V (r_var 0 (pv 0))) (r_V (r_var 2 (pv 2)))))))))
theorem sc_are_next : FnScope ["sides", "one", "other"] ["sides", "one", "other"] (defScope EW.s_are_next) := ⟨rfl, rfl, rfl, by decide +kernel, rfl, by decide +kernel, by decide +kernel⟩
theorem ok_are_next {P : Program} {w : World} {K : PySem.W.Frag} {mg : Str → Option Value} {base : Heap} {f : Addr} {fd : FuncData} (m : mg "are_next" = some (.ref f)) (F : FunD K "are_next" "are_next" (defArgs EW.s_are_next) (defBody EW.s_are_next) (defScope EW.s_are_next) [] [] f fd) :
    Fn P w K mg base "are_next" ["sides", "one", "other"] 1 M_are_next :=
  Fn.make m F (F.bindsN fun _ _ _ _ _ _ us hl => match us, hl with | [_, _, _], _ => rfl) sc_are_next rfl rfl fun cdv A outer s H E hr => show RSs _ _ T_are_next from
  (rs_one (rs_ret (r_cmpV (c_in hr.units) (r_V (r_bin o_mod (r_bin o_sub (r_var 1 (pv 1)) (r_var 2 (pv 2))) (r_var 0 (pv 0)))) (r_V (r_tup (r_acons (r_toC r_int) (r_acons (r_toC (r_bin o_sub (r_var 0 (pv 0)) r_int)) r_anil)))))))
theorem sc_fits_cut : FnScope ["sides", "value", "one"] ["sides", "value"] (defScope EW.s_fits_cut) := ⟨rfl, rfl, rfl, by decide +kernel, rfl, by decide +kernel, by decide +kernel⟩
theorem ok_fits_cut {P : Program} {w : World} {K : PySem.W.Frag} {mg : Str → Option Value} {base : Heap} {f : Addr} {fd : FuncData} (m : mg "fits_cut" = some (.ref f)) (F : FunD K "fits_cut" "fits_cut" (defArgs EW.s_fits_cut) (defBody EW.s_fits_cut) (defScope EW.s_fits_cut) [] [] f fd) (c_is_whole : Fn P w K mg base "is_whole" ["value", "low", "high"] 1 M_is_whole) (c_are_next : Fn P w K mg base "are_next" ["sides", "one", "other"] 1 M_are_next) (n_isinstance : mg "isinstance" = none) (n_tuple : mg "tuple" = none) (n_len : mg "len" = none) (n_all : mg "all" = none) :
    Fn P w K mg base "fits_cut" ["sides", "value"] 2 M_fits_cut :=
  Fn.make m F (F.bindsN fun _ _ _ _ _ _ us hl => match us, hl with | [_, _], _ => rfl) sc_fits_cut rfl rfl fun cdv A outer s H E hr => show RSs _ _ T_fits_cut from
  (rs_cons (rs_if (r_w (w_or (r_notT (r_test (r_isi isTuple_ok rfl n_isinstance rfl n_tuple (by decide +kernel) (r_var 1 (pv 1))))) (w_or (r_cmpVT (c_ne hr.units) (r_V (r_b1V b_len rfl n_len (by decide +kernel) (r_V (r_var 1 (pv 1))))) (r_V r_int)) (w_or1 (r_notT (r_test (r_b1V (b_all rfl) rfl n_all (by decide +kernel) (r_V (r_F (r_lcF (own := [("one", 2)]) rfl sc_fits_cut.nd (ri_tup (r_var 1 (pv 1))) (blkOk_by (by kernel_rfl)) (fun _ _ _ _ _ => (rg_name 2 (pg_name sc_fits_cut.nd rfl (Or.inl rfl)))) (fun _ _ _ _ _ => rts_nil) (fun _ _ _ _ _ => (r_ofC (r_fn c_is_whole (hr.mono (by omega)) (by rfl) (r_acons (r_toC (r_var 2 (pv 2))) (r_acons (r_toC r_int) (r_acons (r_toC (r_bin o_sub (r_var 0 (pv 0)) r_int)) r_anil)))))))))))))))) (rs_one (rs_ret r_bl))
  rs_nil)
  (rs_one (rs_ret (r_and (r_cmpV c_lt (r_V (r_ix (r_var 1 (pv 1)) r_int)) (r_V (r_ix (r_var 1 (pv 1)) r_int))) (r_one (r_not (r_ofC (r_fn c_are_next (hr.mono (by omega)) (by rfl) (r_acons (r_toC (r_var 0 (pv 0))) (r_acons (r_toC (r_ix (r_var 1 (pv 1)) r_int)) (r_acons (r_toC (r_ix (r_var 1 (pv 1)) r_int)) r_anil)))))))))))
theorem sc_cross : FnScope ["one", "other"] ["one", "other"] (defScope EW.s_cross) := ⟨rfl, rfl, rfl, by decide +kernel, rfl, by decide +kernel, by decide +kernel⟩
theorem ok_cross {P : Program} {w : World} {K : PySem.W.Frag} {mg : Str → Option Value} {base : Heap} {f : Addr} {fd : FuncData} (m : mg "cross" = some (.ref f)) (F : FunD K "cross" "cross" (defArgs EW.s_cross) (defBody EW.s_cross) (defScope EW.s_cross) [] [] f fd) :
    Fn P w K mg base "cross" ["one", "other"] 1 M_cross :=
  Fn.make m F (F.bindsN fun _ _ _ _ _ _ us hl => match us, hl with | [_, _], _ => rfl) sc_cross rfl rfl fun cdv A outer s H E hr => show RSs _ _ T_cross from
  (rs_one (rs_ret (r_or (r_chain4 c_lt c_lt c_lt (r_V (r_ix (r_var 0 (pv 0)) r_int)) (r_V (r_ix (r_var 1 (pv 1)) r_int)) (r_V (r_ix (r_var 0 (pv 0)) r_int)) (r_V (r_ix (r_var 1 (pv 1)) r_int))) (r_one (r_chain4 c_lt c_lt c_lt (r_V (r_ix (r_var 1 (pv 1)) r_int)) (r_V (r_ix (r_var 0 (pv 0)) r_int)) (r_V (r_ix (r_var 1 (pv 1)) r_int)) (r_V (r_ix (r_var 0 (pv 0)) r_int)))))))
theorem sc_rises : FnScope ["row", "one", "other"] ["row"] (defScope EW.s_rises) := ⟨rfl, rfl, rfl, by decide +kernel, rfl, by decide +kernel, by decide +kernel⟩
theorem ok_rises {P : Program} {w : World} {K : PySem.W.Frag} {mg : Str → Option Value} {base : Heap} {f : Addr} {fd : FuncData} (m : mg "rises" = some (.ref f)) (F : FunD K "rises" "rises" (defArgs EW.s_rises) (defBody EW.s_rises) (defScope EW.s_rises) [] [] f fd) (n_all : mg "all" = none) (n_zip : mg "zip" = none) :
    Fn P w K mg base "rises" ["row"] 1 M_rises :=
  Fn.make m F (F.bindsN fun _ _ _ _ _ _ us hl => match us, hl with | [_], _ => rfl) sc_rises rfl rfl fun cdv A outer s H E hr => show RSs _ _ T_rises from
  (rs_one (rs_ret (r_b1V (b_all rfl) rfl n_all (by decide +kernel) (r_V (r_F (r_lcF (own := [("one", 1), ("other", 2)]) rfl sc_rises.nd (ri_zip rfl n_zip (r_var 0 (pv 0)) (r_tail (r_var 0 (pv 0)))) (blkOk_by (by kernel_rfl)) (fun _ _ _ _ _ => (rg_tup rfl (rgs_cons (pg_name sc_rises.nd rfl (Or.inl rfl)) (rgs_cons (pg_name sc_rises.nd rfl (Or.inl rfl)) rgs_nil)) rfl rfl gs2)) (fun _ _ _ _ _ => rts_nil) (fun _ _ _ _ _ => (r_cmpV (c_ltT hr.units) (r_V (r_var 1 (pv 1))) (r_V (r_var 2 (pv 2)))))))))))
theorem sc_fits_cutting : FnScope ["value", "sides", "cuts", "cut", "other", "one"] ["value"] (defScope EW.s_fits_cutting) := ⟨rfl, rfl, rfl, by decide +kernel, rfl, by decide +kernel, by decide +kernel⟩
theorem ok_fits_cutting {P : Program} {w : World} {K : PySem.W.Frag} {mg : Str → Option Value} {base : Heap} {f : Addr} {fd : FuncData} (m : mg "fits_cutting" = some (.ref f)) (F : FunD K "fits_cutting" "fits_cutting" (defArgs EW.s_fits_cutting) (defBody EW.s_fits_cutting) (defScope EW.s_fits_cutting) [] [] f fd) (c_is_whole : Fn P w K mg base "is_whole" ["value", "low", "high"] 1 M_is_whole) (c_fits_cut : Fn P w K mg base "fits_cut" ["sides", "value"] 2 M_fits_cut) (c_rises : Fn P w K mg base "rises" ["row"] 1 M_rises) (c_cross : Fn P w K mg base "cross" ["one", "other"] 1 M_cross) (n_isinstance : mg "isinstance" = none) (n_tuple : mg "tuple" = none) (n_len : mg "len" = none) (n_all : mg "all" = none) (n_any : mg "any" = none) (i_MOST : ∃ t, mg "MOST" = some (.int 40 t)) :
    Fn P w K mg base "fits_cutting" ["value"] 3 M_fits_cutting :=
  Fn.make m F (F.bindsN fun _ _ _ _ _ _ us hl => match us, hl with | [_], _ => rfl) sc_fits_cutting rfl rfl fun cdv A outer s H E hr => show RSs _ _ T_fits_cutting from
  (rs_cons (rs_if (r_w (w_or (r_notT (r_test (r_isi isTuple_ok rfl n_isinstance rfl n_tuple (by decide +kernel) (r_var 0 (pv 0))))) (w_or (r_cmpVT (c_ne hr.units) (r_V (r_b1V b_len rfl n_len (by decide +kernel) (r_V (r_var 0 (pv 0))))) (r_V r_int)) (w_or1 (r_notT (r_test (r_ofC (r_fn c_is_whole (hr.mono (by omega)) (by rfl) (r_acons (r_toC (r_ix (r_var 0 (pv 0)) r_int)) (r_acons (r_toC r_int) (r_acons (r_toC (r_globE rfl i_MOST)) r_anil))))))))))) (rs_one (rs_ret r_bl))
  rs_nil)
  (rs_cons (rs_unp (r_var 0 (pv 0)) (rg_tup rfl (rgs_cons (pg_name sc_fits_cutting.nd rfl (Or.inr rfl)) (rgs_cons (pg_name sc_fits_cutting.nd rfl (Or.inr rfl)) rgs_nil)) rfl rfl gs2))
  (rs_cons (rs_if (r_w (w_or (r_notT (r_test (r_isi isTuple_ok rfl n_isinstance rfl n_tuple (by decide +kernel) (r_var 2 (pv 2))))) (w_or (r_cmpVT (c_ne hr.units) (r_V (r_b1V b_len rfl n_len (by decide +kernel) (r_V (r_var 2 (pv 2))))) (r_V (r_bin o_sub (r_var 1 (pv 1)) r_int))) (w_or1 (r_notT (r_test (r_b1V (b_all rfl) rfl n_all (by decide +kernel) (r_V (r_F (r_lcF (own := [("cut", 3)]) rfl sc_fits_cutting.nd (ri_tup (r_var 2 (pv 2))) (blkOk_by (by kernel_rfl)) (fun _ _ _ _ _ => (rg_name 3 (pg_name sc_fits_cutting.nd rfl (Or.inl rfl)))) (fun _ _ _ _ _ => rts_nil) (fun _ _ _ _ _ => (r_ofC (r_fn c_fits_cut (hr.mono (by omega)) (by rfl) (r_acons (r_toC (r_var 1 (pv 1))) (r_acons (r_toC (r_var 3 (pv 3))) r_anil))))))))))))))) (rs_one (rs_ret r_bl))
  rs_nil)
  (rs_one (rs_ret (r_and (r_ofC (r_fn c_rises (hr.mono (by omega)) (by rfl) (r_acons (r_toC (r_var 2 (pv 2))) r_anil))) (r_one (r_not (r_b1V (b_any rfl) rfl n_any (by decide +kernel) (r_V (r_F (r_lcF (own := [("one", 5)]) rfl sc_fits_cutting.nd (ri_tup (r_var 2 (pv 2))) (blkOk_by (by kernel_rfl)) (fun _ _ _ _ _ => (rg_name 5 (pg_name sc_fits_cutting.nd rfl (Or.inr rfl)))) (fun _ _ _ _ _ => rts_nil) (fun _ _ _ _ _ => (r_b1V (b_any rfl) rfl n_any (by decide +kernel) (r_V (r_F (r_lcF (own := [("other", 4)]) rfl sc_fits_cutting.nd (ri_tup (r_var 2 (pv 2))) (blkOk_by (by kernel_rfl)) (fun _ _ _ _ _ => (rg_name 4 (pg_name sc_fits_cutting.nd rfl (Or.inl rfl)))) (fun _ _ _ _ _ => rts_nil) (fun _ _ _ _ _ => (r_ofC (r_fn c_cross (hr.mono (by omega)) (by rfl) (r_acons (r_toC (r_var 5 (pv 5))) (r_acons (r_toC (r_var 4 (pv 4))) r_anil))))))))))))))))))))))
theorem sc_all_ties : FnScope ["cutting", "sides", "cuts", "one"] ["cutting"] (defScope EW.s_all_ties) := ⟨rfl, rfl, rfl, by decide +kernel, rfl, by decide +kernel, by decide +kernel⟩
theorem ok_all_ties {P : Program} {w : World} {K : PySem.W.Frag} {mg : Str → Option Value} {base : Heap} {f : Addr} {fd : FuncData} (m : mg "all_ties" = some (.ref f)) (F : FunD K "all_ties" "all_ties" (defArgs EW.s_all_ties) (defBody EW.s_all_ties) (defScope EW.s_all_ties) [] [] f fd) (n_sorted : mg "sorted" = none) (n_range : mg "range" = none) (n_list : mg "list" = none) :
    Fn P w K mg base "all_ties" ["cutting"] 1 M_all_ties :=
  Fn.make m F (F.bindsN fun _ _ _ _ _ _ us hl => match us, hl with | [_], _ => rfl) sc_all_ties rfl rfl fun cdv A outer s H E hr => show RSs _ _ T_all_ties from
  (rs_cons (rs_unp (r_var 0 (pv 0)) (rg_tup rfl (rgs_cons (pg_name sc_all_ties.nd rfl (Or.inl rfl)) (rgs_cons (pg_name sc_all_ties.nd rfl (Or.inl rfl)) rgs_nil)) rfl rfl gs2))
  (rs_one (rs_ret (r_b1 b_sortT rfl n_sorted (by decide +kernel) (r_catL (r_toL (r_catL (r_toL (r_F (r_lcF (own := [("one", 3)]) rfl sc_all_ties.nd (ri_range1 rfl n_range (r_bin o_sub (r_var 1 (pv 1)) r_int)) (blkOk_by (by kernel_rfl)) (fun _ _ _ _ _ => (rg_name 3 (pg_name sc_all_ties.nd rfl (Or.inl rfl)))) (fun _ _ _ _ _ => rts_nil) (fun _ _ _ _ _ => (r_tup (r_acons (r_toC (r_var 3 (pv 3))) (r_acons (r_toC (r_bin o_add (r_var 3 (pv 3)) r_int)) r_anil))))))) (r_toL (r_lst (r_acons (r_toC (r_tup (r_acons (r_toC r_int) (r_acons (r_toC (r_bin o_sub (r_var 1 (pv 1)) r_int)) r_anil)))) r_anil))))) (r_toL (r_ty1 b_list rfl n_list (by decide +kernel) (r_var 2 (pv 2)))))))))
theorem sc_near_of : FnScope ["cutting", "found", "one", "other", "corner", "row"] ["cutting"] (defScope EW.s_near_of) := ⟨rfl, rfl, rfl, by decide +kernel, rfl, by decide +kernel, by decide +kernel⟩
theorem ok_near_of {P : Program} {w : World} {K : PySem.W.Frag} {mg : Str → Option Value} {base : Heap} {f : Addr} {fd : FuncData} (m : mg "near_of" = some (.ref f)) (F : FunD K "near_of" "near_of" (defArgs EW.s_near_of) (defBody EW.s_near_of) (defScope EW.s_near_of) [] [] f fd) (c_all_ties : Fn P w K mg base "all_ties" ["cutting"] 1 M_all_ties) (n_range : mg "range" = none) (n_sorted : mg "sorted" = none) :
    Fn P w K mg base "near_of" ["cutting"] 2 M_near_of :=
  Fn.make m F (F.bindsN fun _ _ _ _ _ _ us hl => match us, hl with | [_], _ => rfl) sc_near_of rfl rfl fun cdv A outer s H E hr => show RSs _ _ T_near_of from
  (rs_cons (rs_ownI (ps_lc (own := [("corner", 4)]) rfl sc_near_of.nd rfl rfl (sw_true rfl rfl rfl (by decide +kernel)) (ri_range1 rfl n_range (r_ix (r_var 0 (pv 0)) r_int)) (blkOk_by (by kernel_rfl)) (fun _ _ _ _ _ => (rg_name 4 (pg_name sc_near_of.nd rfl (Or.inl rfl)))) (fun _ _ _ _ _ => rts_nil) (fun _ _ _ _ _ => (r_lst r_anil))))
  (rs_cons (rs_for PassesOwn.never rfl (ri_list (r_ofC (r_fn c_all_ties (hr.mono (by omega)) (by rfl) (r_acons (r_toC (r_var 0 (pv 0))) r_anil)))) (rg_tup rfl (rgs_cons (pg_name sc_near_of.nd rfl (Or.inl rfl)) (rgs_cons (pg_name sc_near_of.nd rfl (Or.inl rfl)) rgs_nil)) rfl rfl gs2)
  (rs_cons (rs_setItem (pv 1) (r_var 2 (pv 2)) (r_catL (r_toL (r_ixL (r_varL 1 (pv 1)) (r_var 2 (pv 2)))) (r_toL (r_lst (r_acons (r_toC (r_var 3 (pv 3))) r_anil)))))
  (rs_one (rs_setItem (pv 1) (r_var 3 (pv 3)) (r_catL (r_toL (r_ixL (r_varL 1 (pv 1)) (r_var 3 (pv 3)))) (r_toL (r_lst (r_acons (r_toC (r_var 2 (pv 2))) r_anil))))))))
  (rss_freeze 1 (rs_one (rs_ret (r_F (r_lcF (own := [("row", 5)]) rfl sc_near_of.nd (ri_list (r_var 1 (pv 1))) (blkOk_by (by kernel_rfl)) (fun _ _ _ _ _ => (rg_name 5 (pg_name sc_near_of.nd rfl (Or.inl rfl)))) (fun _ _ _ _ _ => rts_nil) (fun _ _ _ _ _ => (r_b1 b_sortI rfl n_sorted (by decide +kernel) (r_var 5 (pv 5)))))))))))
theorem sc_thirds_of : FnScope ["cutting", "cut", "near", "corner"] ["cutting", "cut"] (defScope EW.s_thirds_of) := ⟨rfl, rfl, rfl, by decide +kernel, rfl, by decide +kernel, by decide +kernel⟩
theorem ok_thirds_of {P : Program} {w : World} {K : PySem.W.Frag} {mg : Str → Option Value} {base : Heap} {f : Addr} {fd : FuncData} (m : mg "thirds_of" = some (.ref f)) (F : FunD K "thirds_of" "thirds_of" (defArgs EW.s_thirds_of) (defBody EW.s_thirds_of) (defScope EW.s_thirds_of) [] [] f fd) (c_near_of : Fn P w K mg base "near_of" ["cutting"] 2 M_near_of) :
    Fn P w K mg base "thirds_of" ["cutting", "cut"] 3 M_thirds_of :=
  Fn.make m F (F.bindsN fun _ _ _ _ _ _ us hl => match us, hl with | [_, _], _ => rfl) sc_thirds_of rfl rfl fun cdv A outer s H E hr => show RSs _ _ T_thirds_of from
  (rs_cons (rs_setC sc_thirds_of.nd rfl (Or.inr rfl) (r_fn c_near_of (hr.mono (by omega)) (by rfl) (r_acons (r_toC (r_var 0 (pv 0))) r_anil)))
  (rs_one (rs_ret (r_F (r_lcF (own := [("corner", 3)]) rfl sc_thirds_of.nd (ri_list (r_ix (r_var 2 (pv 2)) (r_ix (r_var 1 (pv 1)) r_int))) (blkOk_by (by kernel_rfl)) (fun _ _ _ _ _ => (rg_name 3 (pg_name sc_thirds_of.nd rfl (Or.inl rfl)))) (fun _ _ _ _ _ => (rts_one (r_cmpVT (c_in hr.units) (r_V (r_var 3 (pv 3))) (r_V (r_ix (r_var 2 (pv 2)) (r_ix (r_var 1 (pv 1)) r_int)))))) (fun _ _ _ _ _ => (r_var 3 (pv 3))))))))
theorem sc_need_cutting : FnScope ["value"] ["value"] (defScope EW.s_need_cutting) := ⟨rfl, rfl, rfl, by decide +kernel, rfl, by decide +kernel, by decide +kernel⟩
theorem ok_need_cutting {P : Program} {w : World} {K : PySem.W.Frag} {mg : Str → Option Value} {base : Heap} {f : Addr} {fd : FuncData} (m : mg "need_cutting" = some (.ref f)) (F : FunD K "need_cutting" "need_cutting" (defArgs EW.s_need_cutting) (defBody EW.s_need_cutting) (defScope EW.s_need_cutting) [] [] f fd) (c_fits_cutting : Fn P w K mg base "fits_cutting" ["value"] 3 M_fits_cutting) :
    Fn P w K mg base "need_cutting" ["value"] 4 M_need_cutting :=
  Fn.make m F (F.bindsN fun _ _ _ _ _ _ us hl => match us, hl with | [_], _ => rfl) sc_need_cutting rfl rfl fun cdv A outer s H E hr => show RSs _ _ T_need_cutting from
  (rs_one (rs_if (r_notT (r_test (r_ofC (r_fn c_fits_cutting (hr.mono (by omega)) (by rfl) (r_acons (r_toC (r_var 0 (pv 0))) r_anil))))) (rs_one rs_never)
  rs_nil))
theorem sc_need_corner : FnScope ["cutting", "value"] ["cutting", "value"] (defScope EW.s_need_corner) := ⟨rfl, rfl, rfl, by decide +kernel, rfl, by decide +kernel, by decide +kernel⟩
theorem ok_need_corner {P : Program} {w : World} {K : PySem.W.Frag} {mg : Str → Option Value} {base : Heap} {f : Addr} {fd : FuncData} (m : mg "need_corner" = some (.ref f)) (F : FunD K "need_corner" "need_corner" (defArgs EW.s_need_corner) (defBody EW.s_need_corner) (defScope EW.s_need_corner) [] [] f fd) (c_is_whole : Fn P w K mg base "is_whole" ["value", "low", "high"] 1 M_is_whole) :
    Fn P w K mg base "need_corner" ["cutting", "value"] 2 M_need_corner :=
  Fn.make m F (F.bindsN fun _ _ _ _ _ _ us hl => match us, hl with | [_, _], _ => rfl) sc_need_corner rfl rfl fun cdv A outer s H E hr => show RSs _ _ T_need_corner from
  (rs_one (rs_if (r_notT (r_test (r_ofC (r_fn c_is_whole (hr.mono (by omega)) (by rfl) (r_acons (r_toC (r_var 1 (pv 1))) (r_acons (r_toC r_int) (r_acons (r_toC (r_bin o_sub (r_ix (r_var 0 (pv 0)) r_int) r_int)) r_anil))))))) (rs_one rs_never)
  rs_nil))
theorem sc_need_cut : FnScope ["cutting", "value"] ["cutting", "value"] (defScope EW.s_need_cut) := ⟨rfl, rfl, rfl, by decide +kernel, rfl, by decide +kernel, by decide +kernel⟩
theorem ok_need_cut {P : Program} {w : World} {K : PySem.W.Frag} {mg : Str → Option Value} {base : Heap} {f : Addr} {fd : FuncData} (m : mg "need_cut" = some (.ref f)) (F : FunD K "need_cut" "need_cut" (defArgs EW.s_need_cut) (defBody EW.s_need_cut) (defScope EW.s_need_cut) [] [] f fd) (c_fits_cut : Fn P w K mg base "fits_cut" ["sides", "value"] 2 M_fits_cut) :
    Fn P w K mg base "need_cut" ["cutting", "value"] 3 M_need_cut :=
  Fn.make m F (F.bindsN fun _ _ _ _ _ _ us hl => match us, hl with | [_, _], _ => rfl) sc_need_cut rfl rfl fun cdv A outer s H E hr => show RSs _ _ T_need_cut from
  (rs_one (rs_if (r_w (w_or (r_notT (r_test (r_ofC (r_fn c_fits_cut (hr.mono (by omega)) (by rfl) (r_acons (r_toC (r_ix (r_var 0 (pv 0)) r_int)) (r_acons (r_toC (r_var 1 (pv 1))) r_anil)))))) (w_or1 (r_cmpVT (c_notIn hr.units) (r_V (r_var 1 (pv 1))) (r_V (r_ix (r_var 0 (pv 0)) r_int)))))) (rs_one rs_never)
  rs_nil))
theorem sc_need_sides : FnScope ["value", "most"] ["value", "most"] (defScope EW.s_need_sides) := ⟨rfl, rfl, rfl, by decide +kernel, rfl, by decide +kernel, by decide +kernel⟩
theorem ok_need_sides {P : Program} {w : World} {K : PySem.W.Frag} {mg : Str → Option Value} {base : Heap} {f : Addr} {fd : FuncData} (m : mg "need_sides" = some (.ref f)) (F : FunD K "need_sides" "need_sides" (defArgs EW.s_need_sides) (defBody EW.s_need_sides) (defScope EW.s_need_sides) [] [] f fd) (c_is_whole : Fn P w K mg base "is_whole" ["value", "low", "high"] 1 M_is_whole) :
    Fn P w K mg base "need_sides" ["value", "most"] 2 M_need_sides :=
  Fn.make m F (F.bindsN fun _ _ _ _ _ _ us hl => match us, hl with | [_, _], _ => rfl) sc_need_sides rfl rfl fun cdv A outer s H E hr => show RSs _ _ T_need_sides from
  (rs_one (rs_if (r_notT (r_test (r_ofC (r_fn c_is_whole (hr.mono (by omega)) (by rfl) (r_acons (r_toC (r_var 0 (pv 0))) (r_acons (r_toC r_int) (r_acons (r_toC (r_var 1 (pv 1))) r_anil))))))) (rs_one rs_never)
  rs_nil))
theorem sc_need_number : FnScope ["value", "low", "high"] ["value", "low", "high"] (defScope EW.s_need_number) := ⟨rfl, rfl, rfl, by decide +kernel, rfl, by decide +kernel, by decide +kernel⟩
theorem ok_need_number {P : Program} {w : World} {K : PySem.W.Frag} {mg : Str → Option Value} {base : Heap} {f : Addr} {fd : FuncData} (m : mg "need_number" = some (.ref f)) (F : FunD K "need_number" "need_number" (defArgs EW.s_need_number) (defBody EW.s_need_number) (defScope EW.s_need_number) [] [] f fd) (c_is_whole : Fn P w K mg base "is_whole" ["value", "low", "high"] 1 M_is_whole) :
    Fn P w K mg base "need_number" ["value", "low", "high"] 2 M_need_number :=
  Fn.make m F (F.bindsN fun _ _ _ _ _ _ us hl => match us, hl with | [_, _, _], _ => rfl) sc_need_number rfl rfl fun cdv A outer s H E hr => show RSs _ _ T_need_number from
  (rs_one (rs_if (r_notT (r_test (r_ofC (r_fn c_is_whole (hr.mono (by omega)) (by rfl) (r_acons (r_toC (r_var 0 (pv 0))) (r_acons (r_toC (r_var 1 (pv 1))) (r_acons (r_toC (r_var 2 (pv 2))) r_anil))))))) (rs_one rs_never)
  rs_nil))
theorem sc_need_few : FnScope ["many", "limit"] ["many", "limit"] (defScope EW.s_need_few) := ⟨rfl, rfl, rfl, by decide +kernel, rfl, by decide +kernel, by decide +kernel⟩
theorem ok_need_few {P : Program} {w : World} {K : PySem.W.Frag} {mg : Str → Option Value} {base : Heap} {f : Addr} {fd : FuncData} (m : mg "need_few" = some (.ref f)) (F : FunD K "need_few" "need_few" (defArgs EW.s_need_few) (defBody EW.s_need_few) (defScope EW.s_need_few) [] [] f fd) :
    Fn P w K mg base "need_few" ["many", "limit"] 1 M_need_few :=
  Fn.make m F (F.bindsN fun _ _ _ _ _ _ us hl => match us, hl with | [_, _], _ => rfl) sc_need_few rfl rfl fun cdv A outer s H E hr => show RSs _ _ T_need_few from
  (rs_one (rs_if (r_cmpVT c_gt (r_V (r_var 0 (pv 0))) (r_V (r_var 1 (pv 1)))) (rs_one rs_never)
  rs_nil))
theorem sc_cut_for : FnScope ["cutting", "cut", "one", "other"] ["cutting", "cut"] (defScope EW.s_cut_for) := ⟨rfl, rfl, rfl, by decide +kernel, rfl, by decide +kernel, by decide +kernel⟩
theorem ok_cut_for {P : Program} {w : World} {K : PySem.W.Frag} {mg : Str → Option Value} {base : Heap} {f : Addr} {fd : FuncData} (m : mg "cut_for" = some (.ref f)) (F : FunD K "cut_for" "cut_for" (defArgs EW.s_cut_for) (defBody EW.s_cut_for) (defScope EW.s_cut_for) [] [] f fd) (c_thirds_of : Fn P w K mg base "thirds_of" ["cutting", "cut"] 3 M_thirds_of) :
    Fn P w K mg base "cut_for" ["cutting", "cut"] 4 M_cut_for :=
  Fn.make m F (F.bindsN fun _ _ _ _ _ _ us hl => match us, hl with | [_, _], _ => rfl) sc_cut_for rfl rfl fun cdv A outer s H E hr => show RSs _ _ T_cut_for from
  (rs_cons (rs_unp (r_ofC (r_fn c_thirds_of (hr.mono (by omega)) (by rfl) (r_acons (r_toC (r_var 0 (pv 0))) (r_acons (r_toC (r_var 1 (pv 1))) r_anil)))) (rg_tup rfl (rgs_cons (pg_name sc_cut_for.nd rfl (Or.inl rfl)) (rgs_cons (pg_name sc_cut_for.nd rfl (Or.inl rfl)) rgs_nil)) rfl rfl gs2))
  (rs_one (rs_ret (r_tup (r_acons (r_toC (r_var 2 (pv 2))) (r_acons (r_toC (r_var 3 (pv 3))) r_anil))))))
theorem sc_with_cut : FnScope ["cutting", "cut", "there", "other"] ["cutting", "cut", "there"] (defScope EW.s_with_cut) := ⟨rfl, rfl, rfl, by decide +kernel, rfl, by decide +kernel, by decide +kernel⟩
theorem ok_with_cut {P : Program} {w : World} {K : PySem.W.Frag} {mg : Str → Option Value} {base : Heap} {f : Addr} {fd : FuncData} (m : mg "with_cut" = some (.ref f)) (F : FunD K "with_cut" "with_cut" (defArgs EW.s_with_cut) (defBody EW.s_with_cut) (defScope EW.s_with_cut) [] [] f fd) (n_tuple : mg "tuple" = none) (n_sorted : mg "sorted" = none) :
    Fn P w K mg base "with_cut" ["cutting", "cut", "there"] 1 M_with_cut :=
  Fn.make m F (F.bindsN fun _ _ _ _ _ _ us hl => match us, hl with | [_, _, _], _ => rfl) sc_with_cut rfl rfl fun cdv A outer s H E hr => show RSs _ _ T_with_cut from
  (rs_one (rs_ret (r_tup (r_acons (r_toC (r_ix (r_var 0 (pv 0)) r_int)) (r_acons (r_toC (r_ty1 b_tuple rfl n_tuple (by decide +kernel) (r_b1 b_sortT rfl n_sorted (by decide +kernel) (r_catL (r_toL (r_F (r_lcF (own := [("other", 3)]) rfl sc_with_cut.nd (ri_tup (r_ix (r_var 0 (pv 0)) r_int)) (blkOk_by (by kernel_rfl)) (fun _ _ _ _ _ => (rg_name 3 (pg_name sc_with_cut.nd rfl (Or.inl rfl)))) (fun _ _ _ _ _ => (rts_one (r_cmpVT (c_ne hr.units) (r_V (r_var 3 (pv 3))) (r_V (r_var 1 (pv 1)))))) (fun _ _ _ _ _ => (r_var 3 (pv 3)))))) (r_toL (r_lst (r_acons (r_toC (r_var 2 (pv 2))) r_anil))))))) r_anil)))))
theorem sc_swapped_at : FnScope ["cutting", "cut"] ["cutting", "cut"] (defScope EW.s_swapped_at) := ⟨rfl, rfl, rfl, by decide +kernel, rfl, by decide +kernel, by decide +kernel⟩
theorem ok_swapped_at {P : Program} {w : World} {K : PySem.W.Frag} {mg : Str → Option Value} {base : Heap} {f : Addr} {fd : FuncData} (m : mg "swapped_at" = some (.ref f)) (F : FunD K "swapped_at" "swapped_at" (defArgs EW.s_swapped_at) (defBody EW.s_swapped_at) (defScope EW.s_swapped_at) [] [] f fd) (c_with_cut : Fn P w K mg base "with_cut" ["cutting", "cut", "there"] 1 M_with_cut) (c_cut_for : Fn P w K mg base "cut_for" ["cutting", "cut"] 4 M_cut_for) :
    Fn P w K mg base "swapped_at" ["cutting", "cut"] 5 M_swapped_at :=
  Fn.make m F (F.bindsN fun _ _ _ _ _ _ us hl => match us, hl with | [_, _], _ => rfl) sc_swapped_at rfl rfl fun cdv A outer s H E hr => show RSs _ _ T_swapped_at from
  (rs_one (rs_retC (r_fn c_with_cut (hr.mono (by omega)) (by rfl) (r_acons (r_toC (r_var 0 (pv 0))) (r_acons (r_toC (r_var 1 (pv 1))) (r_acons (r_fn c_cut_for (hr.mono (by omega)) (by rfl) (r_acons (r_toC (r_var 0 (pv 0))) (r_acons (r_toC (r_var 1 (pv 1))) r_anil))) r_anil))))))
theorem sc_exchanged : FnScope ["cutting", "cut"] ["cutting", "cut"] (defScope EW.s_exchanged) := ⟨rfl, rfl, rfl, by decide +kernel, rfl, by decide +kernel, by decide +kernel⟩
theorem ok_exchanged {P : Program} {w : World} {K : PySem.W.Frag} {mg : Str → Option Value} {base : Heap} {f : Addr} {fd : FuncData} (m : mg "exchanged" = some (.ref f)) (F : FunD K "exchanged" "exchanged" (defArgs EW.s_exchanged) (defBody EW.s_exchanged) (defScope EW.s_exchanged) [] [] f fd) (c_need_cutting : Fn P w K mg base "need_cutting" ["value"] 4 M_need_cutting) (c_need_cut : Fn P w K mg base "need_cut" ["cutting", "value"] 3 M_need_cut) (c_swapped_at : Fn P w K mg base "swapped_at" ["cutting", "cut"] 5 M_swapped_at) :
    Fn P w K mg base "exchanged" ["cutting", "cut"] 6 M_exchanged :=
  Fn.make m F (F.bindsN fun _ _ _ _ _ _ us hl => match us, hl with | [_, _], _ => rfl) sc_exchanged rfl rfl fun cdv A outer s H E hr => show RSs _ _ T_exchanged from
  (rs_cons (rs_drop (r_fn c_need_cutting (hr.mono (by omega)) (by rfl) (r_acons (r_toC (r_var 0 (pv 0))) r_anil)))
  (rs_cons (rs_drop (r_fn c_need_cut (hr.mono (by omega)) (by rfl) (r_acons (r_toC (r_var 0 (pv 0))) (r_acons (r_toC (r_var 1 (pv 1))) r_anil))))
  (rs_one (rs_retC (r_fn c_swapped_at (hr.mono (by omega)) (by rfl) (r_acons (r_toC (r_var 0 (pv 0))) (r_acons (r_toC (r_var 1 (pv 1))) r_anil)))))))
theorem sc_tree_size : FnScope ["value", "left", "one", "other"] ["value", "left"] (defScope EW.s_tree_size) := ⟨rfl, rfl, rfl, by decide +kernel, rfl, by decide +kernel, by decide +kernel⟩
theorem ok_tree_size {P : Program} {w : World} {K : PySem.W.Frag} {mg : Str → Option Value} {base : Heap} {f : Addr} {fd : FuncData} (m : mg "tree_size" = some (.ref f)) (F : FunD K "tree_size" "tree_size" (defArgs EW.s_tree_size) (defBody EW.s_tree_size) (defScope EW.s_tree_size) [] [] f fd) (n_isinstance : mg "isinstance" = none) (n_tuple : mg "tuple" = none) (n_len : mg "len" = none) :
    Fn P w K mg base "tree_size" ["value", "left"] 8 M_tree_size :=
  Fn.makeR (k := 0) (step := S_tree_size) (tbs := T_tree_size) (fun _ => rfl) m F (F.bindsN fun _ _ _ _ _ _ us hl => match us, hl with | [_, _], _ => rfl) sc_tree_size rfl rfl (fun j G cG cdv A outer s H E hr => show RSs _ _ (T_tree_size G) from
  (rs_cons (rs_if (r_w (w_or (r_notT (r_test (r_isi isTuple_ok rfl n_isinstance rfl n_tuple (by decide +kernel) (r_var 0 (pv 0))))) (w_or (r_cmpVT (c_notIn hr.units) (r_V (r_b1V b_len rfl n_len (by decide +kernel) (r_V (r_var 0 (pv 0))))) (r_V (r_tup (r_acons (r_toC r_int) (r_acons (r_toC r_int) r_anil))))) (w_or1 (r_w (w_and (r_cmpVT (c_ne hr.units) (r_V (r_var 0 (pv 0))) (r_V (r_tup r_anil))) (w_and1 (r_cmpVT (c_eq hr.units) (r_V (r_var 1 (pv 1))) (r_V r_int))))))))) (rs_one (rs_ret r_non))
  rs_nil)
  (rs_cons (rs_if (r_cmpVT (c_eq hr.units) (r_V (r_var 0 (pv 0))) (r_V (r_tup r_anil))) (rs_one (rs_ret r_int))
  rs_nil)
  (rs_cons (rs_setC sc_tree_size.nd rfl (Or.inl rfl) (r_fn cG (hr.mono (by omega)) (by rfl) (r_acons (r_toC (r_ix (r_var 0 (pv 0)) r_int)) (r_acons (r_toC (r_bin o_sub (r_var 1 (pv 1)) r_int)) r_anil))))
  (rs_cons (rs_setC sc_tree_size.nd rfl (Or.inl rfl) (r_toC (r_if (r_cmpVT c_isN (r_V (r_var 2 (pv 2))) (r_V r_non)) r_non (r_ofC (r_fn cG (hr.mono (by omega)) (by rfl) (r_acons (r_toC (r_ix (r_var 0 (pv 0)) r_int)) (r_acons (r_toC (r_bin o_sub (r_bin o_sub (r_var 1 (pv 1)) r_int) (r_var 2 (pv 2)))) r_anil)))))))
  (rs_one (rs_ret (r_if (r_cmpVT c_isN (r_V (r_var 3 (pv 3))) (r_V r_non)) r_non (r_bin o_add (r_bin o_add (r_var 2 (pv 2)) (r_var 3 (pv 3))) r_int))))))))) 8
theorem sc_fits_tree : FnScope ["value"] ["value"] (defScope EW.s_fits_tree) := ⟨rfl, rfl, rfl, by decide +kernel, rfl, by decide +kernel, by decide +kernel⟩
theorem ok_fits_tree {P : Program} {w : World} {K : PySem.W.Frag} {mg : Str → Option Value} {base : Heap} {f : Addr} {fd : FuncData} (m : mg "fits_tree" = some (.ref f)) (F : FunD K "fits_tree" "fits_tree" (defArgs EW.s_fits_tree) (defBody EW.s_fits_tree) (defScope EW.s_fits_tree) [] [] f fd) (c_tree_size : Fn P w K mg base "tree_size" ["value", "left"] 8 M_tree_size) (i_MOST_FORKS : ∃ t, mg "MOST_FORKS" = some (.int 24 t)) :
    Fn P w K mg base "fits_tree" ["value"] 9 M_fits_tree :=
  Fn.make m F (F.bindsN fun _ _ _ _ _ _ us hl => match us, hl with | [_], _ => rfl) sc_fits_tree rfl rfl fun cdv A outer s H E hr => show RSs _ _ T_fits_tree from
  (rs_one (rs_ret (r_cmpV c_notN (r_V (r_ofC (r_fn c_tree_size (hr.mono (by omega)) (by rfl) (r_acons (r_toC (r_var 0 (pv 0))) (r_acons (r_toC (r_globE rfl i_MOST_FORKS)) r_anil))))) (r_V r_non))))
theorem sc_fork_count : FnScope ["tree"] ["tree"] (defScope EW.s_fork_count) := ⟨rfl, rfl, rfl, by decide +kernel, rfl, by decide +kernel, by decide +kernel⟩
theorem ok_fork_count {P : Program} {w : World} {K : PySem.W.Frag} {mg : Str → Option Value} {base : Heap} {f : Addr} {fd : FuncData} (m : mg "fork_count" = some (.ref f)) (F : FunD K "fork_count" "fork_count" (defArgs EW.s_fork_count) (defBody EW.s_fork_count) (defScope EW.s_fork_count) [] [] f fd) :
    Fn P w K mg base "fork_count" ["tree"] 8 M_fork_count :=
  Fn.makeR (k := 0) (step := S_fork_count) (tbs := T_fork_count) (fun _ => rfl) m F (F.bindsN fun _ _ _ _ _ _ us hl => match us, hl with | [_], _ => rfl) sc_fork_count rfl rfl (fun j G cG cdv A outer s H E hr => show RSs _ _ (T_fork_count G) from
  (rs_one (rs_ret (r_if (r_cmpVT (c_eq hr.units) (r_V (r_var 0 (pv 0))) (r_V (r_tup r_anil))) r_int (r_bin o_add (r_bin o_add (r_ofC (r_fn cG (hr.mono (by omega)) (by rfl) (r_acons (r_toC (r_ix (r_var 0 (pv 0)) r_int)) r_anil))) (r_ofC (r_fn cG (hr.mono (by omega)) (by rfl) (r_acons (r_toC (r_ix (r_var 0 (pv 0)) r_int)) r_anil)))) r_int))))) 8
theorem sc_tree_between : FnScope ["cutting", "first", "last", "third", "corner"] ["cutting", "first", "last"] (defScope EW.s_tree_between) := ⟨rfl, rfl, rfl, by decide +kernel, rfl, by decide +kernel, by decide +kernel⟩
theorem ok_tree_between {P : Program} {w : World} {K : PySem.W.Frag} {mg : Str → Option Value} {base : Heap} {f : Addr} {fd : FuncData} (m : mg "tree_between" = some (.ref f)) (F : FunD K "tree_between" "tree_between" (defArgs EW.s_tree_between) (defBody EW.s_tree_between) (defScope EW.s_tree_between) [] [] f fd) (c_thirds_of : Fn P w K mg base "thirds_of" ["cutting", "cut"] 3 M_thirds_of) :
    Fn P w K mg base "tree_between" ["cutting", "first", "last"] 11 M_tree_between :=
  Fn.makeR (k := 3) (step := S_tree_between) (tbs := T_tree_between) (fun _ => rfl) m F (F.bindsN fun _ _ _ _ _ _ us hl => match us, hl with | [_, _, _], _ => rfl) sc_tree_between rfl rfl (fun j G cG cdv A outer s H E hr => show RSs _ _ (T_tree_between G) from
  (rs_cons (rs_if (r_cmpVT c_lt (r_V (r_bin o_sub (r_var 2 (pv 2)) (r_var 1 (pv 1)))) (r_V r_int)) (rs_one (rs_ret (r_tup r_anil)))
  rs_nil)
  (rs_cons (rs_setC sc_tree_between.nd rfl (Or.inl rfl) (r_toC (r_ix (r_F (r_lcF (own := [("corner", 4)]) rfl sc_tree_between.nd (ri_list (r_ofC (r_fn c_thirds_of (hr.mono (by omega)) (by rfl) (r_acons (r_toC (r_var 0 (pv 0))) (r_acons (r_toC (r_tup (r_acons (r_toC (r_var 1 (pv 1))) (r_acons (r_toC (r_var 2 (pv 2))) r_anil)))) r_anil))))) (blkOk_by (by kernel_rfl)) (fun _ _ _ _ _ => (rg_name 4 (pg_name sc_tree_between.nd rfl (Or.inl rfl)))) (fun _ _ _ _ _ => (rts_one (r_chainT c_lt c_lt (r_V (r_var 1 (pv 1))) (r_V (r_var 4 (pv 4))) (r_V (r_var 2 (pv 2)))))) (fun _ _ _ _ _ => (r_var 4 (pv 4))))) r_int)))
  (rs_one (rs_ret (r_tup (r_acons (r_fn cG (hr.mono (by omega)) (by rfl) (r_acons (r_toC (r_var 0 (pv 0))) (r_acons (r_toC (r_var 1 (pv 1))) (r_acons (r_toC (r_var 3 (pv 3))) r_anil)))) (r_acons (r_fn cG (hr.mono (by omega)) (by rfl) (r_acons (r_toC (r_var 0 (pv 0))) (r_acons (r_toC (r_var 3 (pv 3))) (r_acons (r_toC (r_var 2 (pv 2))) r_anil)))) r_anil)))))))) 8
theorem sc_tree_cuts : FnScope ["tree", "first", "third", "last"] ["tree", "first"] (defScope EW.s_tree_cuts) := ⟨rfl, rfl, rfl, by decide +kernel, rfl, by decide +kernel, by decide +kernel⟩
theorem ok_tree_cuts {P : Program} {w : World} {K : PySem.W.Frag} {mg : Str → Option Value} {base : Heap} {f : Addr} {fd : FuncData} (m : mg "tree_cuts" = some (.ref f)) (F : FunD K "tree_cuts" "tree_cuts" (defArgs EW.s_tree_cuts) (defBody EW.s_tree_cuts) (defScope EW.s_tree_cuts) [] [] f fd) (c_fork_count : Fn P w K mg base "fork_count" ["tree"] 8 M_fork_count) :
    Fn P w K mg base "tree_cuts" ["tree", "first"] 16 M_tree_cuts :=
  Fn.makeR (k := 8) (step := S_tree_cuts) (tbs := T_tree_cuts) (fun _ => rfl) m F (F.bindsN fun _ _ _ _ _ _ us hl => match us, hl with | [_, _], _ => rfl) sc_tree_cuts rfl rfl (fun j G cG cdv A outer s H E hr => show RSs _ _ (T_tree_cuts G) from
  (rs_cons (rs_if (r_cmpVT (c_eq hr.units) (r_V (r_var 0 (pv 0))) (r_V (r_tup r_anil))) (rs_one (rs_ret (r_lst r_anil)))
  rs_nil)
  (rs_cons (rs_setC sc_tree_cuts.nd rfl (Or.inl rfl) (r_toC (r_bin o_add (r_bin o_add (r_var 1 (pv 1)) (r_ofC (r_fn c_fork_count (hr.mono (by omega)) (by rfl) (r_acons (r_toC (r_ix (r_var 0 (pv 0)) r_int)) r_anil)))) r_int)))
  (rs_cons (rs_setC sc_tree_cuts.nd rfl (Or.inl rfl) (r_toC (r_bin o_add (r_bin o_add (r_var 2 (pv 2)) (r_ofC (r_fn c_fork_count (hr.mono (by omega)) (by rfl) (r_acons (r_toC (r_ix (r_var 0 (pv 0)) r_int)) r_anil)))) r_int)))
  (rs_one (rs_ret (r_catL (r_toL (r_catL (r_toL (r_ofC (r_fn cG (hr.mono (by omega)) (by rfl) (r_acons (r_toC (r_ix (r_var 0 (pv 0)) r_int)) (r_acons (r_toC (r_var 1 (pv 1))) r_anil))))) (r_toL (r_ofC (r_fn cG (hr.mono (by omega)) (by rfl) (r_acons (r_toC (r_ix (r_var 0 (pv 0)) r_int)) (r_acons (r_toC (r_var 2 (pv 2))) r_anil))))))) (r_toL (r_lst (r_acons (r_toC (r_tup (r_acons (r_toC (r_var 1 (pv 1))) (r_acons (r_toC (r_var 3 (pv 3))) r_anil)))) r_anil)))))))))) 8
theorem sc_cutting_by : FnScope ["tree", "sides", "cut"] ["tree"] (defScope EW.s_cutting_by) := ⟨rfl, rfl, rfl, by decide +kernel, rfl, by decide +kernel, by decide +kernel⟩
theorem ok_cutting_by {P : Program} {w : World} {K : PySem.W.Frag} {mg : Str → Option Value} {base : Heap} {f : Addr} {fd : FuncData} (m : mg "cutting_by" = some (.ref f)) (F : FunD K "cutting_by" "cutting_by" (defArgs EW.s_cutting_by) (defBody EW.s_cutting_by) (defScope EW.s_cutting_by) [] [] f fd) (c_fork_count : Fn P w K mg base "fork_count" ["tree"] 8 M_fork_count) (c_tree_cuts : Fn P w K mg base "tree_cuts" ["tree", "first"] 16 M_tree_cuts) (n_tuple : mg "tuple" = none) (n_sorted : mg "sorted" = none) :
    Fn P w K mg base "cutting_by" ["tree"] 17 M_cutting_by :=
  Fn.make m F (F.bindsN fun _ _ _ _ _ _ us hl => match us, hl with | [_], _ => rfl) sc_cutting_by rfl rfl fun cdv A outer s H E hr => show RSs _ _ T_cutting_by from
  (rs_cons (rs_setC sc_cutting_by.nd rfl (Or.inr rfl) (r_toC (r_bin o_add (r_ofC (r_fn c_fork_count (hr.mono (by omega)) (by rfl) (r_acons (r_toC (r_var 0 (pv 0))) r_anil))) r_int)))
  (rs_one (rs_ret (r_tup (r_acons (r_toC (r_var 1 (pv 1))) (r_acons (r_toC (r_ty1 b_tuple rfl n_tuple (by decide +kernel) (r_b1 b_sortT rfl n_sorted (by decide +kernel) (r_F (r_lcF (own := [("cut", 2)]) rfl sc_cutting_by.nd (ri_list (r_ofC (r_fn c_tree_cuts (hr.mono (by omega)) (by rfl) (r_acons (r_toC (r_var 0 (pv 0))) (r_acons (r_toC r_int) r_anil))))) (blkOk_by (by kernel_rfl)) (fun _ _ _ _ _ => (rg_name 2 (pg_name sc_cutting_by.nd rfl (Or.inl rfl)))) (fun _ _ _ _ _ => (rts_one (r_cmpVT (c_ne hr.units) (r_V (r_var 2 (pv 2))) (r_V (r_tup (r_acons (r_toC r_int) (r_acons (r_toC (r_bin o_sub (r_var 1 (pv 1)) r_int)) r_anil))))))) (fun _ _ _ _ _ => (r_var 2 (pv 2)))))))) r_anil))))))
theorem sc_reaches_of : FnScope ["tree"] ["tree"] (defScope EW.s_reaches_of) := ⟨rfl, rfl, rfl, by decide +kernel, rfl, by decide +kernel, by decide +kernel⟩
theorem ok_reaches_of {P : Program} {w : World} {K : PySem.W.Frag} {mg : Str → Option Value} {base : Heap} {f : Addr} {fd : FuncData} (m : mg "reaches_of" = some (.ref f)) (F : FunD K "reaches_of" "reaches_of" (defArgs EW.s_reaches_of) (defBody EW.s_reaches_of) (defScope EW.s_reaches_of) [] [] f fd) (c_fork_count : Fn P w K mg base "fork_count" ["tree"] 8 M_fork_count) :
    Fn P w K mg base "reaches_of" ["tree"] 16 M_reaches_of :=
  Fn.makeR (k := 8) (step := S_reaches_of) (tbs := T_reaches_of) (fun _ => rfl) m F (F.bindsN fun _ _ _ _ _ _ us hl => match us, hl with | [_], _ => rfl) sc_reaches_of rfl rfl (fun j G cG cdv A outer s H E hr => show RSs _ _ (T_reaches_of G) from
  (rs_one (rs_ret (r_if (r_cmpVT (c_eq hr.units) (r_V (r_var 0 (pv 0))) (r_V (r_tup r_anil))) (r_tup r_anil) (r_bin o_cat (r_bin o_cat (r_ofC (r_fn cG (hr.mono (by omega)) (by rfl) (r_acons (r_toC (r_ix (r_var 0 (pv 0)) r_int)) r_anil))) (r_tup (r_acons (r_fn c_fork_count (hr.mono (by omega)) (by rfl) (r_acons (r_toC (r_ix (r_var 0 (pv 0)) r_int)) r_anil)) r_anil))) (r_ofC (r_fn cG (hr.mono (by omega)) (by rfl) (r_acons (r_toC (r_ix (r_var 0 (pv 0)) r_int)) r_anil)))))))) 8
theorem sc_need_tree : FnScope ["value"] ["value"] (defScope EW.s_need_tree) := ⟨rfl, rfl, rfl, by decide +kernel, rfl, by decide +kernel, by decide +kernel⟩
theorem ok_need_tree {P : Program} {w : World} {K : PySem.W.Frag} {mg : Str → Option Value} {base : Heap} {f : Addr} {fd : FuncData} (m : mg "need_tree" = some (.ref f)) (F : FunD K "need_tree" "need_tree" (defArgs EW.s_need_tree) (defBody EW.s_need_tree) (defScope EW.s_need_tree) [] [] f fd) (c_fits_tree : Fn P w K mg base "fits_tree" ["value"] 9 M_fits_tree) :
    Fn P w K mg base "need_tree" ["value"] 10 M_need_tree :=
  Fn.make m F (F.bindsN fun _ _ _ _ _ _ us hl => match us, hl with | [_], _ => rfl) sc_need_tree rfl rfl fun cdv A outer s H E hr => show RSs _ _ T_need_tree from
  (rs_one (rs_if (r_notT (r_test (r_ofC (r_fn c_fits_tree (hr.mono (by omega)) (by rfl) (r_acons (r_toC (r_var 0 (pv 0))) r_anil))))) (rs_one rs_never)
  rs_nil))
theorem sc_need_pair : FnScope ["one", "other"] ["one", "other"] (defScope EW.s_need_pair) := ⟨rfl, rfl, rfl, by decide +kernel, rfl, by decide +kernel, by decide +kernel⟩
theorem ok_need_pair {P : Program} {w : World} {K : PySem.W.Frag} {mg : Str → Option Value} {base : Heap} {f : Addr} {fd : FuncData} (m : mg "need_pair" = some (.ref f)) (F : FunD K "need_pair" "need_pair" (defArgs EW.s_need_pair) (defBody EW.s_need_pair) (defScope EW.s_need_pair) [] [] f fd) (c_need_tree : Fn P w K mg base "need_tree" ["value"] 10 M_need_tree) (c_fork_count : Fn P w K mg base "fork_count" ["tree"] 8 M_fork_count) :
    Fn P w K mg base "need_pair" ["one", "other"] 11 M_need_pair :=
  Fn.make m F (F.bindsN fun _ _ _ _ _ _ us hl => match us, hl with | [_, _], _ => rfl) sc_need_pair rfl rfl fun cdv A outer s H E hr => show RSs _ _ T_need_pair from
  (rs_cons (rs_drop (r_fn c_need_tree (hr.mono (by omega)) (by rfl) (r_acons (r_toC (r_var 0 (pv 0))) r_anil)))
  (rs_cons (rs_drop (r_fn c_need_tree (hr.mono (by omega)) (by rfl) (r_acons (r_toC (r_var 1 (pv 1))) r_anil)))
  (rs_one (rs_if (r_cmpVT (c_ne hr.units) (r_V (r_ofC (r_fn c_fork_count (hr.mono (by omega)) (by rfl) (r_acons (r_toC (r_var 0 (pv 0))) r_anil)))) (r_V (r_ofC (r_fn c_fork_count (hr.mono (by omega)) (by rfl) (r_acons (r_toC (r_var 1 (pv 1))) r_anil))))) (rs_one rs_never)
  rs_nil))))
theorem sc_need_fork : FnScope ["some", "value"] ["some", "value"] (defScope EW.s_need_fork) := ⟨rfl, rfl, rfl, by decide +kernel, rfl, by decide +kernel, by decide +kernel⟩
theorem ok_need_fork {P : Program} {w : World} {K : PySem.W.Frag} {mg : Str → Option Value} {base : Heap} {f : Addr} {fd : FuncData} (m : mg "need_fork" = some (.ref f)) (F : FunD K "need_fork" "need_fork" (defArgs EW.s_need_fork) (defBody EW.s_need_fork) (defScope EW.s_need_fork) [] [] f fd) (c_is_whole : Fn P w K mg base "is_whole" ["value", "low", "high"] 1 M_is_whole) (i_MOST_FORKS : ∃ t, mg "MOST_FORKS" = some (.int 24 t)) :
    Fn P w K mg base "need_fork" ["some", "value"] 2 M_need_fork :=
  Fn.make m F (F.bindsN fun _ _ _ _ _ _ us hl => match us, hl with | [_, _], _ => rfl) sc_need_fork rfl rfl fun cdv A outer s H E hr => show RSs _ _ T_need_fork from
  (rs_one (rs_if (r_w (w_or (r_notT (r_test (r_ofC (r_fn c_is_whole (hr.mono (by omega)) (by rfl) (r_acons (r_toC (r_var 1 (pv 1))) (r_acons (r_toC r_int) (r_acons (r_toC (r_globE rfl i_MOST_FORKS)) r_anil))))))) (w_or1 (r_cmpVT (c_notIn hr.units) (r_V (r_var 1 (pv 1))) (r_V (r_var 0 (pv 0))))))) (rs_one rs_never)
  rs_nil))
theorem sc_need_small_cutting : FnScope ["cutting"] ["cutting"] (defScope EW.s_need_small_cutting) := ⟨rfl, rfl, rfl, by decide +kernel, rfl, by decide +kernel, by decide +kernel⟩
theorem ok_need_small_cutting {P : Program} {w : World} {K : PySem.W.Frag} {mg : Str → Option Value} {base : Heap} {f : Addr} {fd : FuncData} (m : mg "need_small_cutting" = some (.ref f)) (F : FunD K "need_small_cutting" "need_small_cutting" (defArgs EW.s_need_small_cutting) (defBody EW.s_need_small_cutting) (defScope EW.s_need_small_cutting) [] [] f fd) (c_need_cutting : Fn P w K mg base "need_cutting" ["value"] 4 M_need_cutting) (c_need_few : Fn P w K mg base "need_few" ["many", "limit"] 1 M_need_few) (i_MOST_FORKS : ∃ t, mg "MOST_FORKS" = some (.int 24 t)) :
    Fn P w K mg base "need_small_cutting" ["cutting"] 5 M_need_small_cutting :=
  Fn.make m F (F.bindsN fun _ _ _ _ _ _ us hl => match us, hl with | [_], _ => rfl) sc_need_small_cutting rfl rfl fun cdv A outer s H E hr => show RSs _ _ T_need_small_cutting from
  (rs_cons (rs_drop (r_fn c_need_cutting (hr.mono (by omega)) (by rfl) (r_acons (r_toC (r_var 0 (pv 0))) r_anil)))
  (rs_one (rs_drop (r_fn c_need_few (hr.mono (by omega)) (by rfl) (r_acons (r_toC (r_ix (r_var 0 (pv 0)) r_int)) (r_acons (r_toC (r_bin o_add (r_globE rfl i_MOST_FORKS) r_int)) r_anil))))))
theorem sc_tree_of : FnScope ["cutting"] ["cutting"] (defScope EW.s_tree_of) := ⟨rfl, rfl, rfl, by decide +kernel, rfl, by decide +kernel, by decide +kernel⟩
theorem ok_tree_of {P : Program} {w : World} {K : PySem.W.Frag} {mg : Str → Option Value} {base : Heap} {f : Addr} {fd : FuncData} (m : mg "tree_of" = some (.ref f)) (F : FunD K "tree_of" "tree_of" (defArgs EW.s_tree_of) (defBody EW.s_tree_of) (defScope EW.s_tree_of) [] [] f fd) (c_need_small_cutting : Fn P w K mg base "need_small_cutting" ["cutting"] 5 M_need_small_cutting) (c_tree_between : Fn P w K mg base "tree_between" ["cutting", "first", "last"] 11 M_tree_between) :
    Fn P w K mg base "tree_of" ["cutting"] 12 M_tree_of :=
  Fn.make m F (F.bindsN fun _ _ _ _ _ _ us hl => match us, hl with | [_], _ => rfl) sc_tree_of rfl rfl fun cdv A outer s H E hr => show RSs _ _ T_tree_of from
  (rs_cons (rs_drop (r_fn c_need_small_cutting (hr.mono (by omega)) (by rfl) (r_acons (r_toC (r_var 0 (pv 0))) r_anil)))
  (rs_one (rs_retC (r_fn c_tree_between (hr.mono (by omega)) (by rfl) (r_acons (r_toC (r_var 0 (pv 0))) (r_acons (r_toC r_int) (r_acons (r_toC (r_bin o_sub (r_ix (r_var 0 (pv 0)) r_int) r_int)) r_anil)))))))
theorem sc_tree_cutting : FnScope ["tree"] ["tree"] (defScope EW.s_tree_cutting) := ⟨rfl, rfl, rfl, by decide +kernel, rfl, by decide +kernel, by decide +kernel⟩
theorem ok_tree_cutting {P : Program} {w : World} {K : PySem.W.Frag} {mg : Str → Option Value} {base : Heap} {f : Addr} {fd : FuncData} (m : mg "tree_cutting" = some (.ref f)) (F : FunD K "tree_cutting" "tree_cutting" (defArgs EW.s_tree_cutting) (defBody EW.s_tree_cutting) (defScope EW.s_tree_cutting) [] [] f fd) (c_need_tree : Fn P w K mg base "need_tree" ["value"] 10 M_need_tree) (c_cutting_by : Fn P w K mg base "cutting_by" ["tree"] 17 M_cutting_by) :
    Fn P w K mg base "tree_cutting" ["tree"] 18 M_tree_cutting :=
  Fn.make m F (F.bindsN fun _ _ _ _ _ _ us hl => match us, hl with | [_], _ => rfl) sc_tree_cutting rfl rfl fun cdv A outer s H E hr => show RSs _ _ T_tree_cutting from
  (rs_cons (rs_drop (r_fn c_need_tree (hr.mono (by omega)) (by rfl) (r_acons (r_toC (r_var 0 (pv 0))) r_anil)))
  (rs_cons (rs_if (r_cmpVT (c_eq hr.units) (r_V (r_var 0 (pv 0))) (r_V (r_tup r_anil))) (rs_one rs_never)
  rs_nil)
  (rs_one (rs_retC (r_fn c_cutting_by (hr.mono (by omega)) (by rfl) (r_acons (r_toC (r_var 0 (pv 0))) r_anil))))))
theorem sc_reaches : FnScope ["tree"] ["tree"] (defScope EW.s_reaches) := ⟨rfl, rfl, rfl, by decide +kernel, rfl, by decide +kernel, by decide +kernel⟩
theorem ok_reaches {P : Program} {w : World} {K : PySem.W.Frag} {mg : Str → Option Value} {base : Heap} {f : Addr} {fd : FuncData} (m : mg "reaches" = some (.ref f)) (F : FunD K "reaches" "reaches" (defArgs EW.s_reaches) (defBody EW.s_reaches) (defScope EW.s_reaches) [] [] f fd) (c_need_tree : Fn P w K mg base "need_tree" ["value"] 10 M_need_tree) (c_reaches_of : Fn P w K mg base "reaches_of" ["tree"] 16 M_reaches_of) :
    Fn P w K mg base "reaches" ["tree"] 17 M_reaches :=
  Fn.make m F (F.bindsN fun _ _ _ _ _ _ us hl => match us, hl with | [_], _ => rfl) sc_reaches rfl rfl fun cdv A outer s H E hr => show RSs _ _ T_reaches from
  (rs_cons (rs_drop (r_fn c_need_tree (hr.mono (by omega)) (by rfl) (r_acons (r_toC (r_var 0 (pv 0))) r_anil)))
  (rs_one (rs_retC (r_fn c_reaches_of (hr.mono (by omega)) (by rfl) (r_acons (r_toC (r_var 0 (pv 0))) r_anil)))))
theorem sc_can_turn : FnScope ["tree", "first", "root", "own"] ["tree", "first"] (defScope EW.s_can_turn) := ⟨rfl, rfl, rfl, by decide +kernel, rfl, by decide +kernel, by decide +kernel⟩
theorem ok_can_turn {P : Program} {w : World} {K : PySem.W.Frag} {mg : Str → Option Value} {base : Heap} {f : Addr} {fd : FuncData} (m : mg "can_turn" = some (.ref f)) (F : FunD K "can_turn" "can_turn" (defArgs EW.s_can_turn) (defBody EW.s_can_turn) (defScope EW.s_can_turn) [] [] f fd) (c_fork_count : Fn P w K mg base "fork_count" ["tree"] 8 M_fork_count) :
    Fn P w K mg base "can_turn" ["tree", "first"] 16 M_can_turn :=
  Fn.makeR (k := 8) (step := S_can_turn) (tbs := T_can_turn) (fun _ => rfl) m F (F.bindsN fun _ _ _ _ _ _ us hl => match us, hl with | [_, _], _ => rfl) sc_can_turn rfl rfl (fun j G cG cdv A outer s H E hr => show RSs _ _ (T_can_turn G) from
  (rs_cons (rs_if (r_cmpVT (c_eq hr.units) (r_V (r_var 0 (pv 0))) (r_V (r_tup r_anil))) (rs_one (rs_ret (r_lst r_anil)))
  rs_nil)
  (rs_cons (rs_setC sc_can_turn.nd rfl (Or.inl rfl) (r_toC (r_bin o_add (r_var 1 (pv 1)) (r_ofC (r_fn c_fork_count (hr.mono (by omega)) (by rfl) (r_acons (r_toC (r_ix (r_var 0 (pv 0)) r_int)) r_anil))))))
  (rs_cons (rs_setC sc_can_turn.nd rfl (Or.inl rfl) (r_toC (r_if (r_cmpVT (c_ne hr.units) (r_V (r_ix (r_var 0 (pv 0)) r_int)) (r_V (r_tup r_anil))) (r_lst (r_acons (r_toC (r_var 2 (pv 2))) r_anil)) (r_lst r_anil))))
  (rs_one (rs_ret (r_catL (r_toL (r_catL (r_toL (r_ofC (r_fn cG (hr.mono (by omega)) (by rfl) (r_acons (r_toC (r_ix (r_var 0 (pv 0)) r_int)) (r_acons (r_toC (r_var 1 (pv 1))) r_anil))))) (r_varL 3 (pv 3)))) (r_toL (r_ofC (r_fn cG (hr.mono (by omega)) (by rfl) (r_acons (r_toC (r_ix (r_var 0 (pv 0)) r_int)) (r_acons (r_toC (r_bin o_add (r_var 2 (pv 2)) r_int)) r_anil)))))))))))) 8
theorem sc_turned_once : FnScope ["tree", "fork", "root"] ["tree", "fork"] (defScope EW.s_turned_once) := ⟨rfl, rfl, rfl, by decide +kernel, rfl, by decide +kernel, by decide +kernel⟩
theorem ok_turned_once {P : Program} {w : World} {K : PySem.W.Frag} {mg : Str → Option Value} {base : Heap} {f : Addr} {fd : FuncData} (m : mg "turned_once" = some (.ref f)) (F : FunD K "turned_once" "turned_once" (defArgs EW.s_turned_once) (defBody EW.s_turned_once) (defScope EW.s_turned_once) [] [] f fd) (c_fork_count : Fn P w K mg base "fork_count" ["tree"] 8 M_fork_count) :
    Fn P w K mg base "turned_once" ["tree", "fork"] 16 M_turned_once :=
  Fn.makeR (k := 8) (step := S_turned_once) (tbs := T_turned_once) (fun _ => rfl) m F (F.bindsN fun _ _ _ _ _ _ us hl => match us, hl with | [_, _], _ => rfl) sc_turned_once rfl rfl (fun j G cG cdv A outer s H E hr => show RSs _ _ (T_turned_once G) from
  (rs_cons (rs_setC sc_turned_once.nd rfl (Or.inl rfl) (r_fn c_fork_count (hr.mono (by omega)) (by rfl) (r_acons (r_toC (r_ix (r_var 0 (pv 0)) r_int)) r_anil)))
  (rs_cons (rs_if (r_cmpVT c_lt (r_V (r_var 1 (pv 1))) (r_V (r_var 2 (pv 2)))) (rs_one (rs_ret (r_tup (r_acons (r_fn cG (hr.mono (by omega)) (by rfl) (r_acons (r_toC (r_ix (r_var 0 (pv 0)) r_int)) (r_acons (r_toC (r_var 1 (pv 1))) r_anil))) (r_acons (r_toC (r_ix (r_var 0 (pv 0)) r_int)) r_anil)))))
  rs_nil)
  (rs_cons (rs_if (r_cmpVT c_gt (r_V (r_var 1 (pv 1))) (r_V (r_var 2 (pv 2)))) (rs_one (rs_ret (r_tup (r_acons (r_toC (r_ix (r_var 0 (pv 0)) r_int)) (r_acons (r_fn cG (hr.mono (by omega)) (by rfl) (r_acons (r_toC (r_ix (r_var 0 (pv 0)) r_int)) (r_acons (r_toC (r_bin o_sub (r_bin o_sub (r_var 1 (pv 1)) (r_var 2 (pv 2))) r_int)) r_anil))) r_anil)))))
  rs_nil)
  (rs_one (rs_ret (r_tup (r_acons (r_toC (r_ix (r_ix (r_var 0 (pv 0)) r_int) r_int)) (r_acons (r_toC (r_tup (r_acons (r_toC (r_ix (r_ix (r_var 0 (pv 0)) r_int) r_int)) (r_acons (r_toC (r_ix (r_var 0 (pv 0)) r_int)) r_anil)))) r_anil))))))))) 8
theorem sc_lies_below : FnScope ["one", "other", "mine", "yours"] ["one", "other"] (defScope EW.s_lies_below) := ⟨rfl, rfl, rfl, by decide +kernel, rfl, by decide +kernel, by decide +kernel⟩
theorem ok_lies_below {P : Program} {w : World} {K : PySem.W.Frag} {mg : Str → Option Value} {base : Heap} {f : Addr} {fd : FuncData} (m : mg "lies_below" = some (.ref f)) (F : FunD K "lies_below" "lies_below" (defArgs EW.s_lies_below) (defBody EW.s_lies_below) (defScope EW.s_lies_below) [] [] f fd) (c_reaches_of : Fn P w K mg base "reaches_of" ["tree"] 16 M_reaches_of) (n_all : mg "all" = none) (n_zip : mg "zip" = none) :
    Fn P w K mg base "lies_below" ["one", "other"] 17 M_lies_below :=
  Fn.make m F (F.bindsN fun _ _ _ _ _ _ us hl => match us, hl with | [_, _], _ => rfl) sc_lies_below rfl rfl fun cdv A outer s H E hr => show RSs _ _ T_lies_below from
  (rs_one (rs_ret (r_b1V (b_all rfl) rfl n_all (by decide +kernel) (r_V (r_F (r_lcF (own := [("mine", 2), ("yours", 3)]) rfl sc_lies_below.nd (ri_zip rfl n_zip (r_ofC (r_fn c_reaches_of (hr.mono (by omega)) (by rfl) (r_acons (r_toC (r_var 0 (pv 0))) r_anil))) (r_ofC (r_fn c_reaches_of (hr.mono (by omega)) (by rfl) (r_acons (r_toC (r_var 1 (pv 1))) r_anil)))) (blkOk_by (by kernel_rfl)) (fun _ _ _ _ _ => (rg_tup rfl (rgs_cons (pg_name sc_lies_below.nd rfl (Or.inl rfl)) (rgs_cons (pg_name sc_lies_below.nd rfl (Or.inl rfl)) rgs_nil)) rfl rfl gs2)) (fun _ _ _ _ _ => rts_nil) (fun _ _ _ _ _ => (r_cmpV c_le (r_V (r_var 2 (pv 2))) (r_V (r_var 3 (pv 3)))))))))))
theorem sc_steps_up : FnScope ["one", "other", "found", "some", "fork"] ["one", "other"] (defScope EW.s_steps_up) := ⟨rfl, rfl, rfl, by decide +kernel, rfl, by decide +kernel, by decide +kernel⟩
theorem ok_steps_up {P : Program} {w : World} {K : PySem.W.Frag} {mg : Str → Option Value} {base : Heap} {f : Addr} {fd : FuncData} (m : mg "steps_up" = some (.ref f)) (F : FunD K "steps_up" "steps_up" (defArgs EW.s_steps_up) (defBody EW.s_steps_up) (defScope EW.s_steps_up) [] [] f fd) (c_can_turn : Fn P w K mg base "can_turn" ["tree", "first"] 16 M_can_turn) (c_lies_below : Fn P w K mg base "lies_below" ["one", "other"] 17 M_lies_below) (c_turned_once : Fn P w K mg base "turned_once" ["tree", "fork"] 16 M_turned_once) :
    Fn P w K mg base "steps_up" ["one", "other"] 18 M_steps_up :=
  Fn.make m F (F.bindsN fun _ _ _ _ _ _ us hl => match us, hl with | [_, _], _ => rfl) sc_steps_up rfl rfl fun cdv A outer s H E hr => show RSs _ _ T_steps_up from
  (rs_cons (rs_setC sc_steps_up.nd rfl (Or.inl rfl) (r_toC (r_tup r_anil)))
  (rs_cons (rs_while PassesOwn.never (r_cmpVT (c_ne hr.units) (r_V (r_var 0 (pv 0))) (r_V (r_var 1 (pv 1))))
  (rs_cons (rs_setLc (ps_lc (own := [("fork", 4)]) rfl sc_steps_up.nd rfl rfl (sw_true rfl rfl rfl (by decide +kernel)) (ri_list (r_ofC (r_fn c_can_turn (hr.mono (by omega)) (by rfl) (r_acons (r_toC (r_var 0 (pv 0))) (r_acons (r_toC r_int) r_anil))))) (blkOk_by (by kernel_rfl)) (fun _ _ _ _ _ => (rg_name 4 (pg_name sc_steps_up.nd rfl (Or.inl rfl)))) (fun _ _ _ _ _ => (rts_one (r_test (r_ofC (r_fn c_lies_below (hr.mono (by omega)) (by rfl) (r_acons (r_fn c_turned_once (hr.mono (by omega)) (by rfl) (r_acons (r_toC (r_var 0 (pv 0))) (r_acons (r_toC (r_var 4 (pv 4))) r_anil))) (r_acons (r_toC (r_var 1 (pv 1))) r_anil))))))) (fun _ _ _ _ _ => (r_var 4 (pv 4)))))
  (rs_one (rs_unp (r_tup (r_acons (r_toC (r_bin o_cat (r_var 2 (pv 2)) (r_tup (r_acons (r_toC (r_ix (r_var 3 (pv 3)) r_int)) r_anil)))) (r_acons (r_fn c_turned_once (hr.mono (by omega)) (by rfl) (r_acons (r_toC (r_var 0 (pv 0))) (r_acons (r_toC (r_ix (r_var 3 (pv 3)) r_int)) r_anil))) r_anil))) (rg_tup rfl (rgs_cons (pg_name sc_steps_up.nd rfl (Or.inl rfl)) (rgs_cons (pg_name sc_steps_up.nd rfl (Or.inr rfl)) rgs_nil)) rfl rfl gs2)))))
  (rs_one (rs_ret (r_var 2 (pv 2))))))
theorem sc_fork_between : FnScope ["one", "other", "some", "fork"] ["one", "other"] (defScope EW.s_fork_between) := ⟨rfl, rfl, rfl, by decide +kernel, rfl, by decide +kernel, by decide +kernel⟩
theorem ok_fork_between {P : Program} {w : World} {K : PySem.W.Frag} {mg : Str → Option Value} {base : Heap} {f : Addr} {fd : FuncData} (m : mg "fork_between" = some (.ref f)) (F : FunD K "fork_between" "fork_between" (defArgs EW.s_fork_between) (defBody EW.s_fork_between) (defScope EW.s_fork_between) [] [] f fd) (c_can_turn : Fn P w K mg base "can_turn" ["tree", "first"] 16 M_can_turn) (c_turned_once : Fn P w K mg base "turned_once" ["tree", "fork"] 16 M_turned_once) :
    Fn P w K mg base "fork_between" ["one", "other"] 17 M_fork_between :=
  Fn.make m F (F.bindsN fun _ _ _ _ _ _ us hl => match us, hl with | [_, _], _ => rfl) sc_fork_between rfl rfl fun cdv A outer s H E hr => show RSs _ _ T_fork_between from
  (rs_cons (rs_setLc (ps_lc (own := [("fork", 3)]) rfl sc_fork_between.nd rfl rfl (sw_true rfl rfl rfl (by decide +kernel)) (ri_list (r_ofC (r_fn c_can_turn (hr.mono (by omega)) (by rfl) (r_acons (r_toC (r_var 0 (pv 0))) (r_acons (r_toC r_int) r_anil))))) (blkOk_by (by kernel_rfl)) (fun _ _ _ _ _ => (rg_name 3 (pg_name sc_fork_between.nd rfl (Or.inl rfl)))) (fun _ _ _ _ _ => (rts_one (r_cmpVT (c_eq hr.units) (r_V (r_ofC (r_fn c_turned_once (hr.mono (by omega)) (by rfl) (r_acons (r_toC (r_var 0 (pv 0))) (r_acons (r_toC (r_var 3 (pv 3))) r_anil))))) (r_V (r_var 1 (pv 1)))))) (fun _ _ _ _ _ => (r_var 3 (pv 3)))))
  (rs_one (rs_ret (r_if (r_cmpVT (c_ne hr.units) (r_V (r_var 2 (pv 2))) (r_V (r_lst r_anil))) (r_ix (r_var 2 (pv 2)) r_int) r_non))))
theorem sc_fork_turned : FnScope ["tree", "fork"] ["tree", "fork"] (defScope EW.s_fork_turned) := ⟨rfl, rfl, rfl, by decide +kernel, rfl, by decide +kernel, by decide +kernel⟩
theorem ok_fork_turned {P : Program} {w : World} {K : PySem.W.Frag} {mg : Str → Option Value} {base : Heap} {f : Addr} {fd : FuncData} (m : mg "fork_turned" = some (.ref f)) (F : FunD K "fork_turned" "fork_turned" (defArgs EW.s_fork_turned) (defBody EW.s_fork_turned) (defScope EW.s_fork_turned) [] [] f fd) (c_need_tree : Fn P w K mg base "need_tree" ["value"] 10 M_need_tree) (c_need_fork : Fn P w K mg base "need_fork" ["some", "value"] 2 M_need_fork) (c_can_turn : Fn P w K mg base "can_turn" ["tree", "first"] 16 M_can_turn) (c_turned_once : Fn P w K mg base "turned_once" ["tree", "fork"] 16 M_turned_once) :
    Fn P w K mg base "fork_turned" ["tree", "fork"] 17 M_fork_turned :=
  Fn.make m F (F.bindsN fun _ _ _ _ _ _ us hl => match us, hl with | [_, _], _ => rfl) sc_fork_turned rfl rfl fun cdv A outer s H E hr => show RSs _ _ T_fork_turned from
  (rs_cons (rs_drop (r_fn c_need_tree (hr.mono (by omega)) (by rfl) (r_acons (r_toC (r_var 0 (pv 0))) r_anil)))
  (rs_cons (rs_drop (r_fn c_need_fork (hr.mono (by omega)) (by rfl) (r_acons (r_fn c_can_turn (hr.mono (by omega)) (by rfl) (r_acons (r_toC (r_var 0 (pv 0))) (r_acons (r_toC r_int) r_anil))) (r_acons (r_toC (r_var 1 (pv 1))) r_anil))))
  (rs_one (rs_retC (r_fn c_turned_once (hr.mono (by omega)) (by rfl) (r_acons (r_toC (r_var 0 (pv 0))) (r_acons (r_toC (r_var 1 (pv 1))) r_anil)))))))
theorem sc_is_below : FnScope ["one", "other"] ["one", "other"] (defScope EW.s_is_below) := ⟨rfl, rfl, rfl, by decide +kernel, rfl, by decide +kernel, by decide +kernel⟩
theorem ok_is_below {P : Program} {w : World} {K : PySem.W.Frag} {mg : Str → Option Value} {base : Heap} {f : Addr} {fd : FuncData} (m : mg "is_below" = some (.ref f)) (F : FunD K "is_below" "is_below" (defArgs EW.s_is_below) (defBody EW.s_is_below) (defScope EW.s_is_below) [] [] f fd) (c_need_pair : Fn P w K mg base "need_pair" ["one", "other"] 11 M_need_pair) (c_lies_below : Fn P w K mg base "lies_below" ["one", "other"] 17 M_lies_below) :
    Fn P w K mg base "is_below" ["one", "other"] 18 M_is_below :=
  Fn.make m F (F.bindsN fun _ _ _ _ _ _ us hl => match us, hl with | [_, _], _ => rfl) sc_is_below rfl rfl fun cdv A outer s H E hr => show RSs _ _ T_is_below from
  (rs_cons (rs_drop (r_fn c_need_pair (hr.mono (by omega)) (by rfl) (r_acons (r_toC (r_var 0 (pv 0))) (r_acons (r_toC (r_var 1 (pv 1))) r_anil))))
  (rs_one (rs_retC (r_fn c_lies_below (hr.mono (by omega)) (by rfl) (r_acons (r_toC (r_var 0 (pv 0))) (r_acons (r_toC (r_var 1 (pv 1))) r_anil))))))
theorem sc_way_up : FnScope ["one", "other"] ["one", "other"] (defScope EW.s_way_up) := ⟨rfl, rfl, rfl, by decide +kernel, rfl, by decide +kernel, by decide +kernel⟩
theorem ok_way_up {P : Program} {w : World} {K : PySem.W.Frag} {mg : Str → Option Value} {base : Heap} {f : Addr} {fd : FuncData} (m : mg "way_up" = some (.ref f)) (F : FunD K "way_up" "way_up" (defArgs EW.s_way_up) (defBody EW.s_way_up) (defScope EW.s_way_up) [] [] f fd) (c_need_pair : Fn P w K mg base "need_pair" ["one", "other"] 11 M_need_pair) (c_lies_below : Fn P w K mg base "lies_below" ["one", "other"] 17 M_lies_below) (c_steps_up : Fn P w K mg base "steps_up" ["one", "other"] 18 M_steps_up) :
    Fn P w K mg base "way_up" ["one", "other"] 19 M_way_up :=
  Fn.make m F (F.bindsN fun _ _ _ _ _ _ us hl => match us, hl with | [_, _], _ => rfl) sc_way_up rfl rfl fun cdv A outer s H E hr => show RSs _ _ T_way_up from
  (rs_cons (rs_drop (r_fn c_need_pair (hr.mono (by omega)) (by rfl) (r_acons (r_toC (r_var 0 (pv 0))) (r_acons (r_toC (r_var 1 (pv 1))) r_anil))))
  (rs_one (rs_ret (r_if (r_test (r_ofC (r_fn c_lies_below (hr.mono (by omega)) (by rfl) (r_acons (r_toC (r_var 0 (pv 0))) (r_acons (r_toC (r_var 1 (pv 1))) r_anil))))) (r_ofC (r_fn c_steps_up (hr.mono (by omega)) (by rfl) (r_acons (r_toC (r_var 0 (pv 0))) (r_acons (r_toC (r_var 1 (pv 1))) r_anil)))) r_non))))
theorem sc_turned_fork : FnScope ["cutting", "cut", "later", "mine", "yours", "up"] ["cutting", "cut"] (defScope EW.s_turned_fork) := ⟨rfl, rfl, rfl, by decide +kernel, rfl, by decide +kernel, by decide +kernel⟩
theorem ok_turned_fork {P : Program} {w : World} {K : PySem.W.Frag} {mg : Str → Option Value} {base : Heap} {f : Addr} {fd : FuncData} (m : mg "turned_fork" = some (.ref f)) (F : FunD K "turned_fork" "turned_fork" (defArgs EW.s_turned_fork) (defBody EW.s_turned_fork) (defScope EW.s_turned_fork) [] [] f fd) (c_need_cutting : Fn P w K mg base "need_cutting" ["value"] 4 M_need_cutting) (c_need_cut : Fn P w K mg base "need_cut" ["cutting", "value"] 3 M_need_cut) (c_need_few : Fn P w K mg base "need_few" ["many", "limit"] 1 M_need_few) (c_swapped_at : Fn P w K mg base "swapped_at" ["cutting", "cut"] 5 M_swapped_at) (c_tree_between : Fn P w K mg base "tree_between" ["cutting", "first", "last"] 11 M_tree_between) (c_cut_for : Fn P w K mg base "cut_for" ["cutting", "cut"] 4 M_cut_for) (c_fork_between : Fn P w K mg base "fork_between" ["one", "other"] 17 M_fork_between) (i_MOST_FORKS : ∃ t, mg "MOST_FORKS" = some (.int 24 t)) :
    Fn P w K mg base "turned_fork" ["cutting", "cut"] 18 M_turned_fork :=
  Fn.make m F (F.bindsN fun _ _ _ _ _ _ us hl => match us, hl with | [_, _], _ => rfl) sc_turned_fork rfl rfl fun cdv A outer s H E hr => show RSs _ _ T_turned_fork from
  (rs_cons (rs_drop (r_fn c_need_cutting (hr.mono (by omega)) (by rfl) (r_acons (r_toC (r_var 0 (pv 0))) r_anil)))
  (rs_cons (rs_drop (r_fn c_need_cut (hr.mono (by omega)) (by rfl) (r_acons (r_toC (r_var 0 (pv 0))) (r_acons (r_toC (r_var 1 (pv 1))) r_anil))))
  (rs_cons (rs_drop (r_fn c_need_few (hr.mono (by omega)) (by rfl) (r_acons (r_toC (r_ix (r_var 0 (pv 0)) r_int)) (r_acons (r_toC (r_bin o_add (r_globE rfl i_MOST_FORKS) r_int)) r_anil))))
  (rs_cons (rs_setC sc_turned_fork.nd rfl (Or.inl rfl) (r_fn c_swapped_at (hr.mono (by omega)) (by rfl) (r_acons (r_toC (r_var 0 (pv 0))) (r_acons (r_toC (r_var 1 (pv 1))) r_anil))))
  (rs_cons (rs_par2 rfl sc_turned_fork.nd rfl rfl (by decide) rfl rfl (rf_c (r_fn c_tree_between (hr.mono (by omega)) (by rfl) (r_acons (r_toC (r_var 0 (pv 0))) (r_acons (r_toC r_int) (r_acons (r_toC (r_bin o_sub (r_ix (r_var 0 (pv 0)) r_int) r_int)) r_anil)))) (rf_c (r_fn c_tree_between (hr.mono (by omega)) (by rfl) (r_acons (r_toC (r_var 2 (pv 2))) (r_acons (r_toC r_int) (r_acons (r_toC (r_bin o_sub (r_ix (r_var 0 (pv 0)) r_int) r_int)) r_anil)))) rf_nil)) rfl)
  (rs_cons (rs_setC sc_turned_fork.nd rfl (Or.inl rfl) (r_toC (r_cmpV (c_ltT hr.units) (r_V (r_var 1 (pv 1))) (r_V (r_ofC (r_fn c_cut_for (hr.mono (by omega)) (by rfl) (r_acons (r_toC (r_var 0 (pv 0))) (r_acons (r_toC (r_var 1 (pv 1))) r_anil))))))))
  (rs_one (rs_ret (r_tup (r_acons (r_toC (r_if (r_test (r_var 5 (pv 5))) (r_ofC (r_fn c_fork_between (hr.mono (by omega)) (by rfl) (r_acons (r_toC (r_var 3 (pv 3))) (r_acons (r_toC (r_var 4 (pv 4))) r_anil)))) (r_ofC (r_fn c_fork_between (hr.mono (by omega)) (by rfl) (r_acons (r_toC (r_var 4 (pv 4))) (r_acons (r_toC (r_var 3 (pv 3))) r_anil)))))) (r_acons (r_toC (r_var 5 (pv 5))) r_anil)))))))))))
theorem sc_type_is_whole : FnScope ["value"] ["value"] (defScope EW.s_type_is_whole) := ⟨rfl, rfl, rfl, by decide +kernel, rfl, by decide +kernel, by decide +kernel⟩
theorem ok_type_is_whole {P : Program} {w : World} {K : PySem.W.Frag} {mg : Str → Option Value} {base : Heap} {f : Addr} {fd : FuncData} (m : mg "type_is_whole" = some (.ref f)) (F : FunD K "type_is_whole" "type_is_whole" (defArgs EW.s_type_is_whole) (defBody EW.s_type_is_whole) (defScope EW.s_type_is_whole) [] [] f fd) (n_isinstance : mg "isinstance" = none) (n_int : mg "int" = none) (n_bool : mg "bool" = none) :
    Fn P w K mg base "type_is_whole" ["value"] 1 M_type_is_whole :=
  Fn.make m F (F.bindsN fun _ _ _ _ _ _ us hl => match us, hl with | [_], _ => rfl) sc_type_is_whole rfl rfl fun cdv A outer s H E hr => show RSs _ _ T_type_is_whole from
  (rs_one (rs_ret (r_and (r_isi isInt_ok rfl n_isinstance rfl n_int (by decide +kernel) (r_var 0 (pv 0))) (r_one (r_not (r_isi isBool_ok rfl n_isinstance rfl n_bool (by decide +kernel) (r_var 0 (pv 0))))))))
theorem sc_way_steps : FnScope ["cutting", "way", "come", "cut", "there", "one"] ["cutting", "way"] (defScope EW.s_way_steps) := ⟨rfl, rfl, rfl, by decide +kernel, rfl, by decide +kernel, by decide +kernel⟩
theorem ok_way_steps {P : Program} {w : World} {K : PySem.W.Frag} {mg : Str → Option Value} {base : Heap} {f : Addr} {fd : FuncData} (m : mg "way_steps" = some (.ref f)) (F : FunD K "way_steps" "way_steps" (defArgs EW.s_way_steps) (defBody EW.s_way_steps) (defScope EW.s_way_steps) [] [] f fd) (c_type_is_whole : Fn P w K mg base "type_is_whole" ["value"] 1 M_type_is_whole) (c_cut_for : Fn P w K mg base "cut_for" ["cutting", "cut"] 4 M_cut_for) (c_with_cut : Fn P w K mg base "with_cut" ["cutting", "cut", "there"] 1 M_with_cut) (n_isinstance : mg "isinstance" = none) (n_tuple : mg "tuple" = none) (n_len : mg "len" = none) (n_all : mg "all" = none) (i_MOST_STEPS : ∃ t, mg "MOST_STEPS" = some (.int 80 t)) :
    Fn P w K mg base "way_steps" ["cutting", "way"] 5 M_way_steps :=
  Fn.make m F (F.bindsN fun _ _ _ _ _ _ us hl => match us, hl with | [_, _], _ => rfl) sc_way_steps rfl rfl fun cdv A outer s H E hr => show RSs _ _ T_way_steps from
  (rs_cons (rs_if (r_w (w_or (r_notT (r_test (r_isi isTuple_ok rfl n_isinstance rfl n_tuple (by decide +kernel) (r_var 1 (pv 1))))) (w_or1 (r_cmpVT c_gt (r_V (r_b1V b_len rfl n_len (by decide +kernel) (r_V (r_var 1 (pv 1))))) (r_V (r_globE rfl i_MOST_STEPS)))))) (rs_one (rs_ret r_non))
  rs_nil)
  (rs_cons (rs_setC sc_way_steps.nd rfl (Or.inl rfl) (r_toC (r_tup r_anil)))
  (rs_cons (rs_for PassesOwn.never rfl (ri_tup (r_var 1 (pv 1))) (rg_name 3 (pg_name sc_way_steps.nd rfl (Or.inl rfl)))
  (rs_cons (rs_if (r_w (w_or (r_notT (r_test (r_isi isTuple_ok rfl n_isinstance rfl n_tuple (by decide +kernel) (r_var 3 (pv 3))))) (w_or (r_cmpVT (c_ne hr.units) (r_V (r_b1V b_len rfl n_len (by decide +kernel) (r_V (r_var 3 (pv 3))))) (r_V r_int)) (w_or1 (r_notT (r_test (r_b1V (b_all rfl) rfl n_all (by decide +kernel) (r_V (r_F (r_lcF (own := [("one", 5)]) rfl sc_way_steps.nd (ri_tup (r_var 3 (pv 3))) (blkOk_by (by kernel_rfl)) (fun _ _ _ _ _ => (rg_name 5 (pg_name sc_way_steps.nd rfl (Or.inl rfl)))) (fun _ _ _ _ _ => rts_nil) (fun _ _ _ _ _ => (r_ofC (r_fn c_type_is_whole (hr.mono (by omega)) (by rfl) (r_acons (r_toC (r_var 5 (pv 5))) r_anil)))))))))))))) (rs_one (rs_ret r_non))
  rs_nil)
  (rs_cons (rs_if (r_cmpVT (c_notIn hr.units) (r_V (r_var 3 (pv 3))) (r_V (r_ix (r_var 0 (pv 0)) r_int))) (rs_one (rs_ret r_non))
  rs_nil)
  (rs_cons (rs_setC sc_way_steps.nd rfl (Or.inl rfl) (r_fn c_cut_for (hr.mono (by omega)) (by rfl) (r_acons (r_toC (r_var 0 (pv 0))) (r_acons (r_toC (r_var 3 (pv 3))) r_anil))))
  (rs_one (rs_par2 rfl sc_way_steps.nd rfl rfl (by decide) rfl rfl (rf_c (r_toC (r_bin o_cat (r_var 2 (pv 2)) (r_tup (r_acons (r_toC (r_var 4 (pv 4))) r_anil)))) (rf_c (r_fn c_with_cut (hr.mono (by omega)) (by rfl) (r_acons (r_toC (r_var 0 (pv 0))) (r_acons (r_toC (r_var 3 (pv 3))) (r_acons (r_toC (r_var 4 (pv 4))) r_anil)))) rf_nil)) rfl))))))
  (rs_one (rs_ret (r_tup (r_acons (r_toC (r_var 0 (pv 0))) (r_acons (r_toC (r_var 2 (pv 2))) r_anil))))))))
theorem sc_leads_to : FnScope ["one", "other", "value", "found"] ["one", "other", "value"] (defScope EW.s_leads_to) := ⟨rfl, rfl, rfl, by decide +kernel, rfl, by decide +kernel, by decide +kernel⟩
theorem ok_leads_to {P : Program} {w : World} {K : PySem.W.Frag} {mg : Str → Option Value} {base : Heap} {f : Addr} {fd : FuncData} (m : mg "leads_to" = some (.ref f)) (F : FunD K "leads_to" "leads_to" (defArgs EW.s_leads_to) (defBody EW.s_leads_to) (defScope EW.s_leads_to) [] [] f fd) (c_way_steps : Fn P w K mg base "way_steps" ["cutting", "way"] 5 M_way_steps) :
    Fn P w K mg base "leads_to" ["one", "other", "value"] 6 M_leads_to :=
  Fn.make m F (F.bindsN fun _ _ _ _ _ _ us hl => match us, hl with | [_, _, _], _ => rfl) sc_leads_to rfl rfl fun cdv A outer s H E hr => show RSs _ _ T_leads_to from
  (rs_cons (rs_setC sc_leads_to.nd rfl (Or.inl rfl) (r_fn c_way_steps (hr.mono (by omega)) (by rfl) (r_acons (r_toC (r_var 0 (pv 0))) (r_acons (r_toC (r_var 2 (pv 2))) r_anil))))
  (rs_one (rs_ret (r_and (r_cmpV c_notN (r_V (r_var 3 (pv 3))) (r_V r_non)) (r_one (r_cmpV (c_eq hr.units) (r_V (r_ix (r_var 3 (pv 3)) r_int)) (r_V (r_var 1 (pv 1)))))))))
theorem sc_need_two : FnScope ["one", "other"] ["one", "other"] (defScope EW.s_need_two) := ⟨rfl, rfl, rfl, by decide +kernel, rfl, by decide +kernel, by decide +kernel⟩
theorem ok_need_two {P : Program} {w : World} {K : PySem.W.Frag} {mg : Str → Option Value} {base : Heap} {f : Addr} {fd : FuncData} (m : mg "need_two" = some (.ref f)) (F : FunD K "need_two" "need_two" (defArgs EW.s_need_two) (defBody EW.s_need_two) (defScope EW.s_need_two) [] [] f fd) (c_need_cutting : Fn P w K mg base "need_cutting" ["value"] 4 M_need_cutting) :
    Fn P w K mg base "need_two" ["one", "other"] 5 M_need_two :=
  Fn.make m F (F.bindsN fun _ _ _ _ _ _ us hl => match us, hl with | [_, _], _ => rfl) sc_need_two rfl rfl fun cdv A outer s H E hr => show RSs _ _ T_need_two from
  (rs_cons (rs_drop (r_fn c_need_cutting (hr.mono (by omega)) (by rfl) (r_acons (r_toC (r_var 0 (pv 0))) r_anil)))
  (rs_cons (rs_drop (r_fn c_need_cutting (hr.mono (by omega)) (by rfl) (r_acons (r_toC (r_var 1 (pv 1))) r_anil)))
  (rs_one (rs_if (r_cmpVT (c_ne hr.units) (r_V (r_ix (r_var 0 (pv 0)) r_int)) (r_V (r_ix (r_var 1 (pv 1)) r_int))) (rs_one rs_never)
  rs_nil))))
theorem sc_need_way : FnScope ["cutting", "value"] ["cutting", "value"] (defScope EW.s_need_way) := ⟨rfl, rfl, rfl, by decide +kernel, rfl, by decide +kernel, by decide +kernel⟩
theorem ok_need_way {P : Program} {w : World} {K : PySem.W.Frag} {mg : Str → Option Value} {base : Heap} {f : Addr} {fd : FuncData} (m : mg "need_way" = some (.ref f)) (F : FunD K "need_way" "need_way" (defArgs EW.s_need_way) (defBody EW.s_need_way) (defScope EW.s_need_way) [] [] f fd) (c_way_steps : Fn P w K mg base "way_steps" ["cutting", "way"] 5 M_way_steps) :
    Fn P w K mg base "need_way" ["cutting", "value"] 6 M_need_way :=
  Fn.make m F (F.bindsN fun _ _ _ _ _ _ us hl => match us, hl with | [_, _], _ => rfl) sc_need_way rfl rfl fun cdv A outer s H E hr => show RSs _ _ T_need_way from
  (rs_one (rs_if (r_cmpVT c_isN (r_V (r_ofC (r_fn c_way_steps (hr.mono (by omega)) (by rfl) (r_acons (r_toC (r_var 0 (pv 0))) (r_acons (r_toC (r_var 1 (pv 1))) r_anil))))) (r_V r_non)) (rs_one rs_never)
  rs_nil))
theorem sc_behind_way : FnScope ["cutting", "way"] ["cutting", "way"] (defScope EW.s_behind_way) := ⟨rfl, rfl, rfl, by decide +kernel, rfl, by decide +kernel, by decide +kernel⟩
theorem ok_behind_way {P : Program} {w : World} {K : PySem.W.Frag} {mg : Str → Option Value} {base : Heap} {f : Addr} {fd : FuncData} (m : mg "behind_way" = some (.ref f)) (F : FunD K "behind_way" "behind_way" (defArgs EW.s_behind_way) (defBody EW.s_behind_way) (defScope EW.s_behind_way) [] [] f fd) (c_need_cutting : Fn P w K mg base "need_cutting" ["value"] 4 M_need_cutting) (c_need_way : Fn P w K mg base "need_way" ["cutting", "value"] 6 M_need_way) (c_way_steps : Fn P w K mg base "way_steps" ["cutting", "way"] 5 M_way_steps) :
    Fn P w K mg base "behind_way" ["cutting", "way"] 7 M_behind_way :=
  Fn.make m F (F.bindsN fun _ _ _ _ _ _ us hl => match us, hl with | [_, _], _ => rfl) sc_behind_way rfl rfl fun cdv A outer s H E hr => show RSs _ _ T_behind_way from
  (rs_cons (rs_drop (r_fn c_need_cutting (hr.mono (by omega)) (by rfl) (r_acons (r_toC (r_var 0 (pv 0))) r_anil)))
  (rs_cons (rs_drop (r_fn c_need_way (hr.mono (by omega)) (by rfl) (r_acons (r_toC (r_var 0 (pv 0))) (r_acons (r_toC (r_var 1 (pv 1))) r_anil))))
  (rs_one (rs_ret (r_ix (r_ofC (r_fn c_way_steps (hr.mono (by omega)) (by rfl) (r_acons (r_toC (r_var 0 (pv 0))) (r_acons (r_toC (r_var 1 (pv 1))) r_anil)))) r_int)))))
theorem sc_far_from_fan : FnScope ["cutting", "corner", "cut"] ["cutting", "corner"] (defScope EW.s_far_from_fan) := ⟨rfl, rfl, rfl, by decide +kernel, rfl, by decide +kernel, by decide +kernel⟩
theorem ok_far_from_fan {P : Program} {w : World} {K : PySem.W.Frag} {mg : Str → Option Value} {base : Heap} {f : Addr} {fd : FuncData} (m : mg "far_from_fan" = some (.ref f)) (F : FunD K "far_from_fan" "far_from_fan" (defArgs EW.s_far_from_fan) (defBody EW.s_far_from_fan) (defScope EW.s_far_from_fan) [] [] f fd) (c_need_cutting : Fn P w K mg base "need_cutting" ["value"] 4 M_need_cutting) (c_need_corner : Fn P w K mg base "need_corner" ["cutting", "value"] 2 M_need_corner) (n_len : mg "len" = none) :
    Fn P w K mg base "far_from_fan" ["cutting", "corner"] 5 M_far_from_fan :=
  Fn.make m F (F.bindsN fun _ _ _ _ _ _ us hl => match us, hl with | [_, _], _ => rfl) sc_far_from_fan rfl rfl fun cdv A outer s H E hr => show RSs _ _ T_far_from_fan from
  (rs_cons (rs_drop (r_fn c_need_cutting (hr.mono (by omega)) (by rfl) (r_acons (r_toC (r_var 0 (pv 0))) r_anil)))
  (rs_cons (rs_drop (r_fn c_need_corner (hr.mono (by omega)) (by rfl) (r_acons (r_toC (r_var 0 (pv 0))) (r_acons (r_toC (r_var 1 (pv 1))) r_anil))))
  (rs_one (rs_ret (r_b1V b_len rfl n_len (by decide +kernel) (r_V (r_F (r_lcF (own := [("cut", 2)]) rfl sc_far_from_fan.nd (ri_tup (r_ix (r_var 0 (pv 0)) r_int)) (blkOk_by (by kernel_rfl)) (fun _ _ _ _ _ => (rg_name 2 (pg_name sc_far_from_fan.nd rfl (Or.inl rfl)))) (fun _ _ _ _ _ => (rts_one (r_cmpVT (c_notIn hr.units) (r_V (r_var 1 (pv 1))) (r_V (r_var 2 (pv 2)))))) (fun _ _ _ _ _ => (r_var 2 (pv 2)))))))))))
theorem sc_cuts_of_both : FnScope ["one", "other", "cut"] ["one", "other"] (defScope EW.s_cuts_of_both) := ⟨rfl, rfl, rfl, by decide +kernel, rfl, by decide +kernel, by decide +kernel⟩
theorem ok_cuts_of_both {P : Program} {w : World} {K : PySem.W.Frag} {mg : Str → Option Value} {base : Heap} {f : Addr} {fd : FuncData} (m : mg "cuts_of_both" = some (.ref f)) (F : FunD K "cuts_of_both" "cuts_of_both" (defArgs EW.s_cuts_of_both) (defBody EW.s_cuts_of_both) (defScope EW.s_cuts_of_both) [] [] f fd) :
    Fn P w K mg base "cuts_of_both" ["one", "other"] 1 M_cuts_of_both :=
  Fn.make m F (F.bindsN fun _ _ _ _ _ _ us hl => match us, hl with | [_, _], _ => rfl) sc_cuts_of_both rfl rfl fun cdv A outer s H E hr => show RSs _ _ T_cuts_of_both from
  (rs_one (rs_ret (r_F (r_lcF (own := [("cut", 2)]) rfl sc_cuts_of_both.nd (ri_tup (r_ix (r_var 0 (pv 0)) r_int)) (blkOk_by (by kernel_rfl)) (fun _ _ _ _ _ => (rg_name 2 (pg_name sc_cuts_of_both.nd rfl (Or.inl rfl)))) (fun _ _ _ _ _ => (rts_one (r_cmpVT (c_in hr.units) (r_V (r_var 2 (pv 2))) (r_V (r_ix (r_var 1 (pv 1)) r_int))))) (fun _ _ _ _ _ => (r_var 2 (pv 2)))))))
theorem sc_split_by : FnScope ["field", "cut", "inner", "outer", "corner"] ["field", "cut"] (defScope EW.s_split_by) := ⟨rfl, rfl, rfl, by decide +kernel, rfl, by decide +kernel, by decide +kernel⟩
theorem ok_split_by {P : Program} {w : World} {K : PySem.W.Frag} {mg : Str → Option Value} {base : Heap} {f : Addr} {fd : FuncData} (m : mg "split_by" = some (.ref f)) (F : FunD K "split_by" "split_by" (defArgs EW.s_split_by) (defBody EW.s_split_by) (defScope EW.s_split_by) [] [] f fd) (n_tuple : mg "tuple" = none) (n_len : mg "len" = none) :
    Fn P w K mg base "split_by" ["field", "cut"] 1 M_split_by :=
  Fn.make m F (F.bindsN fun _ _ _ _ _ _ us hl => match us, hl with | [_, _], _ => rfl) sc_split_by rfl rfl fun cdv A outer s H E hr => show RSs _ _ T_split_by from
  (rs_cons (rs_if (r_w (w_or (r_cmpVT (c_notIn hr.units) (r_V (r_ix (r_var 1 (pv 1)) r_int)) (r_V (r_var 0 (pv 0)))) (w_or1 (r_cmpVT (c_notIn hr.units) (r_V (r_ix (r_var 1 (pv 1)) r_int)) (r_V (r_var 0 (pv 0))))))) (rs_one (rs_ret (r_lst (r_acons (r_toC (r_var 0 (pv 0))) r_anil))))
  rs_nil)
  (rs_cons (rs_setC sc_split_by.nd rfl (Or.inl rfl) (r_toC (r_ty1 b_tuple rfl n_tuple (by decide +kernel) (r_F (r_lcF (own := [("corner", 4)]) rfl sc_split_by.nd (ri_tup (r_var 0 (pv 0))) (blkOk_by (by kernel_rfl)) (fun _ _ _ _ _ => (rg_name 4 (pg_name sc_split_by.nd rfl (Or.inl rfl)))) (fun _ _ _ _ _ => (rts_one (r_chainT c_le c_le (r_V (r_ix (r_var 1 (pv 1)) r_int)) (r_V (r_var 4 (pv 4))) (r_V (r_ix (r_var 1 (pv 1)) r_int))))) (fun _ _ _ _ _ => (r_var 4 (pv 4))))))))
  (rs_cons (rs_setC sc_split_by.nd rfl (Or.inl rfl) (r_toC (r_ty1 b_tuple rfl n_tuple (by decide +kernel) (r_F (r_lcF (own := [("corner", 4)]) rfl sc_split_by.nd (ri_tup (r_var 0 (pv 0))) (blkOk_by (by kernel_rfl)) (fun _ _ _ _ _ => (rg_name 4 (pg_name sc_split_by.nd rfl (Or.inl rfl)))) (fun _ _ _ _ _ => (rts_one (r_w (w_or (r_cmpVT c_le (r_V (r_var 4 (pv 4))) (r_V (r_ix (r_var 1 (pv 1)) r_int))) (w_or1 (r_cmpVT c_ge (r_V (r_var 4 (pv 4))) (r_V (r_ix (r_var 1 (pv 1)) r_int)))))))) (fun _ _ _ _ _ => (r_var 4 (pv 4))))))))
  (rs_one (rs_ret (r_if (r_w (w_or (r_cmpVT c_lt (r_V (r_b1V b_len rfl n_len (by decide +kernel) (r_V (r_var 2 (pv 2))))) (r_V r_int)) (w_or1 (r_cmpVT c_lt (r_V (r_b1V b_len rfl n_len (by decide +kernel) (r_V (r_var 3 (pv 3))))) (r_V r_int))))) (r_lst (r_acons (r_toC (r_var 0 (pv 0))) r_anil)) (r_lst (r_acons (r_toC (r_var 2 (pv 2))) (r_acons (r_toC (r_var 3 (pv 3))) r_anil)))))))))
theorem sc_fields_by : FnScope ["sides", "cuts", "found", "cut", "later", "field"] ["sides", "cuts"] (defScope EW.s_fields_by) := ⟨rfl, rfl, rfl, by decide +kernel, rfl, by decide +kernel, by decide +kernel⟩
theorem ok_fields_by {P : Program} {w : World} {K : PySem.W.Frag} {mg : Str → Option Value} {base : Heap} {f : Addr} {fd : FuncData} (m : mg "fields_by" = some (.ref f)) (F : FunD K "fields_by" "fields_by" (defArgs EW.s_fields_by) (defBody EW.s_fields_by) (defScope EW.s_fields_by) [] [] f fd) (c_split_by : Fn P w K mg base "split_by" ["field", "cut"] 1 M_split_by) (n_tuple : mg "tuple" = none) (n_range : mg "range" = none) (n_sorted : mg "sorted" = none) :
    Fn P w K mg base "fields_by" ["sides", "cuts"] 2 M_fields_by :=
  Fn.make m F (F.bindsN fun _ _ _ _ _ _ us hl => match us, hl with | [_, _], _ => rfl) sc_fields_by rfl rfl fun cdv A outer s H E hr => show RSs _ _ T_fields_by from
  (rs_cons (rs_setC sc_fields_by.nd rfl (Or.inl rfl) (r_toC (r_lst (r_acons (r_toC (r_tupRg (p3 := ⟨0, 0, 0, 0⟩) rfl rfl n_tuple rfl n_range (r_var 0 (pv 0)))) r_anil))))
  (rs_cons (rs_for PassesOwn.never rfl (ri_list (r_var 1 (pv 1))) (rg_name 3 (pg_name sc_fields_by.nd rfl (Or.inl rfl)))
  (rs_cons (rs_setC sc_fields_by.nd rfl (Or.inl rfl) (r_toC (r_lst r_anil)))
  (rs_cons (rs_for PassesOwn.never rfl (ri_list (r_var 2 (pv 2))) (rg_name 5 (pg_name sc_fields_by.nd rfl (Or.inl rfl)))
  (rs_one (rs_setC sc_fields_by.nd rfl (Or.inl rfl) (r_toC (r_catL (r_varL 4 (pv 4)) (r_toL (r_ofC (r_fn c_split_by (hr.mono (by omega)) (by rfl) (r_acons (r_toC (r_var 5 (pv 5))) (r_acons (r_toC (r_var 3 (pv 3))) r_anil))))))))))
  (rs_one (rs_setC sc_fields_by.nd rfl (Or.inl rfl) (r_toC (r_var 4 (pv 4))))))))
  (rs_one (rs_ret (r_b1 b_sortT rfl n_sorted (by decide +kernel) (r_var 2 (pv 2)))))))
theorem sc_fields_of : FnScope ["one", "other"] ["one", "other"] (defScope EW.s_fields_of) := ⟨rfl, rfl, rfl, by decide +kernel, rfl, by decide +kernel, by decide +kernel⟩
theorem ok_fields_of {P : Program} {w : World} {K : PySem.W.Frag} {mg : Str → Option Value} {base : Heap} {f : Addr} {fd : FuncData} (m : mg "fields_of" = some (.ref f)) (F : FunD K "fields_of" "fields_of" (defArgs EW.s_fields_of) (defBody EW.s_fields_of) (defScope EW.s_fields_of) [] [] f fd) (c_fields_by : Fn P w K mg base "fields_by" ["sides", "cuts"] 2 M_fields_by) (c_cuts_of_both : Fn P w K mg base "cuts_of_both" ["one", "other"] 1 M_cuts_of_both) :
    Fn P w K mg base "fields_of" ["one", "other"] 3 M_fields_of :=
  Fn.make m F (F.bindsN fun _ _ _ _ _ _ us hl => match us, hl with | [_, _], _ => rfl) sc_fields_of rfl rfl fun cdv A outer s H E hr => show RSs _ _ T_fields_of from
  (rs_one (rs_retC (r_fn c_fields_by (hr.mono (by omega)) (by rfl) (r_acons (r_toC (r_ix (r_var 0 (pv 0)) r_int)) (r_acons (r_fn c_cuts_of_both (hr.mono (by omega)) (by rfl) (r_acons (r_toC (r_var 0 (pv 0))) (r_acons (r_toC (r_var 1 (pv 1))) r_anil))) r_anil)))))
theorem sc_piece_within : FnScope ["cutting", "field", "number", "last", "pairs", "at", "corner", "one", "other", "pair"] ["cutting", "field"] (defScope EW.s_piece_within) := ⟨rfl, rfl, rfl, by decide +kernel, rfl, by decide +kernel, by decide +kernel⟩
theorem ok_piece_within {P : Program} {w : World} {K : PySem.W.Frag} {mg : Str → Option Value} {base : Heap} {f : Addr} {fd : FuncData} (m : mg "piece_within" = some (.ref f)) (F : FunD K "piece_within" "piece_within" (defArgs EW.s_piece_within) (defBody EW.s_piece_within) (defScope EW.s_piece_within) [] [] f fd) (n_enumerate : mg "enumerate" = none) (n_len : mg "len" = none) (n_tuple : mg "tuple" = none) (n_sorted : mg "sorted" = none) :
    Fn P w K mg base "piece_within" ["cutting", "field"] 1 M_piece_within :=
  Fn.make m F (F.bindsN fun _ _ _ _ _ _ us hl => match us, hl with | [_, _], _ => rfl) sc_piece_within rfl rfl fun cdv A outer s H E hr => show RSs _ _ T_piece_within from
  (rs_cons (rs_setC sc_piece_within.nd rfl (Or.inr rfl) (r_dcI (own := [("at", 5), ("corner", 6)]) rfl sc_piece_within.nd (ri_enum rfl n_enumerate (r_var 1 (pv 1))) (blkOk_by (by kernel_rfl)) (fun _ _ _ _ _ => (rg_tup rfl (rgs_cons (pg_name sc_piece_within.nd rfl (Or.inl rfl)) (rgs_cons (pg_name sc_piece_within.nd rfl (Or.inl rfl)) rgs_nil)) rfl rfl gs2)) (fun _ _ _ _ _ => rts_nil) (fun _ _ _ _ _ => (r_var 6 (pv 6))) (fun _ _ _ _ _ => (r_var 5 (pv 5)))))
  (rs_cons (rs_setC sc_piece_within.nd rfl (Or.inr rfl) (r_toC (r_bin o_sub (r_b1V b_len rfl n_len (by decide +kernel) (r_V (r_var 1 (pv 1)))) r_int)))
  (rs_cons (rs_setLc (ps_lc (own := [("one", 7), ("other", 8)]) rfl sc_piece_within.nd rfl rfl (sw_true rfl rfl rfl (by decide +kernel)) (ri_tup (r_ix (r_var 0 (pv 0)) r_int)) (blkOk_by (by kernel_rfl)) (fun _ _ _ _ _ => (rg_tup rfl (rgs_cons (pg_name sc_piece_within.nd rfl (Or.inl rfl)) (rgs_cons (pg_name sc_piece_within.nd rfl (Or.inl rfl)) rgs_nil)) rfl rfl gs2)) (fun _ _ _ _ _ => (rts_one (r_w (w_and (r_inI hr.units (r_var 7 (pv 7)) (r_varC 2 (pv 2))) (w_and1 (r_inI hr.units (r_var 8 (pv 8)) (r_varC 2 (pv 2)))))))) (fun _ _ _ _ _ => (r_tup (r_acons (r_toC (r_iget hr.units (r_varC 2 (pv 2)) (r_var 7 (pv 7)))) (r_acons (r_toC (r_iget hr.units (r_varC 2 (pv 2)) (r_var 8 (pv 8)))) r_anil))))))
  (rs_one (rs_ret (r_tup (r_acons (r_toC (r_b1V b_len rfl n_len (by decide +kernel) (r_V (r_var 1 (pv 1))))) (r_acons (r_toC (r_ty1 b_tuple rfl n_tuple (by decide +kernel) (r_b1 b_sortT rfl n_sorted (by decide +kernel) (r_F (r_lcF (own := [("pair", 9)]) rfl sc_piece_within.nd (ri_list (r_var 4 (pv 4))) (blkOk_by (by kernel_rfl)) (fun _ _ _ _ _ => (rg_name 9 (pg_name sc_piece_within.nd rfl (Or.inl rfl)))) (fun _ _ _ _ _ => (rts_one (r_chainT c_lt c_lt (r_V r_int) (r_V (r_bin o_sub (r_ix (r_var 9 (pv 9)) r_int) (r_ix (r_var 9 (pv 9)) r_int))) (r_V (r_var 3 (pv 3)))))) (fun _ _ _ _ _ => (r_var 9 (pv 9)))))))) r_anil))))))))
theorem sc_nexts_of : FnScope ["cutting", "cut"] ["cutting"] (defScope EW.s_nexts_of) := ⟨rfl, rfl, rfl, by decide +kernel, rfl, by decide +kernel, by decide +kernel⟩
theorem ok_nexts_of {P : Program} {w : World} {K : PySem.W.Frag} {mg : Str → Option Value} {base : Heap} {f : Addr} {fd : FuncData} (m : mg "nexts_of" = some (.ref f)) (F : FunD K "nexts_of" "nexts_of" (defArgs EW.s_nexts_of) (defBody EW.s_nexts_of) (defScope EW.s_nexts_of) [] [] f fd) (c_with_cut : Fn P w K mg base "with_cut" ["cutting", "cut", "there"] 1 M_with_cut) (c_cut_for : Fn P w K mg base "cut_for" ["cutting", "cut"] 4 M_cut_for) :
    Fn P w K mg base "nexts_of" ["cutting"] 5 M_nexts_of :=
  Fn.make m F (F.bindsN fun _ _ _ _ _ _ us hl => match us, hl with | [_], _ => rfl) sc_nexts_of rfl rfl fun cdv A outer s H E hr => show RSs _ _ T_nexts_of from
  (rs_one (rs_ret (r_F (r_lcF (own := [("cut", 1)]) rfl sc_nexts_of.nd (ri_tup (r_ix (r_var 0 (pv 0)) r_int)) (blkOk_by (by kernel_rfl)) (fun _ _ _ _ _ => (rg_name 1 (pg_name sc_nexts_of.nd rfl (Or.inl rfl)))) (fun _ _ _ _ _ => rts_nil) (fun _ _ _ _ _ => (r_tup (r_acons (r_toC (r_var 1 (pv 1))) (r_acons (r_fn c_with_cut (hr.mono (by omega)) (by rfl) (r_acons (r_toC (r_var 0 (pv 0))) (r_acons (r_toC (r_var 1 (pv 1))) (r_acons (r_fn c_cut_for (hr.mono (by omega)) (by rfl) (r_acons (r_toC (r_var 0 (pv 0))) (r_acons (r_toC (r_var 1 (pv 1))) r_anil))) r_anil)))) r_anil))))))))
theorem sc_reach_from : FnScope ["cutting", "goal", "found", "line", "far", "later", "here", "ways", "cut", "there"] ["cutting", "goal"] (defScope EW.s_reach_from) := ⟨rfl, rfl, rfl, by decide +kernel, rfl, by decide +kernel, by decide +kernel⟩
theorem ok_reach_from {P : Program} {w : World} {K : PySem.W.Frag} {mg : Str → Option Value} {base : Heap} {f : Addr} {fd : FuncData} (m : mg "reach_from" = some (.ref f)) (F : FunD K "reach_from" "reach_from" (defArgs EW.s_reach_from) (defBody EW.s_reach_from) (defScope EW.s_reach_from) [] [] f fd) (c_nexts_of : Fn P w K mg base "nexts_of" ["cutting"] 5 M_nexts_of) :
    Fn P w K mg base "reach_from" ["cutting", "goal"] 6 M_reach_from :=
  Fn.make m F (F.bindsN fun _ _ _ _ _ _ us hl => match us, hl with | [_, _], _ => rfl) sc_reach_from rfl rfl fun cdv A outer s H E hr => show RSs _ _ T_reach_from from
  (rs_cons (rs_par3 rfl sc_reach_from.nd rfl rfl rfl (by decide) (by decide) (by decide) rfl rfl rfl (rf_n (r_dict1 hr.units (r_var 0 (pv 0)) (r_tup (r_acons (r_toC r_int) (r_acons (r_toC r_int) r_anil)))) (rf_c (r_toC (r_lst (r_acons (r_toC (r_var 0 (pv 0))) r_anil))) (rf_c (r_toC r_int) rf_nil))) rfl)
  (rs_cons (rs_while PassesOwn.never (r_w (w_and (r_cmpVT (c_ne hr.units) (r_V (r_var 3 (pv 3))) (r_V (r_lst r_anil))) (w_and1 (r_notInN hr.units (r_var 1 (pv 1)) (r_varN 2 (pv 2))))))
  (rs_cons (rs_par2 rfl sc_reach_from.nd rfl rfl (by decide) rfl rfl (rf_c (r_toC (r_bin o_add (r_var 4 (pv 4)) r_int)) (rf_c (r_toC (r_lst r_anil)) rf_nil)) rfl)
  (rs_cons (rs_for PassesOwn.never rfl (ri_list (r_var 3 (pv 3))) (rg_name 6 (pg_name sc_reach_from.nd rfl (Or.inl rfl)))
  (rs_cons (rs_setC sc_reach_from.nd rfl (Or.inl rfl) (r_toC (r_ix (r_dget hr.units (r_varN 2 (pv 2)) (r_var 6 (pv 6))) r_int)))
  (rs_one (rs_for PassesOwn.never rfl (ri_list (r_ofC (r_fn c_nexts_of (hr.mono (by omega)) (by rfl) (r_acons (r_toC (r_var 6 (pv 6))) r_anil)))) (rg_tup rfl (rgs_cons (pg_name sc_reach_from.nd rfl (Or.inl rfl)) (rgs_cons (pg_name sc_reach_from.nd rfl (Or.inl rfl)) rgs_nil)) rfl rfl gs2)
  (rs_one (rs_if (r_notInN hr.units (r_var 9 (pv 9)) (r_varN 2 (pv 2))) (rs_cons (rs_setC sc_reach_from.nd rfl (Or.inl rfl) (r_toC (r_catL (r_varL 5 (pv 5)) (r_toL (r_lst (r_acons (r_toC (r_var 9 (pv 9))) r_anil))))))
  (rs_one (rs_setKey hr.units (pv 2) (r_var 9 (pv 9)) (r_tup (r_acons (r_toC (r_var 4 (pv 4))) (r_acons (r_toC (r_var 7 (pv 7))) r_anil))))))
  (rs_one (rs_if (r_cmpVT (c_eq hr.units) (r_V (r_ix (r_dget hr.units (r_varN 2 (pv 2)) (r_var 9 (pv 9))) r_int)) (r_V (r_var 4 (pv 4)))) (rs_one (rs_setKey hr.units (pv 2) (r_var 9 (pv 9)) (r_tup (r_acons (r_toC (r_var 4 (pv 4))) (r_acons (r_toC (r_bin o_add (r_ix (r_dget hr.units (r_varN 2 (pv 2)) (r_var 9 (pv 9))) r_int) (r_var 7 (pv 7)))) r_anil)))))
  rs_nil))))))))
  (rs_one (rs_setC sc_reach_from.nd rfl (Or.inl rfl) (r_toC (r_var 5 (pv 5))))))))
  (rss_freeze 2 (rs_one (rs_retC (r_varC 2 (pv 2)))))))
theorem sc_back_from : FnScope ["found", "goal", "way", "here", "far", "cut", "there", "pair"] ["found", "goal"] (defScope EW.s_back_from) := ⟨rfl, rfl, rfl, by decide +kernel, rfl, by decide +kernel, by decide +kernel⟩
theorem ok_back_from {P : Program} {w : World} {K : PySem.W.Frag} {mg : Str → Option Value} {base : Heap} {f : Addr} {fd : FuncData} (m : mg "back_from" = some (.ref f)) (F : FunD K "back_from" "back_from" (defArgs EW.s_back_from) (defBody EW.s_back_from) (defScope EW.s_back_from) [] [] f fd) (c_nexts_of : Fn P w K mg base "nexts_of" ["cutting"] 5 M_nexts_of) (c_cut_for : Fn P w K mg base "cut_for" ["cutting", "cut"] 4 M_cut_for) :
    Fn P w K mg base "back_from" ["found", "goal"] 6 M_back_from :=
  Fn.make m F (F.bindsN fun _ _ _ _ _ _ us hl => match us, hl with | [_, _], _ => rfl) sc_back_from rfl rfl fun cdv A outer s H E hr => show RSs _ _ T_back_from from
  (rs_cons (rs_par2 rfl sc_back_from.nd rfl rfl (by decide) rfl rfl (rf_c (r_toC (r_tup r_anil)) (rf_c (r_toC (r_var 1 (pv 1))) rf_nil)) rfl)
  (rs_cons (rs_while PassesOwn.never (r_cmpVT c_gt (r_V (r_ix (r_dget hr.units (r_varN 0 (pv 0)) (r_var 3 (pv 3))) r_int)) (r_V r_int))
  (rs_cons (rs_setC sc_back_from.nd rfl (Or.inr rfl) (r_toC (r_bin o_sub (r_ix (r_dget hr.units (r_varN 0 (pv 0)) (r_var 3 (pv 3))) r_int) r_int)))
  (rs_cons (rs_unp (r_ix (r_F (r_lcF (own := [("pair", 7)]) rfl sc_back_from.nd (ri_list (r_ofC (r_fn c_nexts_of (hr.mono (by omega)) (by rfl) (r_acons (r_toC (r_var 3 (pv 3))) r_anil)))) (blkOk_by (by kernel_rfl)) (fun _ _ _ _ _ => (rg_name 7 (pg_name sc_back_from.nd rfl (Or.inl rfl)))) (fun _ _ _ _ _ => (rts_one (r_w (w_and (r_inN hr.units (r_ix (r_var 7 (pv 7)) r_int) (r_varN 0 (pv 0))) (w_and1 (r_cmpVT (c_eq hr.units) (r_V (r_ix (r_dget hr.units (r_varN 0 (pv 0)) (r_ix (r_var 7 (pv 7)) r_int)) r_int)) (r_V (r_var 4 (pv 4))))))))) (fun _ _ _ _ _ => (r_var 7 (pv 7))))) r_int) (rg_tup rfl (rgs_cons (pg_name sc_back_from.nd rfl (Or.inl rfl)) (rgs_cons (pg_name sc_back_from.nd rfl (Or.inl rfl)) rgs_nil)) rfl rfl gs2))
  (rs_one (rs_par2 rfl sc_back_from.nd rfl rfl (by decide) rfl rfl (rf_c (r_toC (r_bin o_cat (r_tup (r_acons (r_fn c_cut_for (hr.mono (by omega)) (by rfl) (r_acons (r_toC (r_var 3 (pv 3))) (r_acons (r_toC (r_var 5 (pv 5))) r_anil))) r_anil)) (r_var 2 (pv 2)))) (rf_c (r_toC (r_var 6 (pv 6))) rf_nil)) rfl)))))
  (rs_one (rs_ret (r_var 2 (pv 2))))))
theorem sc_pairs_within : FnScope ["one", "other", "some", "field"] ["one", "other"] (defScope EW.s_pairs_within) := ⟨rfl, rfl, rfl, by decide +kernel, rfl, by decide +kernel, by decide +kernel⟩
theorem ok_pairs_within {P : Program} {w : World} {K : PySem.W.Frag} {mg : Str → Option Value} {base : Heap} {f : Addr} {fd : FuncData} (m : mg "pairs_within" = some (.ref f)) (F : FunD K "pairs_within" "pairs_within" (defArgs EW.s_pairs_within) (defBody EW.s_pairs_within) (defScope EW.s_pairs_within) [] [] f fd) (c_fields_of : Fn P w K mg base "fields_of" ["one", "other"] 3 M_fields_of) (c_piece_within : Fn P w K mg base "piece_within" ["cutting", "field"] 1 M_piece_within) (n_len : mg "len" = none) :
    Fn P w K mg base "pairs_within" ["one", "other"] 4 M_pairs_within :=
  Fn.make m F (F.bindsN fun _ _ _ _ _ _ us hl => match us, hl with | [_, _], _ => rfl) sc_pairs_within rfl rfl fun cdv A outer s H E hr => show RSs _ _ T_pairs_within from
  (rs_cons (rs_setLc (ps_lc (own := [("field", 3)]) rfl sc_pairs_within.nd rfl rfl (sw_true rfl rfl rfl (by decide +kernel)) (ri_list (r_ofC (r_fn c_fields_of (hr.mono (by omega)) (by rfl) (r_acons (r_toC (r_var 0 (pv 0))) (r_acons (r_toC (r_var 1 (pv 1))) r_anil))))) (blkOk_by (by kernel_rfl)) (fun _ _ _ _ _ => (rg_name 3 (pg_name sc_pairs_within.nd rfl (Or.inl rfl)))) (fun _ _ _ _ _ => (rts_one (r_cmpVT c_gt (r_V (r_b1V b_len rfl n_len (by decide +kernel) (r_V (r_var 3 (pv 3))))) (r_V r_int)))) (fun _ _ _ _ _ => (r_var 3 (pv 3)))))
  (rs_one (rs_ret (r_F (r_lcF (own := [("field", 3)]) rfl sc_pairs_within.nd (ri_list (r_var 2 (pv 2))) (blkOk_by (by kernel_rfl)) (fun _ _ _ _ _ => (rg_name 3 (pg_name sc_pairs_within.nd rfl (Or.inl rfl)))) (fun _ _ _ _ _ => rts_nil) (fun _ _ _ _ _ => (r_tup (r_acons (r_toC (r_var 3 (pv 3))) (r_acons (r_fn c_piece_within (hr.mono (by omega)) (by rfl) (r_acons (r_toC (r_var 0 (pv 0))) (r_acons (r_toC (r_var 3 (pv 3))) r_anil))) (r_acons (r_fn c_piece_within (hr.mono (by omega)) (by rfl) (r_acons (r_toC (r_var 1 (pv 1))) (r_acons (r_toC (r_var 3 (pv 3))) r_anil))) r_anil))))))))))
theorem sc_bringing : FnScope ["one", "other", "some", "pair"] ["one", "other"] (defScope EW.s_bringing) := ⟨rfl, rfl, rfl, by decide +kernel, rfl, by decide +kernel, by decide +kernel⟩
theorem ok_bringing {P : Program} {w : World} {K : PySem.W.Frag} {mg : Str → Option Value} {base : Heap} {f : Addr} {fd : FuncData} (m : mg "bringing" = some (.ref f)) (F : FunD K "bringing" "bringing" (defArgs EW.s_bringing) (defBody EW.s_bringing) (defScope EW.s_bringing) [] [] f fd) (c_nexts_of : Fn P w K mg base "nexts_of" ["cutting"] 5 M_nexts_of) (c_cut_for : Fn P w K mg base "cut_for" ["cutting", "cut"] 4 M_cut_for) :
    Fn P w K mg base "bringing" ["one", "other"] 6 M_bringing :=
  Fn.make m F (F.bindsN fun _ _ _ _ _ _ us hl => match us, hl with | [_, _], _ => rfl) sc_bringing rfl rfl fun cdv A outer s H E hr => show RSs _ _ T_bringing from
  (rs_cons (rs_setLc (ps_lc (own := [("pair", 3)]) rfl sc_bringing.nd rfl rfl (sw_true rfl rfl rfl (by decide +kernel)) (ri_list (r_ofC (r_fn c_nexts_of (hr.mono (by omega)) (by rfl) (r_acons (r_toC (r_var 0 (pv 0))) r_anil)))) (blkOk_by (by kernel_rfl)) (fun _ _ _ _ _ => (rg_name 3 (pg_name sc_bringing.nd rfl (Or.inl rfl)))) (fun _ _ _ _ _ => (rts_one (r_w (w_and (r_cmpVT (c_notIn hr.units) (r_V (r_ix (r_var 3 (pv 3)) r_int)) (r_V (r_ix (r_var 1 (pv 1)) r_int))) (w_and1 (r_cmpVT (c_in hr.units) (r_V (r_ofC (r_fn c_cut_for (hr.mono (by omega)) (by rfl) (r_acons (r_toC (r_var 0 (pv 0))) (r_acons (r_toC (r_ix (r_var 3 (pv 3)) r_int)) r_anil))))) (r_V (r_ix (r_var 1 (pv 1)) r_int)))))))) (fun _ _ _ _ _ => (r_var 3 (pv 3)))))
  (rs_one (rs_ret (r_if (r_cmpVT (c_ne hr.units) (r_V (r_var 2 (pv 2))) (r_V (r_lst r_anil))) (r_ix (r_var 2 (pv 2)) r_int) r_non))))
theorem sc_way_in : FnScope ["one", "other", "found", "field", "mine", "yours", "first", "some", "a", "b"] ["one", "other"] (defScope EW.s_way_in) := ⟨rfl, rfl, rfl, by decide +kernel, rfl, by decide +kernel, by decide +kernel⟩
theorem ok_way_in {P : Program} {w : World} {K : PySem.W.Frag} {mg : Str → Option Value} {base : Heap} {f : Addr} {fd : FuncData} (m : mg "way_in" = some (.ref f)) (F : FunD K "way_in" "way_in" (defArgs EW.s_way_in) (defBody EW.s_way_in) (defScope EW.s_way_in) [] [] f fd) (c_pairs_within : Fn P w K mg base "pairs_within" ["one", "other"] 4 M_pairs_within) (c_bringing : Fn P w K mg base "bringing" ["one", "other"] 6 M_bringing) (c_back_from : Fn P w K mg base "back_from" ["found", "goal"] 6 M_back_from) (c_reach_from : Fn P w K mg base "reach_from" ["cutting", "goal"] 6 M_reach_from) (n_tuple : mg "tuple" = none) :
    Fn P w K mg base "way_in" ["one", "other"] 14 M_way_in :=
  Fn.makeR (k := 6) (step := S_way_in) (tbs := T_way_in) (fun _ => rfl) m F (F.bindsN fun _ _ _ _ _ _ us hl => match us, hl with | [_, _], _ => rfl) sc_way_in rfl rfl (fun j G cG cdv A outer s H E hr => show RSs _ _ (T_way_in G) from
  (rs_cons (rs_setC sc_way_in.nd rfl (Or.inl rfl) (r_toC (r_tup r_anil)))
  (rs_cons (rs_for PassesOwn.never rfl (ri_list (r_ofC (r_fn c_pairs_within (hr.mono (by omega)) (by rfl) (r_acons (r_toC (r_var 0 (pv 0))) (r_acons (r_toC (r_var 1 (pv 1))) r_anil))))) (rg_tup rfl (rgs_cons (pg_name sc_way_in.nd rfl (Or.inr rfl)) (rgs_cons (pg_name sc_way_in.nd rfl (Or.inl rfl)) (rgs_cons (pg_name sc_way_in.nd rfl (Or.inl rfl)) rgs_nil))) rfl rfl gs3)
  (rs_cons (rs_setC sc_way_in.nd rfl (Or.inl rfl) (r_fn c_bringing (hr.mono (by omega)) (by rfl) (r_acons (r_toC (r_var 4 (pv 4))) (r_acons (r_toC (r_var 5 (pv 5))) r_anil))))
  (rs_cons (rs_if (r_cmpVT c_notN (r_V (r_var 6 (pv 6))) (r_V r_non)) (rs_one (rs_setC sc_way_in.nd rfl (Or.inl rfl) (r_toC (r_bin o_cat (r_tup (r_acons (r_toC (r_ix (r_var 6 (pv 6)) r_int)) r_anil)) (r_ofC (r_fn cG (hr.mono (by omega)) (by rfl) (r_acons (r_toC (r_ix (r_var 6 (pv 6)) r_int)) (r_acons (r_toC (r_var 5 (pv 5))) r_anil))))))))
  (rs_one (rs_setC sc_way_in.nd rfl (Or.inl rfl) (r_fn c_back_from (hr.mono (by omega)) (by rfl) (r_acons (r_fn c_reach_from (hr.mono (by omega)) (by rfl) (r_acons (r_toC (r_var 4 (pv 4))) (r_acons (r_toC (r_var 5 (pv 5))) r_anil))) (r_acons (r_toC (r_var 5 (pv 5))) r_anil))))))
  (rs_one (rs_setC sc_way_in.nd rfl (Or.inl rfl) (r_toC (r_bin o_cat (r_var 2 (pv 2)) (r_ty1 b_tuple rfl n_tuple (by decide +kernel) (r_F (r_lcF (own := [("a", 8), ("b", 9)]) rfl sc_way_in.nd (ri_tup (r_var 7 (pv 7))) (blkOk_by (by kernel_rfl)) (fun _ _ _ _ _ => (rg_tup rfl (rgs_cons (pg_name sc_way_in.nd rfl (Or.inl rfl)) (rgs_cons (pg_name sc_way_in.nd rfl (Or.inl rfl)) rgs_nil)) rfl rfl gs2)) (fun _ _ _ _ _ => rts_nil) (fun _ _ _ _ _ => (r_tup (r_acons (r_toC (r_ix (r_var 3 (pv 3)) (r_var 8 (pv 8)))) (r_acons (r_toC (r_ix (r_var 3 (pv 3)) (r_var 9 (pv 9)))) r_anil))))))))))))))
  (rs_one (rs_ret (r_var 2 (pv 2))))))) 8
theorem sc_need_fields : FnScope ["one", "other", "field"] ["one", "other"] (defScope EW.s_need_fields) := ⟨rfl, rfl, rfl, by decide +kernel, rfl, by decide +kernel, by decide +kernel⟩
theorem ok_need_fields {P : Program} {w : World} {K : PySem.W.Frag} {mg : Str → Option Value} {base : Heap} {f : Addr} {fd : FuncData} (m : mg "need_fields" = some (.ref f)) (F : FunD K "need_fields" "need_fields" (defArgs EW.s_need_fields) (defBody EW.s_need_fields) (defScope EW.s_need_fields) [] [] f fd) (c_need_two : Fn P w K mg base "need_two" ["one", "other"] 5 M_need_two) (c_need_few : Fn P w K mg base "need_few" ["many", "limit"] 1 M_need_few) (c_fields_of : Fn P w K mg base "fields_of" ["one", "other"] 3 M_fields_of) (n_max : mg "max" = none) (n_len : mg "len" = none) (i_MOST_FIELD : ∃ t, mg "MOST_FIELD" = some (.int 8 t)) :
    Fn P w K mg base "need_fields" ["one", "other"] 6 M_need_fields :=
  Fn.make m F (F.bindsN fun _ _ _ _ _ _ us hl => match us, hl with | [_, _], _ => rfl) sc_need_fields rfl rfl fun cdv A outer s H E hr => show RSs _ _ T_need_fields from
  (rs_cons (rs_drop (r_fn c_need_two (hr.mono (by omega)) (by rfl) (r_acons (r_toC (r_var 0 (pv 0))) (r_acons (r_toC (r_var 1 (pv 1))) r_anil))))
  (rs_one (rs_drop (r_fn c_need_few (hr.mono (by omega)) (by rfl) (r_acons (r_toC (r_b1V (b_max rfl) rfl n_max (by decide +kernel) (r_V (r_F (r_lcF (own := [("field", 2)]) rfl sc_need_fields.nd (ri_list (r_ofC (r_fn c_fields_of (hr.mono (by omega)) (by rfl) (r_acons (r_toC (r_var 0 (pv 0))) (r_acons (r_toC (r_var 1 (pv 1))) r_anil))))) (blkOk_by (by kernel_rfl)) (fun _ _ _ _ _ => (rg_name 2 (pg_name sc_need_fields.nd rfl (Or.inl rfl)))) (fun _ _ _ _ _ => rts_nil) (fun _ _ _ _ _ => (r_b1V b_len rfl n_len (by decide +kernel) (r_V (r_var 2 (pv 2)))))))))) (r_acons (r_toC (r_globE rfl i_MOST_FIELD)) r_anil))))))
theorem sc_fewest_exchanges : FnScope ["one", "other"] ["one", "other"] (defScope EW.s_fewest_exchanges) := ⟨rfl, rfl, rfl, by decide +kernel, rfl, by decide +kernel, by decide +kernel⟩
theorem ok_fewest_exchanges {P : Program} {w : World} {K : PySem.W.Frag} {mg : Str → Option Value} {base : Heap} {f : Addr} {fd : FuncData} (m : mg "fewest_exchanges" = some (.ref f)) (F : FunD K "fewest_exchanges" "fewest_exchanges" (defArgs EW.s_fewest_exchanges) (defBody EW.s_fewest_exchanges) (defScope EW.s_fewest_exchanges) [] [] f fd) (c_need_fields : Fn P w K mg base "need_fields" ["one", "other"] 6 M_need_fields) (c_way_in : Fn P w K mg base "way_in" ["one", "other"] 14 M_way_in) (n_len : mg "len" = none) :
    Fn P w K mg base "fewest_exchanges" ["one", "other"] 15 M_fewest_exchanges :=
  Fn.make m F (F.bindsN fun _ _ _ _ _ _ us hl => match us, hl with | [_, _], _ => rfl) sc_fewest_exchanges rfl rfl fun cdv A outer s H E hr => show RSs _ _ T_fewest_exchanges from
  (rs_cons (rs_drop (r_fn c_need_fields (hr.mono (by omega)) (by rfl) (r_acons (r_toC (r_var 0 (pv 0))) (r_acons (r_toC (r_var 1 (pv 1))) r_anil))))
  (rs_one (rs_ret (r_b1V b_len rfl n_len (by decide +kernel) (r_V (r_ofC (r_fn c_way_in (hr.mono (by omega)) (by rfl) (r_acons (r_toC (r_var 0 (pv 0))) (r_acons (r_toC (r_var 1 (pv 1))) r_anil)))))))))
theorem sc_is_least_way : FnScope ["one", "other", "value"] ["one", "other", "value"] (defScope EW.s_is_least_way) := ⟨rfl, rfl, rfl, by decide +kernel, rfl, by decide +kernel, by decide +kernel⟩
theorem ok_is_least_way {P : Program} {w : World} {K : PySem.W.Frag} {mg : Str → Option Value} {base : Heap} {f : Addr} {fd : FuncData} (m : mg "is_least_way" = some (.ref f)) (F : FunD K "is_least_way" "is_least_way" (defArgs EW.s_is_least_way) (defBody EW.s_is_least_way) (defScope EW.s_is_least_way) [] [] f fd) (c_need_fields : Fn P w K mg base "need_fields" ["one", "other"] 6 M_need_fields) (c_leads_to : Fn P w K mg base "leads_to" ["one", "other", "value"] 6 M_leads_to) (c_way_in : Fn P w K mg base "way_in" ["one", "other"] 14 M_way_in) (n_len : mg "len" = none) :
    Fn P w K mg base "is_least_way" ["one", "other", "value"] 15 M_is_least_way :=
  Fn.make m F (F.bindsN fun _ _ _ _ _ _ us hl => match us, hl with | [_, _, _], _ => rfl) sc_is_least_way rfl rfl fun cdv A outer s H E hr => show RSs _ _ T_is_least_way from
  (rs_cons (rs_drop (r_fn c_need_fields (hr.mono (by omega)) (by rfl) (r_acons (r_toC (r_var 0 (pv 0))) (r_acons (r_toC (r_var 1 (pv 1))) r_anil))))
  (rs_one (rs_ret (r_and (r_ofC (r_fn c_leads_to (hr.mono (by omega)) (by rfl) (r_acons (r_toC (r_var 0 (pv 0))) (r_acons (r_toC (r_var 1 (pv 1))) (r_acons (r_toC (r_var 2 (pv 2))) r_anil))))) (r_one (r_cmpV (c_eq hr.units) (r_V (r_b1V b_len rfl n_len (by decide +kernel) (r_V (r_var 2 (pv 2))))) (r_V (r_b1V b_len rfl n_len (by decide +kernel) (r_V (r_ofC (r_fn c_way_in (hr.mono (by omega)) (by rfl) (r_acons (r_toC (r_var 0 (pv 0))) (r_acons (r_toC (r_var 1 (pv 1))) r_anil)))))))))))))
theorem sc_catalan : FnScope ["many", "found", "one"] ["many"] (defScope EW.s_catalan) := ⟨rfl, rfl, rfl, by decide +kernel, rfl, by decide +kernel, by decide +kernel⟩
theorem ok_catalan {P : Program} {w : World} {K : PySem.W.Frag} {mg : Str → Option Value} {base : Heap} {f : Addr} {fd : FuncData} (m : mg "catalan" = some (.ref f)) (F : FunD K "catalan" "catalan" (defArgs EW.s_catalan) (defBody EW.s_catalan) (defScope EW.s_catalan) [] [] f fd) (n_range : mg "range" = none) :
    Fn P w K mg base "catalan" ["many"] 1 M_catalan :=
  Fn.make m F (F.bindsN fun _ _ _ _ _ _ us hl => match us, hl with | [_], _ => rfl) sc_catalan rfl rfl fun cdv A outer s H E hr => show RSs _ _ T_catalan from
  (rs_cons (rs_setC sc_catalan.nd rfl (Or.inl rfl) (r_toC r_int))
  (rs_cons (rs_for PassesOwn.never rfl (ri_range1 rfl n_range (r_var 0 (pv 0))) (rg_name 2 (pg_name sc_catalan.nd rfl (Or.inl rfl)))
  (rs_one (rs_setC sc_catalan.nd rfl (Or.inl rfl) (r_toC (r_bin o_div (r_bin o_mul (r_bin o_mul (r_var 1 (pv 1)) r_int) (r_bin o_add (r_bin o_mul r_int (r_var 2 (pv 2))) r_int)) (r_bin o_add (r_var 2 (pv 2)) r_int))))))
  (rs_one (rs_ret (r_var 1 (pv 1))))))
theorem sc_count_cuttings : FnScope ["sides"] ["sides"] (defScope EW.s_count_cuttings) := ⟨rfl, rfl, rfl, by decide +kernel, rfl, by decide +kernel, by decide +kernel⟩
theorem ok_count_cuttings {P : Program} {w : World} {K : PySem.W.Frag} {mg : Str → Option Value} {base : Heap} {f : Addr} {fd : FuncData} (m : mg "count_cuttings" = some (.ref f)) (F : FunD K "count_cuttings" "count_cuttings" (defArgs EW.s_count_cuttings) (defBody EW.s_count_cuttings) (defScope EW.s_count_cuttings) [] [] f fd) (c_need_sides : Fn P w K mg base "need_sides" ["value", "most"] 2 M_need_sides) (c_catalan : Fn P w K mg base "catalan" ["many"] 1 M_catalan) :
    Fn P w K mg base "count_cuttings" ["sides"] 3 M_count_cuttings :=
  Fn.make m F (F.bindsN fun _ _ _ _ _ _ us hl => match us, hl with | [_], _ => rfl) sc_count_cuttings rfl rfl fun cdv A outer s H E hr => show RSs _ _ T_count_cuttings from
  (rs_cons (rs_drop (r_fn c_need_sides (hr.mono (by omega)) (by rfl) (r_acons (r_toC (r_var 0 (pv 0))) (r_acons (r_toC r_int) r_anil))))
  (rs_one (rs_retC (r_fn c_catalan (hr.mono (by omega)) (by rfl) (r_acons (r_toC (r_bin o_sub (r_var 0 (pv 0)) r_int)) r_anil)))))
theorem sc_fars_of : FnScope ["cutting", "found", "there"] ["cutting"] (defScope EW.s_fars_of) := ⟨rfl, rfl, rfl, by decide +kernel, rfl, by decide +kernel, by decide +kernel⟩
theorem ok_fars_of {P : Program} {w : World} {K : PySem.W.Frag} {mg : Str → Option Value} {base : Heap} {f : Addr} {fd : FuncData} (m : mg "fars_of" = some (.ref f)) (F : FunD K "fars_of" "fars_of" (defArgs EW.s_fars_of) (defBody EW.s_fars_of) (defScope EW.s_fars_of) [] [] f fd) (c_reach_from : Fn P w K mg base "reach_from" ["cutting", "goal"] 6 M_reach_from) :
    Fn P w K mg base "fars_of" ["cutting"] 7 M_fars_of :=
  Fn.make m F (F.bindsN fun _ _ _ _ _ _ us hl => match us, hl with | [_], _ => rfl) sc_fars_of rfl rfl fun cdv A outer s H E hr => show RSs _ _ T_fars_of from
  (rs_cons (rs_setC sc_fars_of.nd rfl (Or.inr rfl) (r_fn c_reach_from (hr.mono (by omega)) (by rfl) (r_acons (r_toC (r_var 0 (pv 0))) (r_acons (r_toC r_non) r_anil))))
  (rs_one (rs_retC (r_dcN (own := [("there", 2)]) hr.units rfl sc_fars_of.nd (ri_keys (r_varC 1 (pv 1))) (blkOk_by (by kernel_rfl)) (fun _ _ _ _ _ => (rg_name 2 (pg_name sc_fars_of.nd rfl (Or.inl rfl)))) (fun _ _ _ _ _ => rts_nil) (fun _ _ _ _ _ => (r_var 2 (pv 2))) (fun _ _ _ _ _ => (r_ix (r_dget hr.units (r_varN 1 (pv 1)) (r_var 2 (pv 2))) r_int))))))
theorem sc_layers : FnScope ["cutting", "row", "far"] ["cutting"] (defScope EW.s_layers) := ⟨rfl, rfl, rfl, by decide +kernel, rfl, by decide +kernel, by decide +kernel⟩
theorem ok_layers {P : Program} {w : World} {K : PySem.W.Frag} {mg : Str → Option Value} {base : Heap} {f : Addr} {fd : FuncData} (m : mg "layers" = some (.ref f)) (F : FunD K "layers" "layers" (defArgs EW.s_layers) (defBody EW.s_layers) (defScope EW.s_layers) [] [] f fd) (c_need_cutting : Fn P w K mg base "need_cutting" ["value"] 4 M_need_cutting) (c_need_few : Fn P w K mg base "need_few" ["many", "limit"] 1 M_need_few) (c_fars_of : Fn P w K mg base "fars_of" ["cutting"] 7 M_fars_of) (n_list : mg "list" = none) (n_tuple : mg "tuple" = none) (n_range : mg "range" = none) (n_max : mg "max" = none) (i_MOST_LAYERS : ∃ t, mg "MOST_LAYERS" = some (.int 8 t)) :
    Fn P w K mg base "layers" ["cutting"] 8 M_layers :=
  Fn.make m F (F.bindsN fun _ _ _ _ _ _ us hl => match us, hl with | [_], _ => rfl) sc_layers rfl rfl fun cdv A outer s H E hr => show RSs _ _ T_layers from
  (rs_cons (rs_drop (r_fn c_need_cutting (hr.mono (by omega)) (by rfl) (r_acons (r_toC (r_var 0 (pv 0))) r_anil)))
  (rs_cons (rs_drop (r_fn c_need_few (hr.mono (by omega)) (by rfl) (r_acons (r_toC (r_ix (r_var 0 (pv 0)) r_int)) (r_acons (r_toC (r_globE rfl i_MOST_LAYERS)) r_anil))))
  (rs_cons (rs_setC sc_layers.nd rfl (Or.inr rfl) (r_toC (r_listV rfl (by rfl) n_list (by decide +kernel) (r_toN (r_fn c_fars_of (hr.mono (by omega)) (by rfl) (r_acons (r_toC (r_var 0 (pv 0))) r_anil))))))
  (rs_one (rs_ret (r_ty1 b_tuple rfl n_tuple (by decide +kernel) (r_F (r_lcF (own := [("far", 2)]) rfl sc_layers.nd (ri_range1 rfl n_range (r_bin o_add (r_b1V (b_max rfl) rfl n_max (by decide +kernel) (r_V (r_var 1 (pv 1)))) r_int)) (blkOk_by (by kernel_rfl)) (fun _ _ _ _ _ => (rg_name 2 (pg_name sc_layers.nd rfl (Or.inl rfl)))) (fun _ _ _ _ _ => rts_nil) (fun _ _ _ _ _ => (r_count (r_var 1 (pv 1)) (r_var 2 (pv 2))))))))))))
theorem sc_depth_sum : FnScope ["tree"] ["tree"] (defScope EW.s_depth_sum) := ⟨rfl, rfl, rfl, by decide +kernel, rfl, by decide +kernel, by decide +kernel⟩
theorem ok_depth_sum {P : Program} {w : World} {K : PySem.W.Frag} {mg : Str → Option Value} {base : Heap} {f : Addr} {fd : FuncData} (m : mg "depth_sum" = some (.ref f)) (F : FunD K "depth_sum" "depth_sum" (defArgs EW.s_depth_sum) (defBody EW.s_depth_sum) (defScope EW.s_depth_sum) [] [] f fd) (c_fork_count : Fn P w K mg base "fork_count" ["tree"] 8 M_fork_count) :
    Fn P w K mg base "depth_sum" ["tree"] 16 M_depth_sum :=
  Fn.makeR (k := 8) (step := S_depth_sum) (tbs := T_depth_sum) (fun _ => rfl) m F (F.bindsN fun _ _ _ _ _ _ us hl => match us, hl with | [_], _ => rfl) sc_depth_sum rfl rfl (fun j G cG cdv A outer s H E hr => show RSs _ _ (T_depth_sum G) from
  (rs_one (rs_ret (r_if (r_cmpVT (c_eq hr.units) (r_V (r_var 0 (pv 0))) (r_V (r_tup r_anil))) r_int (r_bin o_add (r_bin o_add (r_ofC (r_fn cG (hr.mono (by omega)) (by rfl) (r_acons (r_toC (r_ix (r_var 0 (pv 0)) r_int)) r_anil))) (r_ofC (r_fn c_fork_count (hr.mono (by omega)) (by rfl) (r_acons (r_toC (r_ix (r_var 0 (pv 0)) r_int)) r_anil)))) (r_ofC (r_fn cG (hr.mono (by omega)) (by rfl) (r_acons (r_toC (r_ix (r_var 0 (pv 0)) r_int)) r_anil)))))))) 8
theorem sc_passed_by : FnScope ["one", "other", "seen", "line", "later", "tree", "there", "fork"] ["one", "other"] (defScope EW.s_passed_by) := ⟨rfl, rfl, rfl, by decide +kernel, rfl, by decide +kernel, by decide +kernel⟩
theorem ok_passed_by {P : Program} {w : World} {K : PySem.W.Frag} {mg : Str → Option Value} {base : Heap} {f : Addr} {fd : FuncData} (m : mg "passed_by" = some (.ref f)) (F : FunD K "passed_by" "passed_by" (defArgs EW.s_passed_by) (defBody EW.s_passed_by) (defScope EW.s_passed_by) [] [] f fd) (c_can_turn : Fn P w K mg base "can_turn" ["tree", "first"] 16 M_can_turn) (c_turned_once : Fn P w K mg base "turned_once" ["tree", "fork"] 16 M_turned_once) (c_lies_below : Fn P w K mg base "lies_below" ["one", "other"] 17 M_lies_below) (c_depth_sum : Fn P w K mg base "depth_sum" ["tree"] 16 M_depth_sum) (n_sorted : mg "sorted" = none) (n_list : mg "list" = none) (tb : ∀ c, fd.code = .ref c → LamX.TabB base mg c (He.cT K ("passed_by", none)).2) :
    Fn P w K mg base "passed_by" ["one", "other"] 20 M_passed_by :=
  Fn.makeC m F (F.bindsN fun _ _ _ _ _ _ us hl => match us, hl with | [_, _], _ => rfl) sc_passed_by rfl rfl fun c hcd A outer s H E hr => show RSs _ _ T_passed_by from
  (rs_cons (rs_par2 rfl sc_passed_by.nd rfl rfl (by decide) rfl rfl (rf_n (r_dict1 hr.units (r_var 0 (pv 0)) r_bl) (rf_c (r_toC (r_lst (r_acons (r_toC (r_var 0 (pv 0))) r_anil))) rf_nil)) rfl)
  (rs_cons (rs_while PassesOwn.never (r_cmpVT (c_ne hr.units) (r_V (r_var 3 (pv 3))) (r_V (r_lst r_anil)))
  (rs_cons (rs_own sc_passed_by.nd rfl (Or.inl rfl) (r_lstF r_anil))
  (rs_cons (rs_for PassesOwn.never rfl (ri_list (r_var 3 (pv 3))) (rg_name 5 (pg_name sc_passed_by.nd rfl (Or.inr rfl)))
  (rs_one (rs_for PassesOwn.never rfl (ri_list (r_F (r_lcF (own := [("fork", 7)]) rfl sc_passed_by.nd (ri_list (r_ofC (r_fn c_can_turn (hr.mono (by omega)) (by rfl) (r_acons (r_toC (r_var 5 (pv 5))) (r_acons (r_toC r_int) r_anil))))) (blkOk_by (by kernel_rfl)) (fun _ _ _ _ _ => (rg_name 7 (pg_name sc_passed_by.nd rfl (Or.inl rfl)))) (fun _ _ _ _ _ => rts_nil) (fun _ _ _ _ _ => (r_ofC (r_fn c_turned_once (hr.mono (by omega)) (by rfl) (r_acons (r_toC (r_var 5 (pv 5))) (r_acons (r_toC (r_var 7 (pv 7))) r_anil)))))))) (rg_name 6 (pg_name sc_passed_by.nd rfl (Or.inl rfl)))
  (rs_one (rs_if (r_w (w_and (r_notInN hr.units (r_var 6 (pv 6)) (r_varN 2 (pv 2))) (w_and1 (r_test (r_ofC (r_fn c_lies_below (hr.mono (by omega)) (by rfl) (r_acons (r_toC (r_var 6 (pv 6))) (r_acons (r_toC (r_var 1 (pv 1))) r_anil)))))))) (rs_cons (rs_setKey hr.units (pv 2) (r_var 6 (pv 6)) r_bl)
  (rs_one (rs_append (pv 4) (r_var 6 (pv 6)))))
  rs_nil)))))
  (rss_freeze 4 (rs_one (rs_setC sc_passed_by.nd rfl (Or.inl rfl) (r_varC 4 (pv 4))))))))
  (rs_one (rs_ret (r_sortKey rfl (by rfl) n_sorted c_depth_sum (hr.mono (by omega)) (tb c hcd) (fun _ => Iff.rfl) rfl rfl (by exact ⟨⟨rfl, rfl, rfl, by decide +kernel, rfl, by decide +kernel, by decide +kernel⟩, rfl, rfl⟩) (r_listK rfl (by rfl) n_list (by decide +kernel) (r_varN 2 (pv 2))))))))
theorem sc_ranks_between : FnScope ["one", "other", "found", "tree", "most", "least", "ways", "fork", "there", "far", "near", "many"] ["one", "other"] (defScope EW.s_ranks_between) := ⟨rfl, rfl, rfl, by decide +kernel, rfl, by decide +kernel, by decide +kernel⟩
theorem ok_ranks_between {P : Program} {w : World} {K : PySem.W.Frag} {mg : Str → Option Value} {base : Heap} {f : Addr} {fd : FuncData} (m : mg "ranks_between" = some (.ref f)) (F : FunD K "ranks_between" "ranks_between" (defArgs EW.s_ranks_between) (defBody EW.s_ranks_between) (defScope EW.s_ranks_between) [] [] f fd) (c_passed_by : Fn P w K mg base "passed_by" ["one", "other"] 20 M_passed_by) (c_can_turn : Fn P w K mg base "can_turn" ["tree", "first"] 16 M_can_turn) (c_turned_once : Fn P w K mg base "turned_once" ["tree", "fork"] 16 M_turned_once) (c_lies_below : Fn P w K mg base "lies_below" ["one", "other"] 17 M_lies_below) (n_max : mg "max" = none) (n_min : mg "min" = none) :
    Fn P w K mg base "ranks_between" ["one", "other"] 21 M_ranks_between :=
  Fn.make m F (F.bindsN fun _ _ _ _ _ _ us hl => match us, hl with | [_, _], _ => rfl) sc_ranks_between rfl rfl fun cdv A outer s H E hr => show RSs _ _ T_ranks_between from
  (rs_cons (rs_ownN sc_ranks_between.nd rfl (Or.inl rfl) (r_dict1 hr.units (r_var 0 (pv 0)) (r_tup (r_acons (r_toC r_int) (r_acons (r_toC r_int) (r_acons (r_toC r_int) r_anil))))))
  (rs_cons (rs_for PassesOwn.never rfl (ri_list (r_ofC (r_fn c_passed_by (hr.mono (by omega)) (by rfl) (r_acons (r_toC (r_var 0 (pv 0))) (r_acons (r_toC (r_var 1 (pv 1))) r_anil))))) (rg_name 3 (pg_name sc_ranks_between.nd rfl (Or.inl rfl)))
  (rs_cons (rs_unp (r_dget hr.units (r_varN 2 (pv 2)) (r_var 3 (pv 3))) (rg_tup rfl (rgs_cons (pg_name sc_ranks_between.nd rfl (Or.inl rfl)) (rgs_cons (pg_name sc_ranks_between.nd rfl (Or.inl rfl)) (rgs_cons (pg_name sc_ranks_between.nd rfl (Or.inl rfl)) rgs_nil))) rfl rfl gs3))
  (rs_one (rs_for PassesOwn.never rfl (ri_list (r_ofC (r_fn c_can_turn (hr.mono (by omega)) (by rfl) (r_acons (r_toC (r_var 3 (pv 3))) (r_acons (r_toC r_int) r_anil))))) (rg_name 7 (pg_name sc_ranks_between.nd rfl (Or.inl rfl)))
  (rs_cons (rs_setC sc_ranks_between.nd rfl (Or.inl rfl) (r_fn c_turned_once (hr.mono (by omega)) (by rfl) (r_acons (r_toC (r_var 3 (pv 3))) (r_acons (r_toC (r_var 7 (pv 7))) r_anil))))
  (rs_one (rs_if (r_test (r_ofC (r_fn c_lies_below (hr.mono (by omega)) (by rfl) (r_acons (r_toC (r_var 8 (pv 8))) (r_acons (r_toC (r_var 1 (pv 1))) r_anil))))) (rs_cons (rs_unp (r_dget2 hr.units (r_varN 2 (pv 2)) (r_var 8 (pv 8)) (r_tup (r_acons (r_toC r_int) (r_acons (r_toC (r_bin o_add (r_var 5 (pv 5)) r_int)) (r_acons (r_toC r_int) r_anil)))) m2_of) (rg_tup rfl (rgs_cons (pg_name sc_ranks_between.nd rfl (Or.inl rfl)) (rgs_cons (pg_name sc_ranks_between.nd rfl (Or.inl rfl)) (rgs_cons (pg_name sc_ranks_between.nd rfl (Or.inl rfl)) rgs_nil))) rfl rfl gs3))
  (rs_one (rs_setKey hr.units (pv 2) (r_var 8 (pv 8)) (r_tup (r_acons (r_toC (call2 (c_max2 rfl) rfl n_max (by decide +kernel) (r_var 9 (pv 9)) (r_bin o_add (r_var 4 (pv 4)) r_int))) (r_acons (r_toC (call2 (c_min2 rfl) rfl n_min (by decide +kernel) (r_var 10 (pv 10)) (r_bin o_add (r_var 5 (pv 5)) r_int))) (r_acons (r_toC (r_bin o_add (r_var 11 (pv 11)) (r_var 6 (pv 6)))) r_anil)))))))
  rs_nil)))))))
  (rss_freeze 2 (rs_one (rs_retC (r_varC 2 (pv 2)))))))
theorem sc_need_few_forks : FnScope ["one", "other"] ["one", "other"] (defScope EW.s_need_few_forks) := ⟨rfl, rfl, rfl, by decide +kernel, rfl, by decide +kernel, by decide +kernel⟩
theorem ok_need_few_forks {P : Program} {w : World} {K : PySem.W.Frag} {mg : Str → Option Value} {base : Heap} {f : Addr} {fd : FuncData} (m : mg "need_few_forks" = some (.ref f)) (F : FunD K "need_few_forks" "need_few_forks" (defArgs EW.s_need_few_forks) (defBody EW.s_need_few_forks) (defScope EW.s_need_few_forks) [] [] f fd) (c_need_pair : Fn P w K mg base "need_pair" ["one", "other"] 11 M_need_pair) (c_need_few : Fn P w K mg base "need_few" ["many", "limit"] 1 M_need_few) (c_fork_count : Fn P w K mg base "fork_count" ["tree"] 8 M_fork_count) (i_FEW_FORKS : ∃ t, mg "FEW_FORKS" = some (.int 7 t)) :
    Fn P w K mg base "need_few_forks" ["one", "other"] 12 M_need_few_forks :=
  Fn.make m F (F.bindsN fun _ _ _ _ _ _ us hl => match us, hl with | [_, _], _ => rfl) sc_need_few_forks rfl rfl fun cdv A outer s H E hr => show RSs _ _ T_need_few_forks from
  (rs_cons (rs_drop (r_fn c_need_pair (hr.mono (by omega)) (by rfl) (r_acons (r_toC (r_var 0 (pv 0))) (r_acons (r_toC (r_var 1 (pv 1))) r_anil))))
  (rs_one (rs_drop (r_fn c_need_few (hr.mono (by omega)) (by rfl) (r_acons (r_fn c_fork_count (hr.mono (by omega)) (by rfl) (r_acons (r_toC (r_var 0 (pv 0))) r_anil)) (r_acons (r_toC (r_globE rfl i_FEW_FORKS)) r_anil))))))
theorem sc_comb_tree : FnScope ["forks", "is_left", "found", "turn"] ["forks", "is_left"] (defScope EW.s_comb_tree) := ⟨rfl, rfl, rfl, by decide +kernel, rfl, by decide +kernel, by decide +kernel⟩
theorem ok_comb_tree {P : Program} {w : World} {K : PySem.W.Frag} {mg : Str → Option Value} {base : Heap} {f : Addr} {fd : FuncData} (m : mg "comb_tree" = some (.ref f)) (F : FunD K "comb_tree" "comb_tree" (defArgs EW.s_comb_tree) (defBody EW.s_comb_tree) (defScope EW.s_comb_tree) [] [] f fd) (n_range : mg "range" = none) :
    Fn P w K mg base "comb_tree" ["forks", "is_left"] 1 M_comb_tree :=
  Fn.make m F (F.bindsN fun _ _ _ _ _ _ us hl => match us, hl with | [_, _], _ => rfl) sc_comb_tree rfl rfl fun cdv A outer s H E hr => show RSs _ _ T_comb_tree from
  (rs_cons (rs_setC sc_comb_tree.nd rfl (Or.inl rfl) (r_toC (r_tup r_anil)))
  (rs_cons (rs_for PassesOwn.never rfl (ri_range1 rfl n_range (r_var 0 (pv 0))) (rg_name 3 (pg_name sc_comb_tree.nd rfl (Or.inl rfl)))
  (rs_one (rs_setC sc_comb_tree.nd rfl (Or.inl rfl) (r_toC (r_if (r_test (r_var 1 (pv 1))) (r_tup (r_acons (r_toC (r_var 2 (pv 2))) (r_acons (r_toC (r_tup r_anil)) r_anil))) (r_tup (r_acons (r_toC (r_tup r_anil)) (r_acons (r_toC (r_var 2 (pv 2))) r_anil))))))))
  (rs_one (rs_ret (r_var 2 (pv 2))))))
theorem sc_fewest_up : FnScope ["one", "other"] ["one", "other"] (defScope EW.s_fewest_up) := ⟨rfl, rfl, rfl, by decide +kernel, rfl, by decide +kernel, by decide +kernel⟩
theorem ok_fewest_up {P : Program} {w : World} {K : PySem.W.Frag} {mg : Str → Option Value} {base : Heap} {f : Addr} {fd : FuncData} (m : mg "fewest_up" = some (.ref f)) (F : FunD K "fewest_up" "fewest_up" (defArgs EW.s_fewest_up) (defBody EW.s_fewest_up) (defScope EW.s_fewest_up) [] [] f fd) (c_need_few_forks : Fn P w K mg base "need_few_forks" ["one", "other"] 12 M_need_few_forks) (c_lies_below : Fn P w K mg base "lies_below" ["one", "other"] 17 M_lies_below) (c_ranks_between : Fn P w K mg base "ranks_between" ["one", "other"] 21 M_ranks_between) :
    Fn P w K mg base "fewest_up" ["one", "other"] 22 M_fewest_up :=
  Fn.make m F (F.bindsN fun _ _ _ _ _ _ us hl => match us, hl with | [_, _], _ => rfl) sc_fewest_up rfl rfl fun cdv A outer s H E hr => show RSs _ _ T_fewest_up from
  (rs_cons (rs_drop (r_fn c_need_few_forks (hr.mono (by omega)) (by rfl) (r_acons (r_toC (r_var 0 (pv 0))) (r_acons (r_toC (r_var 1 (pv 1))) r_anil))))
  (rs_one (rs_ret (r_if (r_test (r_ofC (r_fn c_lies_below (hr.mono (by omega)) (by rfl) (r_acons (r_toC (r_var 0 (pv 0))) (r_acons (r_toC (r_var 1 (pv 1))) r_anil))))) (r_ix (r_dget hr.units (r_toN (r_fn c_ranks_between (hr.mono (by omega)) (by rfl) (r_acons (r_toC (r_var 0 (pv 0))) (r_acons (r_toC (r_var 1 (pv 1))) r_anil)))) (r_var 1 (pv 1))) r_int) r_non))))
theorem sc_least_tree : FnScope ["forks"] ["forks"] (defScope EW.s_least_tree) := ⟨rfl, rfl, rfl, by decide +kernel, rfl, by decide +kernel, by decide +kernel⟩
theorem ok_least_tree {P : Program} {w : World} {K : PySem.W.Frag} {mg : Str → Option Value} {base : Heap} {f : Addr} {fd : FuncData} (m : mg "least_tree" = some (.ref f)) (F : FunD K "least_tree" "least_tree" (defArgs EW.s_least_tree) (defBody EW.s_least_tree) (defScope EW.s_least_tree) [] [] f fd) (c_need_number : Fn P w K mg base "need_number" ["value", "low", "high"] 2 M_need_number) (c_comb_tree : Fn P w K mg base "comb_tree" ["forks", "is_left"] 1 M_comb_tree) (i_MOST_FORKS : ∃ t, mg "MOST_FORKS" = some (.int 24 t)) :
    Fn P w K mg base "least_tree" ["forks"] 3 M_least_tree :=
  Fn.make m F (F.bindsN fun _ _ _ _ _ _ us hl => match us, hl with | [_], _ => rfl) sc_least_tree rfl rfl fun cdv A outer s H E hr => show RSs _ _ T_least_tree from
  (rs_cons (rs_drop (r_fn c_need_number (hr.mono (by omega)) (by rfl) (r_acons (r_toC (r_var 0 (pv 0))) (r_acons (r_toC r_int) (r_acons (r_toC (r_globE rfl i_MOST_FORKS)) r_anil)))))
  (rs_one (rs_retC (r_fn c_comb_tree (hr.mono (by omega)) (by rfl) (r_acons (r_toC (r_var 0 (pv 0))) (r_acons (r_toC r_bl) r_anil))))))
theorem sc_greatest_tree : FnScope ["forks"] ["forks"] (defScope EW.s_greatest_tree) := ⟨rfl, rfl, rfl, by decide +kernel, rfl, by decide +kernel, by decide +kernel⟩
theorem ok_greatest_tree {P : Program} {w : World} {K : PySem.W.Frag} {mg : Str → Option Value} {base : Heap} {f : Addr} {fd : FuncData} (m : mg "greatest_tree" = some (.ref f)) (F : FunD K "greatest_tree" "greatest_tree" (defArgs EW.s_greatest_tree) (defBody EW.s_greatest_tree) (defScope EW.s_greatest_tree) [] [] f fd) (c_need_number : Fn P w K mg base "need_number" ["value", "low", "high"] 2 M_need_number) (c_comb_tree : Fn P w K mg base "comb_tree" ["forks", "is_left"] 1 M_comb_tree) (i_MOST_FORKS : ∃ t, mg "MOST_FORKS" = some (.int 24 t)) :
    Fn P w K mg base "greatest_tree" ["forks"] 3 M_greatest_tree :=
  Fn.make m F (F.bindsN fun _ _ _ _ _ _ us hl => match us, hl with | [_], _ => rfl) sc_greatest_tree rfl rfl fun cdv A outer s H E hr => show RSs _ _ T_greatest_tree from
  (rs_cons (rs_drop (r_fn c_need_number (hr.mono (by omega)) (by rfl) (r_acons (r_toC (r_var 0 (pv 0))) (r_acons (r_toC r_int) (r_acons (r_toC (r_globE rfl i_MOST_FORKS)) r_anil)))))
  (rs_one (rs_retC (r_fn c_comb_tree (hr.mono (by omega)) (by rfl) (r_acons (r_toC (r_var 0 (pv 0))) (r_acons (r_toC r_bl) r_anil))))))
theorem sc__law_joined : FnScope ["_law_cutting_so", "_law_one", "_law_other", "_law_many", "_law_pair_so"] ["_law_cutting_so", "_law_one", "_law_other"] (defScope EW.s__law_joined) := ⟨rfl, rfl, rfl, by decide +kernel, rfl, by decide +kernel, by decide +kernel⟩
theorem ok__law_joined {P : Program} {w : World} {K : PySem.W.Frag} {mg : Str → Option Value} {base : Heap} {f : Addr} {fd : FuncData} (m : mg "_law_joined" = some (.ref f)) (F : FunD K "_law_joined" "_law_joined" (defArgs EW.s__law_joined) (defBody EW.s__law_joined) (defScope EW.s__law_joined) [] [] f fd) (n_min : mg "min" = none) (n_max : mg "max" = none) :
    Fn P w K mg base "_law_joined" ["_law_cutting_so", "_law_one", "_law_other"] 1 M__law_joined :=
  Fn.make m F (F.bindsN fun _ _ _ _ _ _ us hl => match us, hl with | [_, _, _], _ => rfl) sc__law_joined rfl rfl fun cdv A outer s H E hr => show RSs _ _ T__law_joined from
  (rs_cons (rs_setC sc__law_joined.nd rfl (Or.inl rfl) (r_toC (r_ix (r_var 0 (pv 0)) r_int)))
  (rs_cons (rs_setC sc__law_joined.nd rfl (Or.inl rfl) (r_toC (r_tup (r_acons (r_toC (call2 (c_min2 rfl) rfl n_min (by decide +kernel) (r_var 1 (pv 1)) (r_var 2 (pv 2)))) (r_acons (r_toC (call2 (c_max2 rfl) rfl n_max (by decide +kernel) (r_var 1 (pv 1)) (r_var 2 (pv 2)))) r_anil)))))
  (rs_one (rs_ret (r_or (r_cmpV (c_in hr.units) (r_V (r_var 4 (pv 4))) (r_V (r_ix (r_var 0 (pv 0)) r_int))) (r_one (r_cmpV (c_in hr.units) (r_V (r_bin o_mod (r_bin o_sub (r_var 1 (pv 1)) (r_var 2 (pv 2))) (r_var 3 (pv 3)))) (r_V (r_tup (r_acons (r_toC r_int) (r_acons (r_toC (r_bin o_sub (r_var 3 (pv 3)) r_int)) r_anil)))))))))))
theorem sc__law_pieces : FnScope ["_law_cutting_so", "_law_found", "_law_line", "_law_first", "_law_last", "_law_middle"] ["_law_cutting_so"] (defScope EW.s__law_pieces) := ⟨rfl, rfl, rfl, by decide +kernel, rfl, by decide +kernel, by decide +kernel⟩
theorem ok__law_pieces {P : Program} {w : World} {K : PySem.W.Frag} {mg : Str → Option Value} {base : Heap} {f : Addr} {fd : FuncData} (m : mg "_law_pieces" = some (.ref f)) (F : FunD K "_law_pieces" "_law_pieces" (defArgs EW.s__law_pieces) (defBody EW.s__law_pieces) (defScope EW.s__law_pieces) [] [] f fd) (c__law_joined : Fn P w K mg base "_law_joined" ["_law_cutting_so", "_law_one", "_law_other"] 1 M__law_joined) (n_range : mg "range" = none) (n_sorted : mg "sorted" = none) :
    Fn P w K mg base "_law_pieces" ["_law_cutting_so"] 2 M__law_pieces :=
  Fn.make m F (F.bindsN fun _ _ _ _ _ _ us hl => match us, hl with | [_], _ => rfl) sc__law_pieces rfl rfl fun cdv A outer s H E hr => show RSs _ _ T__law_pieces from
  (rs_cons (rs_par2 rfl sc__law_pieces.nd rfl rfl (by decide) rfl rfl (rf_l (r_lstF r_anil) (rf_l (r_lstF (r_acons (r_toC (r_tup (r_acons (r_toC r_int) (r_acons (r_toC (r_bin o_sub (r_ix (r_var 0 (pv 0)) r_int) r_int)) r_anil)))) r_anil)) rf_nil)) rfl)
  (rs_cons (rs_while PassesOwn.never (r_cmpVT (c_ne hr.units) (r_LV (r_varL 2 (pv 2))) (r_V (r_lst r_anil)))
  (rs_cons (rs_pop (pv 2) (rg_tup rfl (rgs_cons (pg_name sc__law_pieces.nd rfl (Or.inl rfl)) (rgs_cons (pg_name sc__law_pieces.nd rfl (Or.inl rfl)) rgs_nil)) rfl rfl gs2))
  (rs_one (rs_for PassesOwn.never rfl (ri_range2 rfl n_range (r_bin o_add (r_var 3 (pv 3)) r_int) (r_var 4 (pv 4))) (rg_name 5 (pg_name sc__law_pieces.nd rfl (Or.inl rfl)))
  (rs_one (rs_if (r_w (w_and (r_test (r_ofC (r_fn c__law_joined (hr.mono (by omega)) (by rfl) (r_acons (r_toC (r_var 0 (pv 0))) (r_acons (r_toC (r_var 3 (pv 3))) (r_acons (r_toC (r_var 5 (pv 5))) r_anil)))))) (w_and1 (r_test (r_ofC (r_fn c__law_joined (hr.mono (by omega)) (by rfl) (r_acons (r_toC (r_var 0 (pv 0))) (r_acons (r_toC (r_var 5 (pv 5))) (r_acons (r_toC (r_var 4 (pv 4))) r_anil))))))))) (rs_cons (rs_append (pv 1) (r_tup (r_acons (r_toC (r_var 3 (pv 3))) (r_acons (r_toC (r_var 5 (pv 5))) (r_acons (r_toC (r_var 4 (pv 4))) r_anil)))))
  (rs_one (rs_own sc__law_pieces.nd rfl (Or.inl rfl) (r_catF (r_varL 2 (pv 2)) (r_toL (r_lst (r_acons (r_toC (r_tup (r_acons (r_toC (r_var 3 (pv 3))) (r_acons (r_toC (r_var 5 (pv 5))) r_anil)))) (r_acons (r_toC (r_tup (r_acons (r_toC (r_var 5 (pv 5))) (r_acons (r_toC (r_var 4 (pv 4))) r_anil)))) r_anil))))))))
  rs_nil))))))
  (rss_freeze 1 (rs_one (rs_ret (r_b1 b_sortT rfl n_sorted (by decide +kernel) (r_var 1 (pv 1))))))))
theorem sc__law_counts : FnScope ["_law_cutting_so", "_law_every", "_law_piece_so", "_law_corner_so"] ["_law_cutting_so"] (defScope EW.s__law_counts) := ⟨rfl, rfl, rfl, by decide +kernel, rfl, by decide +kernel, by decide +kernel⟩
theorem ok__law_counts {P : Program} {w : World} {K : PySem.W.Frag} {mg : Str → Option Value} {base : Heap} {f : Addr} {fd : FuncData} (m : mg "_law_counts" = some (.ref f)) (F : FunD K "_law_counts" "_law_counts" (defArgs EW.s__law_counts) (defBody EW.s__law_counts) (defScope EW.s__law_counts) [] [] f fd) (c__law_pieces : Fn P w K mg base "_law_pieces" ["_law_cutting_so"] 2 M__law_pieces) (n_tuple : mg "tuple" = none) (n_range : mg "range" = none) (n_len : mg "len" = none) :
    Fn P w K mg base "_law_counts" ["_law_cutting_so"] 3 M__law_counts :=
  Fn.make m F (F.bindsN fun _ _ _ _ _ _ us hl => match us, hl with | [_], _ => rfl) sc__law_counts rfl rfl fun cdv A outer s H E hr => show RSs _ _ T__law_counts from
  (rs_cons (rs_setC sc__law_counts.nd rfl (Or.inr rfl) (r_fn c__law_pieces (hr.mono (by omega)) (by rfl) (r_acons (r_toC (r_var 0 (pv 0))) r_anil)))
  (rs_one (rs_ret (r_ty1 b_tuple rfl n_tuple (by decide +kernel) (r_F (r_lcF (own := [("_law_corner_so", 3)]) rfl sc__law_counts.nd (ri_range1 rfl n_range (r_ix (r_var 0 (pv 0)) r_int)) (blkOk_by (by kernel_rfl)) (fun _ _ _ _ _ => (rg_name 3 (pg_name sc__law_counts.nd rfl (Or.inr rfl)))) (fun _ _ _ _ _ => rts_nil) (fun _ _ _ _ _ => (r_b1V b_len rfl n_len (by decide +kernel) (r_V (r_F (r_lcF (own := [("_law_piece_so", 2)]) rfl sc__law_counts.nd (ri_list (r_var 1 (pv 1))) (blkOk_by (by kernel_rfl)) (fun _ _ _ _ _ => (rg_name 2 (pg_name sc__law_counts.nd rfl (Or.inl rfl)))) (fun _ _ _ _ _ => (rts_one (r_cmpVT (c_in hr.units) (r_V (r_var 3 (pv 3))) (r_V (r_var 2 (pv 2)))))) (fun _ _ _ _ _ => r_int))))))))))))
theorem sc__law_shown : FnScope ["_law_some"] [] (defScope EW.s__law_shown) := ⟨rfl, rfl, rfl, by decide +kernel, rfl, by decide +kernel, by decide +kernel⟩
theorem ok__law_shown {P : Program} {w : World} {K : PySem.W.Frag} {mg : Str → Option Value} {base : Heap} {f : Addr} {fd : FuncData} (m : mg "_law_shown" = some (.ref f)) (F : FunD K "_law_shown" "_law_shown" (defArgs EW.s__law_shown) (defBody EW.s__law_shown) (defScope EW.s__law_shown) [] [] f fd) :
    Fn P w K mg base "_law_shown" [] 1 M__law_shown :=
  Fn.make m F (F.bindsN fun _ _ _ _ _ _ us hl => match us, hl with | [], _ => rfl) sc__law_shown rfl rfl fun cdv A outer s H E hr => show RSs _ _ T__law_shown from
  (rs_cons (rs_setC sc__law_shown.nd rfl (Or.inl rfl) (r_toC (r_lst (r_acons (r_toC (r_tup (r_acons (r_toC r_int) (r_acons (r_toC (r_tup (r_acons (r_toC (r_tup (r_acons (r_toC r_int) (r_acons (r_toC r_int) r_anil)))) r_anil))) r_anil)))) (r_acons (r_toC (r_tup (r_acons (r_toC r_int) (r_acons (r_toC (r_tup (r_acons (r_toC (r_tup (r_acons (r_toC r_int) (r_acons (r_toC r_int) r_anil)))) (r_acons (r_toC (r_tup (r_acons (r_toC r_int) (r_acons (r_toC r_int) r_anil)))) r_anil)))) r_anil)))) (r_acons (r_toC (r_tup (r_acons (r_toC r_int) (r_acons (r_toC (r_tup (r_acons (r_toC (r_tup (r_acons (r_toC r_int) (r_acons (r_toC r_int) r_anil)))) (r_acons (r_toC (r_tup (r_acons (r_toC r_int) (r_acons (r_toC r_int) r_anil)))) (r_acons (r_toC (r_tup (r_acons (r_toC r_int) (r_acons (r_toC r_int) r_anil)))) r_anil))))) r_anil)))) r_anil))))))
  (rs_one (rs_ret (r_catL (r_varL 0 (pv 0)) (r_toL (r_lst (r_acons (r_toC (r_tup (r_acons (r_toC r_int) (r_acons (r_toC (r_tup (r_acons (r_toC (r_tup (r_acons (r_toC r_int) (r_acons (r_toC r_int) r_anil)))) (r_acons (r_toC (r_tup (r_acons (r_toC r_int) (r_acons (r_toC r_int) r_anil)))) (r_acons (r_toC (r_tup (r_acons (r_toC r_int) (r_acons (r_toC r_int) r_anil)))) r_anil))))) r_anil)))) (r_acons (r_toC (r_tup (r_acons (r_toC r_int) (r_acons (r_toC (r_tup (r_acons (r_toC (r_tup (r_acons (r_toC r_int) (r_acons (r_toC r_int) r_anil)))) (r_acons (r_toC (r_tup (r_acons (r_toC r_int) (r_acons (r_toC r_int) r_anil)))) (r_acons (r_toC (r_tup (r_acons (r_toC r_int) (r_acons (r_toC r_int) r_anil)))) r_anil))))) r_anil)))) r_anil))))))))
theorem sc__law_up_right : FnScope ["_law_one", "_law_other", "_law_mine", "_law_yours", "_law_way_so", "_law_here", "_law_below", "_law_cuts_so", "_law_now", "_law_number", "_law_later", "_law_gone", "_law_few", "_law_less", "_law_more", "_law_cut_so"] ["_law_one", "_law_other"] (defScope EW.s__law_up_right) := ⟨rfl, rfl, rfl, by decide +kernel, rfl, by decide +kernel, by decide +kernel⟩
theorem ok__law_up_right {P : Program} {w : World} {K : PySem.W.Frag} {mg : Str → Option Value} {base : Heap} {f : Addr} {fd : FuncData} (m : mg "_law_up_right" = some (.ref f)) (F : FunD K "_law_up_right" "_law_up_right" (defArgs EW.s__law_up_right) (defBody EW.s__law_up_right) (defScope EW.s__law_up_right) [] [] f fd) (c_tree_of : Fn P w K mg base "tree_of" ["cutting"] 12 M_tree_of) (c_way_up : Fn P w K mg base "way_up" ["one", "other"] 19 M_way_up) (c_reaches : Fn P w K mg base "reaches" ["tree"] 17 M_reaches) (c_is_below : Fn P w K mg base "is_below" ["one", "other"] 18 M_is_below) (c_fewest_up : Fn P w K mg base "fewest_up" ["one", "other"] 22 M_fewest_up) (c_fork_turned : Fn P w K mg base "fork_turned" ["tree", "fork"] 17 M_fork_turned) (c_tree_cutting : Fn P w K mg base "tree_cutting" ["tree"] 18 M_tree_cutting) (c_exchanged : Fn P w K mg base "exchanged" ["cutting", "cut"] 6 M_exchanged) (c_turned_fork : Fn P w K mg base "turned_fork" ["cutting", "cut"] 18 M_turned_fork) (c_behind_way : Fn P w K mg base "behind_way" ["cutting", "way"] 7 M_behind_way) (c_fewest_exchanges : Fn P w K mg base "fewest_exchanges" ["one", "other"] 15 M_fewest_exchanges) (c_is_least_way : Fn P w K mg base "is_least_way" ["one", "other", "value"] 15 M_is_least_way) (n_zip : mg "zip" = none) (n_len : mg "len" = none) (n_tuple : mg "tuple" = none) :
    Fn P w K mg base "_law_up_right" ["_law_one", "_law_other"] 23 M__law_up_right :=
  Fn.make m F (F.bindsN fun _ _ _ _ _ _ us hl => match us, hl with | [_, _], _ => rfl) sc__law_up_right rfl rfl fun cdv A outer s H E hr => show RSs _ _ T__law_up_right from
  (rs_cons (rs_par2 rfl sc__law_up_right.nd rfl rfl (by decide) rfl rfl (rf_c (r_fn c_tree_of (hr.mono (by omega)) (by rfl) (r_acons (r_toC (r_var 0 (pv 0))) r_anil)) (rf_c (r_fn c_tree_of (hr.mono (by omega)) (by rfl) (r_acons (r_toC (r_var 1 (pv 1))) r_anil)) rf_nil)) rfl)
  (rs_cons (rs_par2 rfl sc__law_up_right.nd rfl rfl (by decide) rfl rfl (rf_c (r_fn c_way_up (hr.mono (by omega)) (by rfl) (r_acons (r_toC (r_var 2 (pv 2))) (r_acons (r_toC (r_var 3 (pv 3))) r_anil))) (rf_c (r_toC (r_var 2 (pv 2))) rf_nil)) rfl)
  (rs_cons (rs_setC sc__law_up_right.nd rfl (Or.inl rfl) (r_toC (r_cmpV (c_eq hr.units) (r_V (r_F (r_lcF (own := [("_law_less", 13), ("_law_more", 14)]) rfl sc__law_up_right.nd (ri_zip rfl n_zip (r_ofC (r_fn c_reaches (hr.mono (by omega)) (by rfl) (r_acons (r_toC (r_var 2 (pv 2))) r_anil))) (r_ofC (r_fn c_reaches (hr.mono (by omega)) (by rfl) (r_acons (r_toC (r_var 3 (pv 3))) r_anil)))) (blkOk_by (by kernel_rfl)) (fun _ _ _ _ _ => (rg_tup rfl (rgs_cons (pg_name sc__law_up_right.nd rfl (Or.inl rfl)) (rgs_cons (pg_name sc__law_up_right.nd rfl (Or.inl rfl)) rgs_nil)) rfl rfl gs2)) (fun _ _ _ _ _ => (rts_one (r_cmpVT c_gt (r_V (r_var 13 (pv 13))) (r_V (r_var 14 (pv 14)))))) (fun _ _ _ _ _ => r_int)))) (r_V (r_lst r_anil)))))
  (rs_cons (rs_if (r_w (w_or (r_cmpVT (c_ne hr.units) (r_V (r_cmpV c_notN (r_V (r_var 4 (pv 4))) (r_V r_non))) (r_V (r_var 6 (pv 6)))) (w_or1 (r_cmpVT (c_ne hr.units) (r_V (r_ofC (r_fn c_is_below (hr.mono (by omega)) (by rfl) (r_acons (r_toC (r_var 2 (pv 2))) (r_acons (r_toC (r_var 3 (pv 3))) r_anil))))) (r_V (r_var 6 (pv 6))))))) (rs_one (rs_ret r_bl))
  rs_nil)
  (rs_cons (rs_if (r_cmpVT (c_ne hr.units) (r_V (r_cmpV c_notN (r_V (r_ofC (r_fn c_fewest_up (hr.mono (by omega)) (by rfl) (r_acons (r_toC (r_var 2 (pv 2))) (r_acons (r_toC (r_var 3 (pv 3))) r_anil))))) (r_V r_non))) (r_V (r_var 6 (pv 6)))) (rs_one (rs_ret r_bl))
  rs_nil)
  (rs_cons (rs_if (r_cmpVT c_isN (r_V (r_var 4 (pv 4))) (r_V r_non)) (rs_one (rs_ret r_bl))
  rs_nil)
  (rs_cons (rs_par2 rfl sc__law_up_right.nd rfl rfl (by decide) rfl rfl (rf_c (r_toC (r_lst r_anil)) (rf_c (r_toC (r_var 0 (pv 0))) rf_nil)) rfl)
  (rs_cons (rs_for PassesOwn.never rfl (ri_tup (r_var 4 (pv 4))) (rg_name 9 (pg_name sc__law_up_right.nd rfl (Or.inl rfl)))
  (rs_cons (rs_setC sc__law_up_right.nd rfl (Or.inl rfl) (r_fn c_fork_turned (hr.mono (by omega)) (by rfl) (r_acons (r_toC (r_var 5 (pv 5))) (r_acons (r_toC (r_var 9 (pv 9))) r_anil))))
  (rs_cons (rs_setC sc__law_up_right.nd rfl (Or.inr rfl) (r_fn c_tree_cutting (hr.mono (by omega)) (by rfl) (r_acons (r_toC (r_var 5 (pv 5))) r_anil)))
  (rs_cons (rs_setLc (ps_lc (own := [("_law_cut_so", 15)]) rfl sc__law_up_right.nd rfl rfl (sw_true rfl rfl rfl (by decide +kernel)) (ri_tup (r_ix (r_var 8 (pv 8)) r_int)) (blkOk_by (by kernel_rfl)) (fun _ _ _ _ _ => (rg_name 15 (pg_name sc__law_up_right.nd rfl (Or.inl rfl)))) (fun _ _ _ _ _ => (rts_one (r_cmpVT (c_notIn hr.units) (r_V (r_var 15 (pv 15))) (r_V (r_ix (r_var 10 (pv 10)) r_int))))) (fun _ _ _ _ _ => (r_var 15 (pv 15)))))
  (rs_cons (rs_if (r_w (w_or (r_cmpVT (c_ne hr.units) (r_V (r_b1V b_len rfl n_len (by decide +kernel) (r_V (r_var 11 (pv 11))))) (r_V r_int)) (w_or1 (r_cmpVT (c_ne hr.units) (r_V (r_ofC (r_fn c_exchanged (hr.mono (by omega)) (by rfl) (r_acons (r_toC (r_var 8 (pv 8))) (r_acons (r_toC (r_ix (r_var 11 (pv 11)) r_int)) r_anil))))) (r_V (r_var 10 (pv 10))))))) (rs_one (rs_ret r_bl))
  rs_nil)
  (rs_cons (rs_if (r_cmpVT (c_ne hr.units) (r_V (r_ofC (r_fn c_turned_fork (hr.mono (by omega)) (by rfl) (r_acons (r_toC (r_var 8 (pv 8))) (r_acons (r_toC (r_ix (r_var 11 (pv 11)) r_int)) r_anil))))) (r_V (r_tup (r_acons (r_toC (r_var 9 (pv 9))) (r_acons (r_toC r_bl) r_anil))))) (rs_one (rs_ret r_bl))
  rs_nil)
  (rs_one (rs_par2 rfl sc__law_up_right.nd rfl rfl (by decide) rfl rfl (rf_c (r_toC (r_catL (r_varL 7 (pv 7)) (r_varL 11 (pv 11)))) (rf_c (r_toC (r_var 10 (pv 10))) rf_nil)) rfl))))))))
  (rs_cons (rs_if (r_w (w_or (r_cmpVT (c_ne hr.units) (r_V (r_var 8 (pv 8))) (r_V (r_var 1 (pv 1)))) (w_or1 (r_cmpVT (c_ne hr.units) (r_V (r_ofC (r_fn c_behind_way (hr.mono (by omega)) (by rfl) (r_acons (r_toC (r_var 0 (pv 0))) (r_acons (r_toC (r_ty1 b_tuple rfl n_tuple (by decide +kernel) (r_var 7 (pv 7)))) r_anil))))) (r_V (r_var 1 (pv 1))))))) (rs_one (rs_ret r_bl))
  rs_nil)
  (rs_cons (rs_setC sc__law_up_right.nd rfl (Or.inl rfl) (r_fn c_fewest_exchanges (hr.mono (by omega)) (by rfl) (r_acons (r_toC (r_var 0 (pv 0))) (r_acons (r_toC (r_var 1 (pv 1))) r_anil))))
  (rs_cons (rs_if (r_notT (r_chainT c_le c_le (r_V (r_var 12 (pv 12))) (r_V (r_ofC (r_fn c_fewest_up (hr.mono (by omega)) (by rfl) (r_acons (r_toC (r_var 2 (pv 2))) (r_acons (r_toC (r_var 3 (pv 3))) r_anil))))) (r_V (r_b1V b_len rfl n_len (by decide +kernel) (r_V (r_var 4 (pv 4))))))) (rs_one (rs_ret r_bl))
  rs_nil)
  (rs_one (rs_ret (r_cmpV (c_eq hr.units) (r_V (r_ofC (r_fn c_is_least_way (hr.mono (by omega)) (by rfl) (r_acons (r_toC (r_var 0 (pv 0))) (r_acons (r_toC (r_var 1 (pv 1))) (r_acons (r_toC (r_ty1 b_tuple rfl n_tuple (by decide +kernel) (r_var 7 (pv 7)))) r_anil)))))) (r_V (r_cmpV (c_eq hr.units) (r_V (r_b1V b_len rfl n_len (by decide +kernel) (r_V (r_var 4 (pv 4))))) (r_V (r_var 12 (pv 12)))))))))))))))))))
theorem sc__law_fans_right : FnScope ["_law_cutting_so", "_law_many", "_law_tree_so", "_law_low", "_law_high", "_law_near", "_law_row_so", "_law_last", "_law_first"] ["_law_cutting_so"] (defScope EW.s__law_fans_right) := ⟨rfl, rfl, rfl, by decide +kernel, rfl, by decide +kernel, by decide +kernel⟩
theorem ok__law_fans_right {P : Program} {w : World} {K : PySem.W.Frag} {mg : Str → Option Value} {base : Heap} {f : Addr} {fd : FuncData} (m : mg "_law_fans_right" = some (.ref f)) (F : FunD K "_law_fans_right" "_law_fans_right" (defArgs EW.s__law_fans_right) (defBody EW.s__law_fans_right) (defScope EW.s__law_fans_right) [] [] f fd) (c_tree_of : Fn P w K mg base "tree_of" ["cutting"] 12 M_tree_of) (c_least_tree : Fn P w K mg base "least_tree" ["forks"] 3 M_least_tree) (c_greatest_tree : Fn P w K mg base "greatest_tree" ["forks"] 3 M_greatest_tree) (c_tree_cutting : Fn P w K mg base "tree_cutting" ["tree"] 18 M_tree_cutting) (c__law_counts : Fn P w K mg base "_law_counts" ["_law_cutting_so"] 3 M__law_counts) (c_fewest_up : Fn P w K mg base "fewest_up" ["one", "other"] 22 M_fewest_up) (c_far_from_fan : Fn P w K mg base "far_from_fan" ["cutting", "corner"] 5 M_far_from_fan) (c_fewest_exchanges : Fn P w K mg base "fewest_exchanges" ["one", "other"] 15 M_fewest_exchanges) (n_tuple : mg "tuple" = none) (n_range : mg "range" = none) :
    Fn P w K mg base "_law_fans_right" ["_law_cutting_so"] 23 M__law_fans_right :=
  Fn.make m F (F.bindsN fun _ _ _ _ _ _ us hl => match us, hl with | [_], _ => rfl) sc__law_fans_right rfl rfl fun cdv A outer s H E hr => show RSs _ _ T__law_fans_right from
  (rs_cons (rs_unp (r_tup (r_acons (r_toC (r_ix (r_var 0 (pv 0)) r_int)) (r_acons (r_fn c_tree_of (hr.mono (by omega)) (by rfl) (r_acons (r_toC (r_var 0 (pv 0))) r_anil)) r_anil))) (rg_tup rfl (rgs_cons (pg_name sc__law_fans_right.nd rfl (Or.inr rfl)) (rgs_cons (pg_name sc__law_fans_right.nd rfl (Or.inl rfl)) rgs_nil)) rfl rfl gs2))
  (rs_cons (rs_par2 rfl sc__law_fans_right.nd rfl rfl (by decide) rfl rfl (rf_c (r_fn c_least_tree (hr.mono (by omega)) (by rfl) (r_acons (r_toC (r_bin o_sub (r_var 1 (pv 1)) r_int)) r_anil)) (rf_c (r_fn c_greatest_tree (hr.mono (by omega)) (by rfl) (r_acons (r_toC (r_bin o_sub (r_var 1 (pv 1)) r_int)) r_anil)) rf_nil)) rfl)
  (rs_cons (rs_setC sc__law_fans_right.nd rfl (Or.inl rfl) (r_toC (r_lst (r_acons (r_toC (r_ty1 b_tuple rfl n_tuple (by decide +kernel) (r_F (r_lcF (own := [("_law_last", 7)]) rfl sc__law_fans_right.nd (ri_range2 rfl n_range r_int (r_bin o_sub (r_var 1 (pv 1)) r_int)) (blkOk_by (by kernel_rfl)) (fun _ _ _ _ _ => (rg_name 7 (pg_name sc__law_fans_right.nd rfl (Or.inl rfl)))) (fun _ _ _ _ _ => rts_nil) (fun _ _ _ _ _ => (r_tup (r_acons (r_toC r_int) (r_acons (r_toC (r_var 7 (pv 7))) r_anil)))))))) (r_acons (r_toC (r_ty1 b_tuple rfl n_tuple (by decide +kernel) (r_F (r_lcF (own := [("_law_first", 8)]) rfl sc__law_fans_right.nd (ri_range2 rfl n_range r_int (r_bin o_sub (r_var 1 (pv 1)) r_int)) (blkOk_by (by kernel_rfl)) (fun _ _ _ _ _ => (rg_name 8 (pg_name sc__law_fans_right.nd rfl (Or.inl rfl)))) (fun _ _ _ _ _ => rts_nil) (fun _ _ _ _ _ => (r_tup (r_acons (r_toC (r_var 8 (pv 8))) (r_acons (r_toC (r_bin o_sub (r_var 1 (pv 1)) r_int)) r_anil)))))))) r_anil)))))
  (rs_cons (rs_if (r_w (w_or (r_cmpVT (c_ne hr.units) (r_V (r_ofC (r_fn c_tree_cutting (hr.mono (by omega)) (by rfl) (r_acons (r_toC (r_var 3 (pv 3))) r_anil)))) (r_V (r_tup (r_acons (r_toC (r_var 1 (pv 1))) (r_acons (r_toC (r_ix (r_var 5 (pv 5)) r_int)) r_anil))))) (w_or1 (r_cmpVT (c_ne hr.units) (r_V (r_ofC (r_fn c_tree_cutting (hr.mono (by omega)) (by rfl) (r_acons (r_toC (r_var 4 (pv 4))) r_anil)))) (r_V (r_tup (r_acons (r_toC (r_var 1 (pv 1))) (r_acons (r_toC (r_ix (r_var 5 (pv 5)) r_int)) r_anil)))))))) (rs_one (rs_ret r_bl))
  rs_nil)
  (rs_cons (rs_setC sc__law_fans_right.nd rfl (Or.inl rfl) (r_fn c__law_counts (hr.mono (by omega)) (by rfl) (r_acons (r_toC (r_var 0 (pv 0))) r_anil)))
  (rs_cons (rs_if (r_cmpVT (c_ne hr.units) (r_V (r_ofC (r_fn c_fewest_up (hr.mono (by omega)) (by rfl) (r_acons (r_toC (r_var 3 (pv 3))) (r_acons (r_toC (r_var 2 (pv 2))) r_anil))))) (r_V (r_bin o_sub (r_bin o_sub (r_var 1 (pv 1)) r_int) (r_ix (r_var 6 (pv 6)) r_int)))) (rs_one (rs_ret r_bl))
  rs_nil)
  (rs_cons (rs_if (r_cmpVT (c_ne hr.units) (r_V (r_ofC (r_fn c_far_from_fan (hr.mono (by omega)) (by rfl) (r_acons (r_toC (r_var 0 (pv 0))) (r_acons (r_toC r_int) r_anil))))) (r_V (r_bin o_sub (r_bin o_sub (r_var 1 (pv 1)) r_int) (r_ix (r_var 6 (pv 6)) r_int)))) (rs_one (rs_ret r_bl))
  rs_nil)
  (rs_cons (rs_if (r_cmpVT (c_ne hr.units) (r_V (r_ofC (r_fn c_fewest_up (hr.mono (by omega)) (by rfl) (r_acons (r_toC (r_var 2 (pv 2))) (r_acons (r_toC (r_var 4 (pv 4))) r_anil))))) (r_V (r_bin o_sub (r_bin o_sub (r_var 1 (pv 1)) r_int) (r_ix (r_var 6 (pv 6)) (r_neg r_int))))) (rs_one (rs_ret r_bl))
  rs_nil)
  (rs_cons (rs_if (r_cmpVT (c_ne hr.units) (r_V (r_ofC (r_fn c_far_from_fan (hr.mono (by omega)) (by rfl) (r_acons (r_toC (r_var 0 (pv 0))) (r_acons (r_toC (r_bin o_sub (r_var 1 (pv 1)) r_int)) r_anil))))) (r_V (r_bin o_sub (r_bin o_sub (r_var 1 (pv 1)) r_int) (r_ix (r_var 6 (pv 6)) (r_neg r_int))))) (rs_one (rs_ret r_bl))
  rs_nil)
  (rs_one (rs_ret (r_cmpV (c_eq hr.units) (r_V (r_ofC (r_fn c_fewest_exchanges (hr.mono (by omega)) (by rfl) (r_acons (r_toC (r_tup (r_acons (r_toC (r_var 1 (pv 1))) (r_acons (r_toC (r_ix (r_var 5 (pv 5)) r_int)) r_anil)))) (r_acons (r_toC (r_var 0 (pv 0))) r_anil))))) (r_V (r_bin o_sub (r_bin o_sub (r_var 1 (pv 1)) r_int) (r_ix (r_var 6 (pv 6)) r_int)))))))))))))))
end Ev

set_option Elab.async false
set_option linter.all false
set_option autoImplicit false
set_option maxRecDepth 100000
set_option maxHeartbeats 4000000
/-! Ev16: the drawing -/
namespace Ev
open PySem PySem.Spec L2
/-- it computes this int and leaves all -/
def EI (te : TE) (σ : St) (H : Hp) (i : Int) : Prop := ∀ Q : VK, Q (.int i) H → te σ H Q
section
variable {σ : St} {H : Hp} {ta tb : TE} {i j k : Int}
theorem ei_var {n : Nat} (h : σ[n]? = some (some (.int i))) : EI (tVar n) σ H i := fun Q q => ⟨_, h, q⟩
theorem ei_c : EI (tC (.int i)) σ H i := fun Q q => q
theorem ei_rI {CC : Int → Int → Prop} {g : Int → Int → V} (ha : EI ta σ H i) (hb : EI tb σ H j) (hc : CC i j) (hk : g i j = .int k) : EI (tOp (rI CC g) ta tb) σ H k := fun Q q => ha _ (hb _ ⟨i, j, rfl, rfl, hc, by rw [hk]; exact q⟩)
theorem ei_rI0 {g : Int → Int → V} (ha : EI ta σ H i) (hb : EI tb σ H j) (hk : g i j = .int k) : EI (tOp (rI0 g) ta tb) σ H k := fun Q q => ha _ (hb _ ⟨i, j, rfl, rfl, by rw [hk]; exact q⟩)
end
section
variable {σ : St} {H : Hp} {ta tb : TE} {i j k : Int} {K : PySem.W.Frag}
theorem ei_int (ha : EI ta σ H i) : EI (tCB (fun xs H Q => (∃ i, xs = [V.int i] ∧ Q (V.int i) H) ∨ ∃ k, xs = [V.bl k] ∧ Q (V.int (if k = true then 1 else 0)) H) (tCons ta tNil)) σ H i := fun Q q => ha _ (.inl ⟨i, rfl, q⟩)
theorem ei_ix {n : Nat} {a : Addr} {xs : List V} (h : σ[n]? = some (some (.ref a))) (e : H a = some (.lst xs)) (hx : atI xs j = some (.int i)) : EI (tOp (rIx K) (tVar n) (tC (.int j))) σ H i := fun Q q => ⟨_, h, .inl ⟨a, xs, j, _, rfl, rfl, SqL.of e, hx, q⟩⟩
end
section
variable {P : Program} {w : World} {K : PySem.W.Frag} {mg : Str → Option Value} {base : Heap} {f : Addr} {fd : FuncData}
theorem sc_source : FnScope ["_law_script", "_law_k", "_law_number", "_law_start"] ["_law_script", "_law_k"] (defScope EW.s__law_source) := ⟨rfl, rfl, rfl, by decide +kernel, rfl, by decide +kernel, by decide +kernel⟩
def spSource (K : PySem.W.Frag) : Sp := fun vs H Q _ => ∃ (l : Addr) (ns : List Int), vs = [.ref l, .int 0] ∧ SqL K H l (ns.map V.int) ∧ ∀ p x y, H p = none → 0 ≤ y → y < 1099511627776 → Q (.ref p) (upd H p (.lst [.int x, .int y]))
theorem ok_source (F : FunD K "_law_source" "_law_source" (defArgs EW.s__law_source) (defBody EW.s__law_source) (defScope EW.s__law_source) [] [] f fd) (n_len : mg "len" = none) (n_int : mg "int" = none) : FnOk P w K mg base CX0 1 f fd ["_law_script", "_law_k"] (spSource K) := by
  refine F.ok sc_source (fun vs H Q E h => ?_) ?_
  · obtain ⟨l, ns, rfl, _⟩ := h; rfl
  intro cdv A outer s H vs Q E hr h
  have B : PSs (cxOf CX0 P w K mg base ["_law_script", "_law_k", "_law_number", "_law_start"] "_law_source" (defScope EW.s__law_source) f cdv A outer s H E).nox (defBody EW.s__law_source) _ :=
    pss_cons (ps_set (i := 2) sc_source.nd rfl (Or.inl rfl) pe_int)
      (pss_cons (ps_if (pt_cmp (pc_gt (pe_callB call_len (by rfl) n_len boot_len (pa_cons (pv 0) pa_nil)) (pv 1))) (pss_one (ps_set (i := 2) sc_source.nd rfl (Or.inl rfl) (pe_callTy call_int1 (by rfl) n_int PyProof.Rows.boot_int (pa_cons (pe_ix ix_seq (pv 0) (pv 1) (fun _ _ => rfl)) pa_nil)))) pss_nil)
      (pss_cons (ps_set (i := 3) sc_source.nd rfl (Or.inl rfl) (pe_op op_mod (pe_op op_add (pe_op op_add (pe_op op_mul (pv 2) pe_int) (pe_op op_mul pe_int (pv 1))) pe_int) pe_int))
      (pss_cons (ps_set (i := 3) sc_source.nd rfl (Or.inl rfl) (pe_op op_add (pe_op op_add (pe_op op_mod (pe_op op_mul (pv 3) (pv 3)) pe_int) (pe_op op_mul pe_int (pv 1))) pe_int))
      (pss_one (ps_ret (pe_lst (pa_cons (pe_ifExp (pt_cmp (pc_ge (pv 2) (pe_op op_pow pe_int pe_int))) (pv 2) pe_int) (pa_cons (pv 3) pa_nil))))))))
  refine ⟨_, PSs.nox B, ?_⟩
  obtain ⟨l, ns, rfl, hq, q⟩ := h
  clear B
  have tail : ∀ n : Int, ∀ Q' : VK, (∀ p x y, H p = none → 0 ≤ y → y < 1099511627776 → Q' (.ref p) (upd H p (.lst [.int x, .int y]))) → ∀ D : Ends, D.rt = Q' →
      tSeq (tAsg (tOp (rI (fun x j => 0 < j) fun i j => V.int (i % j)) (tOp (rI0 fun i j => V.int (i + j)) (tOp (rI0 fun i j => V.int (i + j)) (tOp (rI CMul fun i j => V.int (i * j)) (tVar 2) (tC (V.int 16807))) (tOp (rI CMul fun i j => V.int (i * j)) (tC (V.int 60919)) (tVar 1))) (tC (V.int 31))) (tC (V.int 2147481173))) (gName 3))
        (tSeq (tAsg (tOp (rI0 fun i j => V.int (i + j)) (tOp (rI0 fun i j => V.int (i + j)) (tOp (rI (fun x j => 0 < j) fun i j => V.int (i % j)) (tOp (rI CMul fun i j => V.int (i * j)) (tVar 3) (tVar 3)) (tC (V.int 2147481151))) (tOp (rI CMul fun i j => V.int (i * j)) (tC (V.int 2)) (tVar 1))) (tC (V.int 5))) (gName 3))
          (tRet (tLst (tCons (tIf (tB (tGe (tVar 2) (tOp (rI CPow fun i j => V.int (i ^ j.toNat)) (tC (V.int 10)) (tC (V.int 18))))) (tVar 2) (tC (V.int 0))) (tCons (tVar 3) tNil))))) D [some (V.ref l), some (V.int 0), some (V.int n), none] H := by
    intro n Q' q D hD
    have e3 : EI (tOp (rI (fun x j => 0 < j) fun i j => V.int (i % j)) (tOp (rI0 fun i j => V.int (i + j)) (tOp (rI0 fun i j => V.int (i + j)) (tOp (rI CMul fun i j => V.int (i * j)) (tVar 2) (tC (V.int 16807))) (tOp (rI CMul fun i j => V.int (i * j)) (tC (V.int 60919)) (tVar 1))) (tC (V.int 31))) (tC (V.int 2147481173)))
        [some (V.ref l), some (V.int 0), some (V.int n), none] H ((n * 16807 + 60919 * 0 + 31) % 2147481173) :=
      ei_rI (ei_rI0 (ei_rI0 (ei_rI (ei_var rfl) ei_c (.inr ⟨by decide, by decide⟩) rfl) (ei_rI ei_c (ei_var rfl) (.inr ⟨by decide, by decide⟩) rfl) rfl) ei_c rfl) ei_c (by decide) rfl
    refine e3 _ ?_
    have b3 : 0 ≤ (n * 16807 + 60919 * 0 + 31) % 2147481173 ∧ (n * 16807 + 60919 * 0 + 31) % 2147481173 < 2147481173 := ⟨Int.emod_nonneg _ (by decide), Int.emod_lt_of_pos _ (by decide)⟩
    generalize (n * 16807 + 60919 * 0 + 31) % 2147481173 = s3 at b3
    have e4 : EI (tOp (rI0 fun i j => V.int (i + j)) (tOp (rI0 fun i j => V.int (i + j)) (tOp (rI (fun x j => 0 < j) fun i j => V.int (i % j)) (tOp (rI CMul fun i j => V.int (i * j)) (tVar 3) (tVar 3)) (tC (V.int 2147481151))) (tOp (rI CMul fun i j => V.int (i * j)) (tC (V.int 2)) (tVar 1))) (tC (V.int 5)))
        [some (V.ref l), some (V.int 0), some (V.int n), some (V.int s3)] H (s3 * s3 % 2147481151 + 2 * 0 + 5) :=
      ei_rI0 (ei_rI0 (ei_rI (ei_rI (ei_var rfl) (ei_var rfl) (.inr ⟨by omega, by omega⟩) rfl) ei_c (by decide) rfl) (ei_rI ei_c (ei_var rfl) (.inr ⟨by decide, by decide⟩) rfl) rfl) ei_c rfl
    refine e4 _ ?_
    have b4 : 0 ≤ s3 * s3 % 2147481151 ∧ s3 * s3 % 2147481151 < 2147481151 := ⟨Int.emod_nonneg _ (by decide), Int.emod_lt_of_pos _ (by decide)⟩
    generalize s3 * s3 % 2147481151 = s4 at b4
    refine ⟨_, rfl, 10, 18, rfl, rfl, ⟨by decide, by decide, by decide⟩, n, (10 : Int) ^ (18 : Int).toNat, rfl, rfl, _, rfl, ?_⟩
    have fin : ∀ x, D.rt = Q' → ([V.int x, V.int (s4 + 2 * 0 + 5)].length ≤ sizeLine ∧ ∀ p, H p = none → D.rt (.ref p) (upd H p (.lst [V.int x, V.int (s4 + 2 * 0 + 5)]))) := fun x hD => ⟨by rw [sizeLine_eq]; exact (by decide : 2 ≤ 16777216), fun p hp => by rw [hD]; exact q p x _ hp (by omega) (by omega)⟩
    show if decide ((10 : Int) ^ (18 : Int).toNat ≤ n) = true then _ else _
    by_cases hb : decide ((10 : Int) ^ (18 : Int).toNat ≤ n) = true
    · rw [if_pos hb]
      exact ⟨_, rfl, _, rfl, fin n hD⟩
    · rw [if_neg hb]
      exact ⟨_, rfl, fin 0 hD⟩
  refine ⟨V.ref l, rfl, ⟨V.ref l, (ns.map V.int).length, rfl, .inl ⟨_, hq, rfl⟩, ⟨V.int 0, rfl, ⟨((ns.map V.int).length : Nat), 0, rfl, rfl, ⟨_, rfl, ?_⟩⟩⟩⟩⟩
  cases ns with
  | nil =>
    rw [if_neg (by simp)]
    exact tail 0 Q q _ rfl
  | cons n0 r =>
    rw [if_pos (by simp)]
    exact ⟨_, rfl, ⟨_, rfl, .inl ⟨l, _, 0, .int n0, rfl, rfl, hq, by simp [atI, ixN], .inl ⟨n0, rfl, tail n0 Q q _ rfl⟩⟩⟩⟩
theorem sc_pick : FnScope ["_law_source_here", "_law_many", "_law_found"] ["_law_source_here", "_law_many"] (defScope EW.s__law_pick) := ⟨rfl, rfl, rfl, by decide +kernel, rfl, by decide +kernel, by decide +kernel⟩
def spPick : Sp := fun vs H Q _ => ∃ (a : Addr) (m x y : Int), vs = [.ref a, .int m] ∧ H a = some (.lst [.int x, .int y]) ∧ 0 ≤ y ∧ y < 1099511627776 ∧ 0 < m ∧ m < 1000000 ∧
  ∀ r x' y', 0 ≤ r → r < m → 0 ≤ y' → y' < 1099511627776 → Q (.int r) (upd H a (.lst [.int x', .int y']))
theorem ok_pick (F : FunD K "_law_pick" "_law_pick" (defArgs EW.s__law_pick) (defBody EW.s__law_pick) (defScope EW.s__law_pick) [] [] f fd) (n_int : mg "int" = none) : FnOk P w K mg base CX0 1 f fd ["_law_source_here", "_law_many"] spPick := by
  refine F.ok sc_pick (fun vs H Q E h => ?_) ?_
  · obtain ⟨a, m, x, y, rfl, _⟩ := h; rfl
  intro cdv A outer s H vs Q E hr h
  have B : PSs (cxOf CX0 P w K mg base ["_law_source_here", "_law_many", "_law_found"] "_law_pick" (defScope EW.s__law_pick) f cdv A outer s H E).nox (defBody EW.s__law_pick) _ :=
    pss_cons (ps_if (pt_cmp (pc_gt (pe_ix ix_seq (pv 0) pe_int (fun _ _ => rfl)) pe_int))
      (pss_cons (ps_set (i := 2) sc_pick.nd rfl (Or.inl rfl) (pe_op op_mod (pe_callTy call_int1 (by rfl) n_int PyProof.Rows.boot_int (pa_cons (pe_ix ix_seq (pv 0) pe_int (fun _ _ => rfl)) pa_nil)) (pv 1)))
      (pss_cons (ps_asg (pe_op op_fdiv (pe_callTy call_int1 (by rfl) n_int PyProof.Rows.boot_int (pa_cons (pe_ix ix_seq (pv 0) pe_int (fun _ _ => rfl)) pa_nil)) (pv 1)) (pg_sub (pv 0) pe_int set_list))
      (pss_one (ps_ret (pv 2))))) pss_nil)
    (pss_cons (ps_asg (pe_op op_mod (pe_callTy call_int1 (by rfl) n_int PyProof.Rows.boot_int (pa_cons (pe_op op_add (pe_op op_mul (pe_ix ix_seq (pv 0) pe_int (fun _ _ => rfl)) pe_int) pe_int) pa_nil)) pe_int) (pg_sub (pv 0) pe_int set_list))
    (pss_one (ps_ret (pe_op op_mod (pe_op op_fdiv (pe_op op_mod (pe_callTy call_int1 (by rfl) n_int PyProof.Rows.boot_int (pa_cons (pe_op op_mul (pe_ix ix_seq (pv 0) pe_int (fun _ _ => rfl)) (pe_ix ix_seq (pv 0) pe_int (fun _ _ => rfl))) pa_nil)) pe_int) pe_int) (pv 1)))))
  refine ⟨_, PSs.nox B, ?_⟩
  obtain ⟨a, m, x, y, rfl, ha, y0, y1, m0, m1, q⟩ := h
  clear B
  refine ei_ix (i := x) rfl ha rfl _ ⟨x, 0, rfl, rfl, _, rfl, ?_⟩
  show if decide (0 < x) = true then _ else _
  by_cases hx : decide ((0 : Int) < x) = true
  · rw [if_pos hx]
    refine ei_rI (ei_int (ei_ix (i := x) rfl ha rfl)) (ei_var (i := m) rfl) m0 rfl _ ?_
    refine ei_rI (ei_int (ei_ix (i := x) rfl ha rfl)) (ei_var (i := m) rfl) ⟨m0, by omega⟩ rfl _ ?_
    refine ⟨V.ref a, rfl, ⟨a, [V.int x, V.int y], 0, 0, rfl, rfl, ha, rfl, V.int (x % m), rfl, ?_⟩⟩
    exact q _ _ y (Int.emod_nonneg _ (by omega)) (Int.emod_lt_of_pos _ m0) y0 y1
  · rw [if_neg hx]
    refine ei_rI (ei_int (ei_rI0 (ei_rI (ei_ix (i := y) rfl ha rfl) ei_c (.inr ⟨by decide, by decide⟩) rfl) ei_c rfl)) ei_c (by decide) rfl _ ?_
    have b : 0 ≤ (y * 44497 + 9973) % 2147483647 ∧ (y * 44497 + 9973) % 2147483647 < 2147483647 := ⟨Int.emod_nonneg _ (by decide), Int.emod_lt_of_pos _ (by decide)⟩
    generalize (y * 44497 + 9973) % 2147483647 = z at b
    refine ⟨V.ref a, rfl, ⟨a, [V.int x, V.int y], 1, 1, rfl, rfl, ha, rfl, ?_⟩⟩
    have ha' : upd H a (.lst [V.int x, V.int z]) a = some (.lst [V.int x, V.int z]) := upd_same
    refine ei_rI (i := z * z % 2147483399 / 11) (j := m) (k := z * z % 2147483399 / 11 % m) (ei_rI (i := z * z % 2147483399) (j := 11) (ei_rI (i := z * z) (j := 2147483399) (ei_int (ei_rI (i := z) (j := z) (ei_ix (i := z) rfl ha' rfl) (ei_ix (i := z) rfl ha' rfl) ?_ rfl)) ei_c ?_ rfl) ei_c ?_ rfl) (ei_var (i := m) rfl) m0 rfl _ ?_
    · exact .inr ⟨by omega, by omega⟩
    · exact (by decide : (0 : Int) < 2147483399)
    · exact (⟨by decide, by decide⟩ : (0 : Int) < 11 ∧ (11 : Int) < 1073741824)
    exact q _ x z (Int.emod_nonneg _ (by omega)) (Int.emod_lt_of_pos _ m0) b.1 (by omega)
end
end Ev

set_option Elab.async false
set_option linter.all false
set_option autoImplicit false
set_option maxRecDepth 100000
set_option maxHeartbeats 4000000
/-! Ev17: what is drawn: all outcomes -/
namespace Ev
open PySem PySem.Spec L2
def eVarR (i : Nat) : Env → Option C := fun env => match look env i with
  | some (.raw v) => some (.raw v)
  | _ => none
theorem r_varR {X : Cx} {pos : Pos} (i : Nat) {x : Str} (h : PE X (.Name x pos) (tVar i)) : REC X (.Name x pos) (eVarR i) := by
  refine peI h fun σ H Q ⟨O, own, env, d, E, e, q⟩ => ?_
  unfold eVarR at e
  split at e
  · rename_i v hv
    cases e
    rcases E.val i _ (look_some hv) with ⟨u, e2, r⟩ | ⟨_, _, _, z, _⟩ | ⟨_, _, _, z, _⟩
    · exact ⟨u, e2, q u H (Same.refl H) r⟩
    · cases z
    · cases z
  · cases e
def Bnd (H : Hp) (a : Addr) : Prop := ∃ x y : Int, H a = some (.lst [.int x, .int y]) ∧ 0 ≤ y ∧ y < 1099511627776
def DNext (w : W2) (a : Addr) (H H' : Hp) : Prop := Sub (Ev.hid (fun b => b = a) H) H' ∧ Bnd H' a ∧ (TB w H → TB w H')
theorem Bnd.same {a : Addr} {H H' : Hp} (h : Bnd H a) (k : Sub H H') : Bnd H' a := let ⟨x, y, e, b⟩ := h; ⟨x, y, k.ap e, b⟩
theorem DNext.trans {w : W2} {a : Addr} {H H1 H2 : Hp} (h : DNext w a H H1) (k : DNext w a H1 H2) : DNext w a H H2 := ⟨(h.1.toHid fun b o e z => (hid_some.mp e).2 z).trans k.1, k.2.1, fun z => k.2.2 (h.2.2 z)⟩
theorem DNext.same {w : W2} {a : Addr} {H H1 H2 : Hp} (h : DNext w a H H1) (k : Same w H1 H2) : DNext w a H H2 := ⟨h.1.trans k.sub, h.2.1.same k.sub, fun z => k.tab (h.2.2 z)⟩
theorem DNext.of {w : W2} {a : Addr} {H H1 : Hp} (b : Bnd H a) (k : Same w H H1) : DNext w a H H1 := ⟨hid_le.trans k.sub, b.same k.sub, k.tab⟩
theorem DNext.hid {w : W2} {a : Addr} {H H' : Hp} {O : Addr → Prop} (h : DNext w a H H') (ha : O a) : Sub (Ev.hid O H) (Ev.hid O H') :=
  (Sub.trans (hid_anti fun b z => (z : b = a) ▸ ha) h.1).toHid fun b o e z => (hid_some.mp e).2 z
theorem DNext.ap {w : W2} {a b : Addr} {H H' : Hp} {o : HO} (h : DNext w a H H') (n : b ≠ a) (e : H b = some o) [NT o] : H' b = some o := h.1.ap (hid_some.mpr ⟨e, n⟩)
theorem DNext.live {w : W2} {a b : Addr} {H H' : Hp} (h : DNext w a H H') (e : ∃ o, H b = some o) : ∃ o, H' b = some o := by
  by_cases q : b = a
  · subst q; obtain ⟨x, y, e, _⟩ := h.2.1; exact ⟨_, e⟩
  · obtain ⟨o, e⟩ := e; exact h.1.live b ⟨o, hid_some.mpr ⟨e, q⟩⟩
structure DOk (w : W2) (a : Addr) (H0 : Hp) (B O : Addr → Prop) (own : Nat → Option Addr) (H : Hp) (σ : St) (env : Env) : Prop where
  E : EnvOk w O own H σ env
  b1 : ∀ b, B b → O b
  b2 : ∀ i b, own i = some b → ¬ B b
  b3 : ∀ b, O b → B b ∨ H0 b = none
  base : Sub H0 H
  ina : B a
  h0a : H0 a = none
  bnd : Bnd H a
section
variable {w : W2} {a : Addr} {H0 H H' : Hp} {B O : Addr → Prop} {own : Nat → Option Addr} {σ : St} {env : Env}
theorem DOk.next (h : DOk w a H0 B O own H σ env) (n : DNext w a H H') : DOk w a H0 B O own H' σ env where
  E := {
    tab := n.2.2 h.E.tab
    len := h.E.len
    there := fun b hb => n.live (h.E.there b hb)
    inO := h.E.inO
    inj := h.E.inj
    val := fun i c e => by
      have kk := n.hid (O := O) (h.b1 a h.ina)
      have na : ∀ {j b}, own j = some b → b ≠ a := fun {j b} ho z => h.b2 j b ho (z ▸ h.ina)
      rcases h.E.val i c e with ⟨v, e1, r⟩ | ⟨b, xs, ds, e1, e2, e3, e4, r⟩ | ⟨b, ks, kvs, e1, e2, e3, ⟨ep, e4⟩, r⟩
      · exact .inl ⟨v, e1, r.mono kk⟩
      · exact .inr (.inl ⟨b, xs, ds, e1, e2, e3, n.ap (na e2) e4, r.mono kk⟩)
      · exact .inr (.inr ⟨b, ks, kvs, e1, e2, e3, ⟨ep, n.ap (na e2) e4⟩, r.mono kk⟩) }
  b1 := h.b1
  b2 := h.b2
  b3 := h.b3
  base := (h.base.toHid fun b o e z => by rw [z, h.h0a] at e; cases e).trans n.1
  ina := h.ina
  h0a := h.h0a
  bnd := n.2.1
theorem DOk.set (h : DOk w a H0 B O own H σ env) (i : Nat) {v : V} {c : C} (r : RpC w (hid O H) v c) : DOk w a H0 B O own H (σ.set i (some v)) (env.set i (some c)) :=
  ⟨h.E.set i r, h.b1, h.b2, h.b3, h.base, h.ina, h.h0a, h.bnd⟩
theorem near2 {w : W2} {H0 H : Hp} {B O : Addr → Prop} {own : Nat → Option Addr} {σ : St} {env : Env} (E : EnvOk w O own H σ env) (b1 : ∀ a, B a → O a) (b2 : ∀ i a, own i = some a → ¬ B a) (b3 : ∀ a, O a → B a ∨ H0 a = none) (base : Sub H0 H) :
    ∃ Hb, (∀ b, B b → Hb b = H b) ∧ SOk w Hb B H σ env ∧ (∀ H' σ' env', SOk w Hb B H' σ' env' → SOk w H0 B H' σ' env') ∧ Sub H0 Hb ∧
    ∀ H' σ' env', SOk w Hb B H' σ' env' → ∃ O' own', EnvOk w O' own' H' σ' env' ∧ (∀ a, B a → O' a) ∧ (∀ i a, own' i = some a → ¬ B a) ∧ (∀ a, O' a → B a ∨ Hb a = none) ∧ Sub Hb H' ∧ Sub (hid O H) (hid O' H') := by
  have s1 : Sub (hid (fun a => O a ∧ ¬ B a) H) H := hid_le
  have s0 : Sub H0 (hid (fun a => O a ∧ ¬ B a) H) := base.toHid fun a o e z => (b3 a z.1).elim z.2 fun q => by rw [q] at e; cases e
  refine ⟨hid (fun a => O a ∧ ¬ B a) H, fun b hb => by unfold hid; rw [if_neg (fun z => z.2 hb)], ⟨⟨O, own, E, b1, b2, fun a z => ?_⟩, s1⟩, fun H' σ' env' S' => ?_, s0, fun H' σ' env' S' => ?_⟩
  · by_cases hb : B a
    · exact .inl hb
    · right
      cases q : hid (fun a => O a ∧ ¬ B a) H a with
      | none => rfl
      | some o => exact absurd ⟨z, hb⟩ (hid_some.mp q).2
  · obtain ⟨⟨O', own', E', c1, c2, c3⟩, base'⟩ := S'
    exact ⟨⟨O', own', E', c1, c2, fun a z => (c3 a z).imp id fun q => s0.free q⟩, s0.trans base'⟩
  · obtain ⟨⟨O', own', E', c1, c2, c3⟩, base'⟩ := S'
    refine ⟨O', own', E', c1, c2, c3, base', (Sub.trans (hid_anti fun a z => z.1) base').toHid fun a o e z => ?_⟩
    obtain ⟨h1, h2⟩ := hid_some.mp e
    have h3 : hid (fun a => O a ∧ ¬ B a) H a = some o := hid_some.mpr ⟨h1, fun z => h2 z.1⟩
    rcases c3 a z with q | q
    · exact h2 (b1 a q)
    · rw [q] at h3; cases h3
/-- a pure statement -/
theorem DOk.run (h : DOk w a H0 B O own H σ env) {T : Env → Option Out} {out : Out} {D : Ends} (e : T env = some out)
    (hn : ∀ env' σ' H' O' own', out = .nx env' → DOk w a H0 B O' own' H' σ' env' → D.nx σ' H') (hr : ∀ c v H', out = .rt c → Sub H0 H' → Bnd H' a → TB w H' → RpC w (hid B H') v c → D.rt v H') : tS w T D σ H := by
  obtain ⟨Hb, hb, Sb, back, s0, nr⟩ := near2 h.E h.b1 h.b2 h.b3 h.base
  have ba : Bnd Hb a := by
    obtain ⟨x, y, e, b⟩ := h.bnd
    exact ⟨x, y, by rw [hb a h.ina]; exact e, b⟩
  refine ⟨Hb, B, env, out, Sb, e, fun env' σ' H' eo S' => ?_, fun c v H' eo k t r => hr c v H' eo (s0.trans k) (ba.same k) t r⟩
  obtain ⟨O', own', E', c1, c2, c3, base', _⟩ := nr H' σ' env' S'
  exact hn env' σ' H' O' own' eo ⟨E', c1, c2, fun b z => (c3 b z).imp id s0.free, s0.trans base', h.ina, h.h0a, ba.same base'⟩
end
/-! ### expressions that draw -/
/-- all that may come; i: the slot of the source -/
def tDr (w : W2) (i : Nat) (F : Env → Option (List D)) : TE := fun σ H Q => ∃ a H0 B O own env S, DOk w a H0 B O own H σ env ∧ look env i = some (.raw (.ref a)) ∧ F env = some S ∧ ∀ d ∈ S, ∀ v H', DNext w a H H' → Rp (hid O H') v d → Q v H'
def RDr (X : Cx) (i : Nat) (e : Expr) (F : Env → Option (List D)) : Prop := PE X e (tDr (wX X) i F)
def dPure (f : Env → Option D) : Env → Option (List D) := fun env => match f env with
  | some d => some [d]
  | none => none
def mapO (g : D → Option D) : List D → Option (List D)
  | [] => some []
  | d :: r => match g d with
    | some x => match mapO g r with
      | some xs => some (x :: xs)
      | none => none
    | none => none
theorem mapO_mem {g : D → Option D} : ∀ {ds S : List D}, mapO g ds = some S → ∀ d ∈ ds, ∃ x ∈ S, g d = some x
  | [], S, h, d, m => nomatch m
  | e :: r, S, h, d, m => by
    unfold mapO at h
    split at h
    · rename_i x hx
      split at h
      · rename_i xs hxs
        cases h
        rcases List.mem_cons.mp m with z | z
        · subst z; exact ⟨x, List.mem_cons_self, hx⟩
        · obtain ⟨y, h1, h2⟩ := mapO_mem hxs d z
          exact ⟨y, List.mem_cons_of_mem _ h1, h2⟩
      · cases h
    · cases h
def bindO (g : D → Option (List D)) : List D → Option (List D)
  | [] => some []
  | d :: r => match g d with
    | some x => match bindO g r with
      | some xs => some (x ++ xs)
      | none => none
    | none => none
theorem bindO_mem {g : D → Option (List D)} : ∀ {ds S : List D}, bindO g ds = some S → ∀ d ∈ ds, ∃ T, g d = some T ∧ ∀ x ∈ T, x ∈ S
  | [], S, h, d, m => nomatch m
  | e :: r, S, h, d, m => by
    unfold bindO at h
    split at h
    · rename_i x hx
      split at h
      · rename_i xs hxs
        cases h
        rcases List.mem_cons.mp m with z | z
        · subst z; exact ⟨x, hx, fun y hy => List.mem_append_left _ hy⟩
        · obtain ⟨T, h1, h2⟩ := bindO_mem hxs d z
          exact ⟨T, h1, fun y hy => List.mem_append_right _ (h2 y hy)⟩
      · cases h
    · cases h
def dMap (g : D → Option D) (F : Env → Option (List D)) : Env → Option (List D) := fun env => match F env with
  | some ds => mapO g ds
  | none => none
def dBin (g : D → D → Option D) (F1 F2 : Env → Option (List D)) : Env → Option (List D) := fun env => match F1 env with
  | some ds => match F2 env with
    | some es => bindO (fun d => mapO (g d) es) ds
    | none => none
  | none => none
theorem dBin_mem {g : D → D → Option D} {F1 F2 : Env → Option (List D)} {env : Env} {S : List D} (h : dBin g F1 F2 env = some S) : ∃ ds es, F1 env = some ds ∧ F2 env = some es ∧ ∀ d ∈ ds, ∀ e ∈ es, ∃ x ∈ S, g d e = some x := by
  unfold dBin at h
  split at h
  · rename_i ds h1
    split at h
    · rename_i es h2
      refine ⟨ds, es, h1, h2, fun d hd e he => ?_⟩
      obtain ⟨T, h3, h4⟩ := bindO_mem h d hd
      obtain ⟨x, h5, h6⟩ := mapO_mem h3 e he
      exact ⟨x, h4 x h5, h6⟩
    · cases h
  · cases h
section
variable {X : Cx} {pos p : Pos} {i : Nat} {e a b : Expr} {es : List Expr} {f : Env → Option D} {F F1 F2 : Env → Option (List D)}
theorem rd_pure (h : RE X e f) : RDr X i e (dPure f) := by
  refine peI h fun σ H Q ⟨a, H0, B, O, own, env, S, dk, sl, e, q⟩ => ?_
  unfold dPure at e
  split at e
  · rename_i d hd
    cases e
    exact ⟨O, own, env, d, dk.E, hd, fun v H' k r => q d List.mem_cons_self v H' (DNext.of dk.bnd k) r⟩
  · cases e
theorem rd_bin {op : Operator} {g : D → D → Option D} (ho : Op2 X (binaryOp op) g) (ha : RDr X i a F1) (hb : RDr X i b F2) : RDr X i (.BinOp a op b pos) (dBin g F1 F2) := by
  refine peI (pe_op ho ha hb) fun σ H Q ⟨a, H0, B, O, own, env, S, dk, sl, e, q⟩ => ?_
  obtain ⟨ds, es, h1, h2, h3⟩ := dBin_mem e
  refine ⟨a, H0, B, O, own, env, ds, dk, sl, h1, fun d hd v1 H1 n1 r1 => ⟨a, H0, B, O, own, env, es, dk.next n1, sl, h2, fun d2 hd2 v2 H2 n2 r2 => ?_⟩⟩
  obtain ⟨x, hx, hg⟩ := h3 d hd d2 hd2
  exact ⟨O, d, d2, x, r1.mono (n2.hid (dk.b1 a dk.ina)), r2, hg, ((dk.next n1).next n2).E.there, fun v H' k r => q x hx v H' ((n1.trans n2).same k) r⟩
def catD (d e : D) : Option D := match d with
  | .lst xs => match e with
    | .lst ys => match short (xs ++ ys) 1000 with
      | true => some (.lst (xs ++ ys))
      | false => none
    | _ => none
  | _ => none
theorem rd_catL (ha : RDr X i a F1) (hb : RDr X i b F2) : RDr X i (.BinOp a .Add b pos) (dBin catD F1 F2) := by
  refine peI (pe_op op_cat ha hb) fun σ H Q ⟨a, H0, B, O, own, env, S, dk, sl, e, q⟩ => ?_
  obtain ⟨ds, es, h1, h2, h3⟩ := dBin_mem e
  refine ⟨a, H0, B, O, own, env, ds, dk, sl, h1, fun d hd v1 H1 n1 r1 => ⟨a, H0, B, O, own, env, es, dk.next n1, sl, h2, fun d2 hd2 v2 H2 n2 r2 => ?_⟩⟩
  obtain ⟨x, hx, hg⟩ := h3 d hd d2 hd2
  have r1' := r1.mono (n2.hid (dk.b1 a dk.ina))
  have th := ((dk.next n1).next n2).E.there
  unfold catD at hg
  split at hg
  · split at hg
    · split at hg
      · rename_i hs
        cases hg
        cases r1' with
        | @lst p1 xs _ e1 r1' => cases r2 with
          | @lst p2 ys _ e2 r2 =>
            have hl : xs.length + ys.length ≤ sizeLine := by
              have := short_line hs
              rw [List.length_append] at this
              rw [r1'.length, r2.length]
              omega
            exact ⟨p1, p2, xs, ys, rfl, rfl, hid_ap e1, hid_ap e2, hl, fun p hp => q _ hx _ _ ((n1.trans n2).same (Same.upd hp)) (Rp.newL hp (fresh_of th hp) (r1'.append r2))⟩
      · cases hg
    · cases hg
  · cases hg
theorem rd_b1 {id : String} {x : Str} {g : D → Option D} (hc : Call1 X (.builtin id) g) (hg : Gl X x) (hm : X.mg x = none) (hv : bootBuiltins x = some (.builtin id)) (ha : RDr X i e F) (hn : x ≠ "__name__" := by decide) (hdb : (x == ("__debug__" : Str)) = false := by decide)
    (he : starEach [e] X.env = (false, eval e X.env) :: starEach [] X.env := by rfl) : RDr X i (.Call (.Name x p) [e] [] pos) (dMap g F) := by
  refine peI (pe_callB hc hg hm hv (pa_cons ha pa_nil he) hn hdb he rfl) fun σ H Q ⟨a, H0, B, O, own, env, S, dk, sl, e, q⟩ => ?_
  unfold dMap at e
  split at e
  · rename_i ds h1
    refine ⟨a, H0, B, O, own, env, ds, dk, sl, h1, fun d hd v1 H1 n1 r1 => ?_⟩
    obtain ⟨x, hx, hg⟩ := mapO_mem e d hd
    exact ⟨O, v1, d, x, rfl, r1, hg, (dk.next n1).E.there, fun u H2 k2 ru => q x hx u H2 (n1.same k2) ru⟩
  · cases e
theorem rd_ty1 {T : String} {x : Str} {g : D → Option D} (hc : Call1 X (.type T) g) (hg : Gl X x) (hm : X.mg x = none) (hv : bootBuiltins x = some (.type T)) (ha : RDr X i e F) (hn : x ≠ "__name__" := by decide) (hdb : (x == ("__debug__" : Str)) = false := by decide)
    (he : starEach [e] X.env = (false, eval e X.env) :: starEach [] X.env := by rfl) : RDr X i (.Call (.Name x p) [e] [] pos) (dMap g F) := by
  refine peI (pe_callTy hc hg hm hv (pa_cons ha pa_nil he) hn hdb he rfl) fun σ H Q ⟨a, H0, B, O, own, env, S, dk, sl, e, q⟩ => ?_
  unfold dMap at e
  split at e
  · rename_i ds h1
    refine ⟨a, H0, B, O, own, env, ds, dk, sl, h1, fun d hd v1 H1 n1 r1 => ?_⟩
    obtain ⟨x, hx, hg⟩ := mapO_mem e d hd
    exact ⟨O, v1, d, x, rfl, r1, hg, (dk.next n1).E.there, fun u H2 k2 ru => q x hx u H2 (n1.same k2) ru⟩
  · cases e
/-- (e, what is drawn) -/
def dPair (f : Env → Option D) (F : Env → Option (List D)) : Env → Option (List D) := fun env => match f env with
  | some d => match F env with
    | some ds => mapO (fun e => some (.tup [d, e])) ds
    | none => none
  | none => none
theorem rd_pair {k : Nat} (ha : RE X a f) (hb : RDr X i b F) (hs : starEach [a, b] X.env = (false, eval a X.env) :: starEach [b] X.env := by rfl) (hs2 : starEach [b] X.env = (false, eval b X.env) :: starEach [] X.env := by rfl) : RDr X i (.Tuple [a, b] k pos) (dPair f F) := by
  refine peI (pe_tup (pa_cons ha (pa_cons hb pa_nil hs2) hs)) fun σ H Q ⟨a, H0, B, O, own, env, S, dk, sl, e, q⟩ => ?_
  unfold dPair at e
  split at e
  · rename_i d h1
    split at e
    · rename_i ds h2
      refine ⟨O, own, env, d, dk.E, h1, fun v1 H1 k1 r1 => ?_⟩
      have n1 := DNext.of dk.bnd k1
      refine ⟨a, H0, B, O, own, env, ds, dk.next n1, sl, h2, fun d2 hd2 v2 H2 n2 r2 => ?_⟩
      obtain ⟨x, hx, hg⟩ := mapO_mem e d2 hd2
      cases hg
      refine ⟨by rw [sizeLine_eq]; exact (by decide : 2 ≤ 16777216), fun p hp => q _ hx _ _ ((n1.trans n2).same (Same.upd hp)) ?_⟩
      exact Rp.newT hp (fresh_of ((dk.next n1).next n2).E.there hp) (.cons (r1.mono (n2.hid (dk.b1 a dk.ina))) (.cons r2 .nil))
    · cases e
  · cases e
/-- a pick -/
def dPick (f : Env → Option D) : Env → Option (List D) := fun env => match f env with
  | some (.int m) => match ilt 0 m with
    | true => match ilt m 1000000 with
      | true => some (rangeD 0 (natOf m))
      | false => none
    | false => none
  | _ => none
theorem rangeD_mem : ∀ (n : Nat) (lo r : Int), lo ≤ r → r < lo + n → D.int r ∈ rangeD lo n
  | 0, lo, r, h1, h2 => by omega
  | n + 1, lo, r, h1, h2 => by
    rw [rangeD]
    by_cases h : r = lo
    · rw [h]; exact List.mem_cons_self
    · refine List.mem_cons_of_mem _ (rangeD_mem n _ r ?_ ?_)
      · rw [iadd_eq]; omega
      · rw [iadd_eq]; push_cast at h2; omega
theorem rd_pick {k : Nat} {fa : Addr} {fd : FuncData} {x y : Str} {py : Pos} {m : Expr} (G : FnOk X.prog X.w X.K X.mg X.base CX0 k fa fd ["_law_source_here", "_law_many"] spPick) (hr : Room k X.A) (hg : Gl X x) (hm : X.mg x = some (.ref fa)) (hk : PySem.W.keepIn X.K (.ref fa) = true) (hb : Binds X.K fd ["_law_source_here", "_law_many"] [])
    (hs : PE X (.Name y py) (tVar i)) (hf : RE X m f) (hdb : (x == ("__debug__" : Str)) = false := by decide) (he : starEach [.Name y py, m] X.env = (false, eval (.Name y py) X.env) :: starEach [m] X.env := by rfl) (he2 : starEach [m] X.env = (false, eval m X.env) :: starEach [] X.env := by rfl) (hpl : (backTo pos (starEach [m] X.env)).any (·.1) = false := by rfl) :
    RDr X i (.Call (.Name x p) [.Name y py, m] [] pos) (dPick f) := by
  refine peI (pe_call G hr hg hm hk hb .nil pass0 (pa_cons (r_varR i hs) (pa_cons hf pa_nil he2) he) hdb he hpl) fun σ H Q ⟨a, H0, B, O, own, env, S, dk, sl, e, q⟩ => ?_
  unfold dPick at e
  split at e
  · rename_i n h1
    split at e
    · rename_i h2
      split at e
      · rename_i h3
        cases e
        rw [ilt_eq] at h2 h3
        have h2 := of_decide_eq_true h2
        have h3 := of_decide_eq_true h3
        refine ⟨O, own, env, .raw (.ref a), dk.E, by unfold eVarR; rw [sl], fun v1 H1 k1 r1 => ⟨O, own, env, _, dk.E.mono k1, h1, fun v2 H2 k2 r2 => ?_⟩⟩
        cases r1
        cases r2
        have k12 := k1.trans k2
        obtain ⟨x, y, ex, y0, y1⟩ := dk.bnd.same k12.sub
        show spPick ([V.ref a, V.int n] ++ []) H2 Q E0
        refine ⟨a, n, x, y, rfl, ex, y0, y1, h2, h3, fun r x' y' r0 r1 y0' y1' => q (.int r) (rangeD_mem _ _ _ r0 ?_) _ _ ⟨(hid_le.trans k12.sub).updN (by unfold Ev.hid; rw [if_pos rfl]), ⟨x', y', upd_same, y0', y1'⟩, fun z => (k12.tab z).upd (Fr.lst ex)⟩ (.int r)⟩
        · rw [natOf_eq]; omega
      · cases e
    · cases e
  · cases e
/-- a def that draws: the source first -/
def spDr (w : W2) (F : List C → Option (List D)) (n : Nat) : Sp := fun vs H Q _ => vs.length = n + 1 ∧ ∃ a O vs' cs S, vs = .ref a :: vs' ∧ RpCA w (hid O H) vs' cs ∧ F (.raw (.ref a) :: cs) = some S ∧ O a ∧ (∀ b, O b → ∃ o, H b = some o) ∧ Bnd H a ∧ TB w H ∧ ∀ d ∈ S, ∀ v H', DNext w a H H' → Rp (hid O H') v d → Q v H'
def dCall (F : List C → Option (List D)) (i : Nat) (g : Env → Option (List C)) : Env → Option (List D) := fun env => match look env i with
  | some (.raw v) => match g env with
    | some cs => F (.raw v :: cs)
    | none => none
  | _ => none
theorem rd_call {k n : Nat} {fa : Addr} {fd : FuncData} {ps : List Str} {x y : Str} {py : Pos} {G' : List C → Option (List D)} {g : Env → Option (List C)} (G : FnOk X.prog X.w X.K X.mg X.base CX0 k fa fd ps (spDr (wX X) G' n)) (hn : ∀ cs S, G' cs = some S → cs.length = n + 1) (hr : Room k X.A) (hg : Gl X x) (hm : X.mg x = some (.ref fa)) (hk : PySem.W.keepIn X.K (.ref fa) = true) (hb : Binds X.K fd ps [])
    (hs : PE X (.Name y py) (tVar i)) (ha : RA X es g) (hdb : (x == ("__debug__" : Str)) = false := by decide) (he : starEach (.Name y py :: es) X.env = (false, eval (.Name y py) X.env) :: starEach es X.env := by rfl) (hpl : (backTo pos (starEach es X.env)).any (·.1) = false := by rfl) :
    RDr X i (.Call (.Name x p) (.Name y py :: es) [] pos) (dCall G' i g) := by
  refine peI (pe_call G hr hg hm hk hb .nil pass0 (pa_cons (r_varR i hs) ha he) hdb he hpl) fun σ H Q ⟨a, H0, B, O, own, env, S, dk, sl, e, q⟩ => ?_
  unfold dCall at e
  rw [sl] at e
  dsimp only at e
  split at e
  · rename_i cs h1
    refine ⟨O, own, env, .raw (.ref a), dk.E, by unfold eVarR; rw [sl], fun v1 H1 k1 r1 => ⟨O, own, env, cs, dk.E.mono k1, h1, fun vs H2 k2 r2 => ?_⟩⟩
    cases r1
    have k12 := k1.trans k2
    show spDr (wX X) G' n (V.ref a :: vs ++ []) H2 Q E0
    rw [List.append_nil]
    refine ⟨?_, a, O, vs, cs, S, rfl, r2, e, dk.b1 a dk.ina, (dk.E.mono k12).there, dk.bnd.same k12.sub, (dk.E.mono k12).tab, fun d hd v H' n r => q d hd v H' ⟨(hid_mono k12).trans n.1, n.2.1, fun z => n.2.2 (k12.tab z)⟩ r⟩
    have := hn _ _ e
    rw [List.length_cons] at this ⊢
    have h3 := r2.length
    omega
  · cases e
end
end Ev

set_option Elab.async false
set_option linter.all false
set_option autoImplicit false
set_option maxRecDepth 100000
set_option maxHeartbeats 4000000
/-! Ev18: the cuttings that may be drawn -/
namespace Ev
open PySem PySem.Spec L2
def Tc1 : Env → Option Out := sIf (c2 gLt (e2 oSub (eVar 2) (eVar 1)) (eInt 2)) (sRet (eLst aNil)) sNil
def Tc3 : Env → Option Out := sFor (itT (eTup (aCons (eToC (eTup (aCons (eToC (eVar 1)) (aCons (eToC (eVar 3)) aNil)))) (aCons (eToC (eTup (aCons (eToC (eVar 3)) (aCons (eToC (eVar 2)) aNil)))) aNil)))) (gSet 5)
  (sAsg (eToC (eCatL (eVarL 4) (eToL (eIf (c2 gGt (e2 oSub (e2 gIx (eVar 5) (eInt 1)) (e2 gIx (eVar 5) (eInt 0))) (eInt 1)) (eLst (aCons (eToC (eVar 5)) aNil)) (eLst aNil))))) (gSet 4))
def dMid : Env → Option (List D) := dBin oAdd (dPure (e2 oAdd (eVar 1) (eInt 1))) (dPick (e2 oSub (e2 oSub (eVar 2) (eVar 1)) (eInt 1)))
def dRet (G : List C → Option (List D)) : Env → Option (List D) := dBin catD (dBin catD (dPure (eVar 4)) (dCall G 0 (aCons (eToC (eVar 1)) (aCons (eToC (eVar 3)) aNil)))) (dCall G 0 (aCons (eToC (eVar 3)) (aCons (eToC (eVar 2)) aNil)))
def stepC (G : List C → Option (List D)) : List C → Option (List D) := fun cs => match lenIs cs 3 with
  | true => match Tc1 (env0 cs 3) with
    | some (.rt (.d d)) => some [d]
    | some (.nx env) => match dMid env with
      | some ms => bindO (fun mid => match Tc3 ((env.set 3 (some (.d mid))).set 4 (some (.d (.lst [])))) with
        | some (.nx env') => dRet G env'
        | _ => none) ms
      | none => none
    | _ => none
  | false => none
def itC : Nat → List C → Option (List D)
  | 0 => fun _ => none
  | n + 1 => stepC (itC n)
theorem itC_len : ∀ (n : Nat) (cs : List C) (S : List D), itC n cs = some S → cs.length = 2 + 1
  | 0, cs, S, h => nomatch h
  | n + 1, cs, S, h => by
    unfold itC stepC at h
    split at h
    · rename_i h1; exact lenIs_ok h1
    · cases h
theorem Tc1_nx {env env' : Env} (h : Tc1 env = some (.nx env')) : env' = env := by
  unfold Tc1 sIf at h
  split at h
  · unfold sRet at h
    split at h <;> cases h
  · unfold sNil at h; cases h; rfl
  · cases h
theorem look_set {env : Env} {i j : Nat} {o : Option C} (h : i ≠ j) : look (env.set j o) i = look env i := by
  induction env generalizing i j with
  | nil => rfl
  | cons x r ih =>
    cases j with
    | zero => cases i with | zero => exact absurd rfl h | succ i => rfl
    | succ j => cases i with | zero => rfl | succ i => exact ih fun e => h (by rw [e])
theorem forGo_look {i : Nat} {g : C → Env → Option Env} {b : Env → Option Out} (hg : ∀ c env env', g c env = some env' → look env' i = look env i) (hb : ∀ env env', b env = some (.nx env') → look env' i = look env i) : ∀ (ds : List D) (env env' : Env), forGo g b ds env = some (.nx env') → look env' i = look env i
  | [], env, env', h => by cases h; rfl
  | d :: r, env, env', h => by
    unfold forGo at h
    split at h
    · rename_i e1 h1
      split at h
      · rename_i e2 h2
        rw [forGo_look hg hb r e2 env' h, hb _ _ h2, hg _ _ _ h1]
      · cases h
      · cases h
    · cases h
theorem Tc3_nx {env env' : Env} (h : Tc3 env = some (.nx env')) : look env' 0 = look env 0 := by
  unfold Tc3 sFor at h
  split at h
  · refine forGo_look (fun c e e' h => ?_) (fun e e' h => ?_) _ _ _ h
    · cases h; exact look_set (by decide)
    · unfold sAsg at h
      split at h
      · split at h
        · rename_i h2
          cases h
          cases h2
          exact look_set (by decide)
        · cases h
      · cases h
  · cases h
theorem env_start {w : W2} {O : Addr → Prop} {H : Hp} {vs : List V} {cs : List C} {N : List Str} {more : Nat} (rv : RpCA w (hid O H) vs cs) (th : ∀ a, O a → ∃ o, H a = some o) (tb : TB w H) (hN : N.length = cs.length + more) : EnvOk w O (fun _ => none) H (L2.start N vs) (env0 cs more) := by
  have hlc := rv.length
  rw [env0_eq]
  unfold L2.start
  refine ⟨by simp only [List.length_append, List.length_map, List.length_replicate]; omega, th, (fun i a z => nomatch z), (fun i j a z => nomatch z), fun i c z => .inl ?_, tb⟩
  by_cases hi : i < cs.length
  · rw [List.getElem?_append_left (by simpa using hi), List.getElem?_map] at z
    have z' : cs[i]? = some c := by
      cases hc : cs[i]? with
      | none => rw [hc] at z; cases z
      | some c' => rw [hc] at z; cases z; rfl
    obtain ⟨v, e1, r1⟩ := rv.get z'
    refine ⟨v, ?_, r1⟩
    rw [List.getElem?_append_left (by simp only [List.length_map]; omega), List.getElem?_map, e1]
    rfl
  · rw [List.getElem?_append_right (by simpa using hi), List.getElem?_replicate] at z
    split at z <;> cases z
theorem DOk.start {w : W2} {a : Addr} {O : Addr → Prop} {H : Hp} {vs : List V} {cs : List C} {N : List Str} {more : Nat} (rv : RpCA w (hid O H) vs cs) (th : ∀ a, O a → ∃ o, H a = some o) (tb : TB w H) (hN : N.length = cs.length + more) (ha : O a) (b : Bnd H a) :
    DOk w a (hid (fun b => b = a) H) O O (fun _ => none) H (L2.start N vs) (env0 cs more) :=
  ⟨env_start rv th tb hN, fun _ z => z, (fun i a z => nomatch z), fun _ z => .inl z, hid_le, ha, by unfold hid; rw [if_pos rfl], b⟩
theorem DNext.base {w : W2} {a : Addr} {H H' : Hp} (k : Sub (Ev.hid (fun b => b = a) H) H') (b : Bnd H' a) (t : TB w H') : DNext w a H H' := ⟨k, b, fun _ => t⟩
section
variable {P : Program} {w : World} {K : PySem.W.Frag} {mg : Str → Option Value} {base : Heap} {f fp : Addr} {fd fdp : FuncData}
theorem sc__law_cuts : FnScope ["_law_source_here", "_law_first", "_law_last", "_law_middle", "_law_found", "_law_pair_so"] ["_law_source_here", "_law_first", "_law_last"] (defScope EW.s__law_cuts) := ⟨rfl, rfl, rfl, by decide +kernel, rfl, by decide +kernel, by decide +kernel⟩
theorem ok_cuts (F : FunD K "_law_cuts" "_law_cuts" (defArgs EW.s__law_cuts) (defBody EW.s__law_cuts) (defScope EW.s__law_cuts) [] [] f fd) (m : mg "_law_cuts" = some (.ref f)) (hb : Binds K fd ["_law_source_here", "_law_first", "_law_last"] [])
    (G : FnOk P w K mg base CX0 1 fp fdp ["_law_source_here", "_law_many"] spPick) (mp : mg "_law_pick" = some (.ref fp)) (kp : PySem.W.keepIn K (.ref fp) = true) (bp : Binds K fdp ["_law_source_here", "_law_many"] []) :
    ∀ j, FnOk P w K mg base CX0 (1 + j) f fd ["_law_source_here", "_law_first", "_law_last"] (spDr ⟨w, IsP K mg base⟩ (itC j) 2) := by
  intro j
  induction j with
  | zero => exact ⟨fun vs H Q E h => h.1, fun A outer s H args us vs Q E hr e0 hb r ⟨_, a, O, vs', cs, S, _, _, e, _⟩ => nomatch e⟩
  | succ j ih =>
    refine F.ok sc__law_cuts (fun vs H Q E h => h.1) ?_
    intro cdv A outer s H vs Q E hr h
    have B : PSs (cxOf CX0 P w K mg base ["_law_source_here", "_law_first", "_law_last", "_law_middle", "_law_found", "_law_pair_so"] "_law_cuts" (defScope EW.s__law_cuts) f cdv A outer s H E).nox (defBody EW.s__law_cuts) _ :=
      pss_cons (show RS _ _ Tc1 from rs_if (r_cmpVT c_lt (r_V (r_bin o_sub (r_var 2 (pv 2)) (r_var 1 (pv 1)))) (r_V r_int)) (rs_one (rs_ret (r_lst r_anil))) rs_nil)
      (pss_cons (ps_par (i := 3) (j := 4) rfl sc__law_cuts.nd rfl rfl (by decide) rfl rfl (pa_cons (show RDr _ 0 _ dMid from rd_bin o_add (rd_pure (r_bin o_add (r_var 1 (pv 1)) r_int)) (rd_pick G (hr.mono (Nat.le_add_right 1 j)) (by rfl) mp kp bp (pv 0) (r_bin o_sub (r_bin o_sub (r_var 2 (pv 2)) (r_var 1 (pv 1))) r_int))) (pa_cons (show RE _ _ (eLst aNil) from r_lst r_anil) pa_nil)) rfl)
      (pss_cons (show RS _ _ Tc3 from rs_for PassesOwn.never rfl (ri_tup (r_tup (r_acons (r_toC (r_tup (r_acons (r_toC (r_var 1 (pv 1))) (r_acons (r_toC (r_var 3 (pv 3))) r_anil)))) (r_acons (r_toC (r_tup (r_acons (r_toC (r_var 3 (pv 3))) (r_acons (r_toC (r_var 2 (pv 2))) r_anil)))) r_anil)))) (rg_name 5 (pg_name sc__law_cuts.nd rfl (Or.inl rfl)))
        (rs_one (rs_setC sc__law_cuts.nd rfl (Or.inl rfl) (r_toC (r_catL (r_varL 4 (pv 4)) (r_toL (r_if (r_cmpVT c_gt (r_V (r_bin o_sub (r_ix (r_var 5 (pv 5)) r_int) (r_ix (r_var 5 (pv 5)) r_int))) (r_V r_int)) (r_lst (r_acons (r_toC (r_var 5 (pv 5))) r_anil)) (r_lst r_anil))))))))
      (pss_one (ps_ret (show RDr _ 0 _ (dRet (itC j)) from rd_catL (rd_catL (rd_pure (r_var 4 (pv 4))) (rd_call ih (itC_len j) hr (by rfl) m F.kp hb (pv 0) (r_acons (r_toC (r_var 1 (pv 1))) (r_acons (r_toC (r_var 3 (pv 3))) r_anil)))) (rd_call ih (itC_len j) hr (by rfl) m F.kp hb (pv 0) (r_acons (r_toC (r_var 3 (pv 3))) (r_acons (r_toC (r_var 2 (pv 2))) r_anil))))))))
    refine ⟨_, PSs.nox B, ?_⟩
    clear B
    obtain ⟨hl, a, O, vs', cs, S, rfl, rv, e, ha, th, bnd, tb0, q⟩ := h
    have hlc : cs.length = 2 := by have := itC_len _ _ _ e; simpa using this
    have dk := DOk.start (N := ["_law_source_here", "_law_first", "_law_last", "_law_middle", "_law_found", "_law_pair_so"]) (vs := V.ref a :: vs') (cs := .raw (.ref a) :: cs) (more := 3) (.cons .raw rv) th tb0 (by show 6 = cs.length + 1 + 3; rw [hlc]) ha bnd
    unfold itC stepC at e
    split at e
    · split at e
      · rename_i d h1
        cases e
        refine dk.run h1 (fun _ _ _ _ _ z => nomatch z) fun c v H' eo k b t r => ?_
        cases eo
        cases r with
        | d r => exact q d List.mem_cons_self v H' (DNext.base k b t) r
      · rename_i env1 h1
        have e1 := Tc1_nx h1
        refine dk.run h1 (fun env' σ' H' O' own' eo dk1 => ?_) fun c v H' eo => nomatch eo
        cases eo
        split at e
        · rename_i ms h2
          have sl : look env1 0 = some (.raw (.ref a)) := by rw [e1]; rfl
          refine ⟨a, _, _, O', own', env1, ms, dk1, sl, h2, fun mid hmid v1 H1 n1 r1 => ?_⟩
          have dk2 := dk1.next n1
          refine ⟨O', own', env1, .lst [], dk2.E, rfl, fun v2 H2 k2 r2 => ⟨v1, v2, rfl, ?_⟩⟩
          have dk3 := ((dk2.next (DNext.of dk2.bnd k2)).set 3 (.d (r1.mono (hid_mono k2)))).set 4 (.d r2)
          obtain ⟨T, h3, h4⟩ := bindO_mem e mid hmid
          split at h3
          · rename_i env4 h5
            refine dk3.run h5 (fun env5 σ5 H5 O5 own5 eo dk5 => ?_) fun c v H' eo => nomatch eo
            cases eo
            have sl4 : look env4 0 = some (.raw (.ref a)) := by
              rw [Tc3_nx h5, look_set (by decide), look_set (by decide)]
              exact sl
            exact ⟨a, _, _, O5, own5, env4, T, dk5, sl4, h3, fun d hd v H6 n6 r6 => q d (h4 d hd) v H6 (DNext.base (dk5.next n6).base n6.2.1 (dk5.next n6).E.tab) (r6.mono (hid_anti dk5.b1))⟩
          · cases h3
        · cases e
      · cases e
    · cases e
/-! (sides, tuple(sorted(cuts))) -/
def dCutting (G : List C → Option (List D)) : Env → Option (List D) := dPair (eVar 1) (dMap gTupleOf (dMap gSortT (dCall G 0 (aCons (eToC (eInt 0)) (aCons (eToC (e2 oSub (eVar 1) (eInt 1))) aNil)))))
def M_cutting : List C → Option (List D) := fun cs => match lenIs cs 2 with
  | true => dCutting (itC 6) (env0 cs 0)
  | false => none
theorem M_cutting_len : ∀ (cs : List C) (S : List D), M_cutting cs = some S → cs.length = 1 + 1 := fun cs S h => by
  unfold M_cutting at h
  split at h
  · rename_i h1; exact lenIs_ok h1
  · cases h
theorem sc__law_cutting : FnScope ["_law_source_here", "_law_sides_so"] ["_law_source_here", "_law_sides_so"] (defScope EW.s__law_cutting) := ⟨rfl, rfl, rfl, by decide +kernel, rfl, by decide +kernel, by decide +kernel⟩
theorem ok_cutting (F : FunD K "_law_cutting" "_law_cutting" (defArgs EW.s__law_cutting) (defBody EW.s__law_cutting) (defScope EW.s__law_cutting) [] [] f fd)
    (G : FnOk P w K mg base CX0 (1 + 6) fp fdp ["_law_source_here", "_law_first", "_law_last"] (spDr ⟨w, IsP K mg base⟩ (itC 6) 2)) (mp : mg "_law_cuts" = some (.ref fp)) (kp : PySem.W.keepIn K (.ref fp) = true) (bp : Binds K fdp ["_law_source_here", "_law_first", "_law_last"] []) (n_tuple : mg "tuple" = none) (n_sorted : mg "sorted" = none) :
    FnOk P w K mg base CX0 8 f fd ["_law_source_here", "_law_sides_so"] (spDr ⟨w, IsP K mg base⟩ M_cutting 1) := by
  refine F.ok sc__law_cutting (fun vs H Q E h => h.1) ?_
  intro cdv A outer s H vs Q E hr h
  have B : PSs (cxOf CX0 P w K mg base ["_law_source_here", "_law_sides_so"] "_law_cutting" (defScope EW.s__law_cutting) f cdv A outer s H E).nox (defBody EW.s__law_cutting) _ :=
    pss_one (ps_ret (show RDr _ 0 _ (dCutting (itC 6)) from rd_pair (r_var 1 (pv 1)) (rd_ty1 b_tuple (by rfl) n_tuple (by decide +kernel) (rd_b1 b_sortT (by rfl) n_sorted (by decide +kernel) (rd_call G (itC_len 6) hr (by rfl) mp kp bp (pv 0) (r_acons (r_toC r_int) (r_acons (r_toC (r_bin o_sub (r_var 1 (pv 1)) r_int)) r_anil)))))))
  refine ⟨_, PSs.nox B, ?_⟩
  clear B
  obtain ⟨hl, a, O, vs', cs, S, rfl, rv, e, ha, th, bnd, tb0, q⟩ := h
  have hlc : cs.length = 1 := by have := M_cutting_len _ _ e; simpa using this
  have dk := DOk.start (N := ["_law_source_here", "_law_sides_so"]) (vs := V.ref a :: vs') (cs := .raw (.ref a) :: cs) (more := 0) (.cons .raw rv) th tb0 (by show 2 = cs.length + 1 + 0; rw [hlc]) ha bnd
  unfold M_cutting at e
  split at e
  · exact ⟨a, _, _, O, _, _, S, dk, rfl, e, fun d hd v H6 n6 r6 => q d hd v H6 n6 r6⟩
  · cases e
end
end Ev

set_option Elab.async false
set_option linter.all false
set_option autoImplicit false
set_option maxRecDepth 100000
set_option maxHeartbeats 4000000
/-! Ev19: the law's own body -/
namespace Ev
open PySem PySem.Spec L2
def T_law : Env → Option Out := (sSeq (sIf (tOrF (tNotF (eB (eOfC (eCall M__law_up_right (aCons (eToC (eVar 3)) (aCons (eToC (eVar 4)) aNil)))))) (tOrF (tNotF (eB (eOfC (eCall M__law_up_right (aCons (eToC (eVar 4)) (aCons (eToC (eVar 3)) aNil)))))) (tNotF (eB (eOfC (eCall M__law_fans_right (aCons (eToC (eVar 3)) aNil))))))) (sRet (eBl false))
  sNil)
  (sSeq (sAsg (eCall M_tree_cutting (aCons (eCall M_least_tree (aCons (eToC (e2 oSub (eVar 2) (eInt 2))) aNil)) aNil)) (gSet 5))
  (sSeq (sIf (tOrF (tNotF (eB (eOfC (eCall M__law_up_right (aCons (eToC (eVar 5)) (aCons (eToC (eVar 3)) aNil)))))) (c2 gNe (eOfC (eCall M_fewest_exchanges (aCons (eToC (eVar 3)) (aCons (eToC (eVar 4)) aNil)))) (eOfC (eCall M_fewest_exchanges (aCons (eToC (eVar 4)) (aCons (eToC (eVar 3)) aNil)))))) (sRet (eBl false))
  sNil)
  (sSeq (sAsg (eCall M_layers (aCons (eToC (eVar 3)) aNil)) (gSet 6))
  (sSeq (sIf (tOrF (c2 gNe (e2 gIx (eVar 6) (eInt 0)) (eInt 1)) (tOrF (c2 gNe (e1 gSumT (eVar 6)) (eOfC (eCall M_count_cuttings (aCons (eToC (eVar 2)) aNil)))) (tOrF (c2 gGe (eOfC (eCall M_fewest_exchanges (aCons (eToC (eVar 3)) (aCons (eToC (eVar 4)) aNil)))) (e1 gLen (eVar 6))) (tAndF (c2 gGt (e1 gLen (eVar 6)) (eInt 1)) (c2 gNe (e2 gIx (eVar 6) (eInt 1)) (e1 gLen (e2 gIx (eVar 3) (eInt 1)))))))) (sRet (eBl false))
  sNil)
  (sSeq (sAsg (eCall M__law_shown aNil) (gSet 7))
  (sRet (eAnd (eOfC (eCall M__law_fans_right (aCons (eToC (e2 gIx (eVar 7) (eInt 2))) aNil))) (eAnd (eOfC (eCall M__law_up_right (aCons (eToC (e2 gIx (eVar 7) (eInt 2))) (aCons (eToC (e2 gIx (eVar 7) (eInt 3))) aNil)))) (eOfB (c2 gEq (eOfC (eCall M_fewest_exchanges (aCons (eToC (e2 gIx (eVar 7) (eInt 2))) (aCons (eToC (e2 gIx (eVar 7) (eInt 3))) aNil)))) (eInt 2))))))))))))
theorem sc_law : FnScope ["_law_script", "_law_source_here", "_law_sides_so", "_law_one", "_law_other", "_law_low", "_law_some", "_law_last"] ["_law_script"] (defScope EW.s_law) := ⟨rfl, rfl, rfl, by decide +kernel, rfl, by decide +kernel, by decide +kernel⟩
def spLaw (K : PySem.W.Frag) (W : W2) : Sp := fun vs H Q _ => ∃ (a : Addr) (ns : List Int), vs = [.ref a] ∧ SqL K H a (ns.map V.int) ∧ TB W H ∧ ∀ H', Q (.bl true) H'
/-- what the drawing gives, and what the law says of it -/
def LawTab : Prop := ∀ (p : Addr) (r : Int), 0 ≤ r → r < 3 → ∃ S, M_cutting [.raw (.ref p), .d (.int (4 + r))] = some S ∧
  ∀ l : Addr, ∀ a ∈ S, ∀ b ∈ S, T_law [some (.raw (.ref l)), some (.raw (.ref p)), some (.d (.int (4 + r))), some (.d a), some (.d b), none, none, none] = some (.rt (.d (.bl true)))
theorem ok_law {P : Program} {w : World} {K : PySem.W.Frag} {mg : Str → Option Value} {base : Heap} {f fs fp fc : Addr} {fd fds fdp fdc : FuncData} (T : LawTab) (F : FunD K "law" "law" (defArgs EW.s_law) (defBody EW.s_law) (defScope EW.s_law) [] [] f fd)
    (Gs : FnOk P w K mg base CX0 1 fs fds ["_law_script", "_law_k"] (spSource K)) (ms : mg "_law_source" = some (.ref fs)) (ks : PySem.W.keepIn K (.ref fs) = true) (bs : Binds K fds ["_law_script", "_law_k"] [])
    (Gp : FnOk P w K mg base CX0 1 fp fdp ["_law_source_here", "_law_many"] spPick) (mp : mg "_law_pick" = some (.ref fp)) (kp : PySem.W.keepIn K (.ref fp) = true) (bp : Binds K fdp ["_law_source_here", "_law_many"] [])
    (Gc : FnOk P w K mg base CX0 8 fc fdc ["_law_source_here", "_law_sides_so"] (spDr ⟨w, IsP K mg base⟩ M_cutting 1)) (mc : mg "_law_cutting" = some (.ref fc)) (kc : PySem.W.keepIn K (.ref fc) = true) (bc : Binds K fdc ["_law_source_here", "_law_sides_so"] []) (c__law_up_right : Fn P w K mg base "_law_up_right" ["_law_one", "_law_other"] 23 M__law_up_right) (c__law_fans_right : Fn P w K mg base "_law_fans_right" ["_law_cutting_so"] 23 M__law_fans_right) (c_tree_cutting : Fn P w K mg base "tree_cutting" ["tree"] 18 M_tree_cutting) (c_least_tree : Fn P w K mg base "least_tree" ["forks"] 3 M_least_tree) (c_fewest_exchanges : Fn P w K mg base "fewest_exchanges" ["one", "other"] 15 M_fewest_exchanges) (c_layers : Fn P w K mg base "layers" ["cutting"] 8 M_layers) (c_count_cuttings : Fn P w K mg base "count_cuttings" ["sides"] 3 M_count_cuttings) (c__law_shown : Fn P w K mg base "_law_shown" [] 1 M__law_shown) (n_sum : mg "sum" = none) (n_len : mg "len" = none) :
    FnOk P w K mg base CX0 24 f fd ["_law_script"] (spLaw K ⟨w, IsP K mg base⟩) := by
  refine F.ok sc_law (fun vs H Q E h => ?_) ?_
  · obtain ⟨l, ns, rfl, _⟩ := h; rfl
  intro cdv A outer s H vs Q E hr h
  have B : PSs (cxOf CX0 P w K mg base ["_law_script", "_law_source_here", "_law_sides_so", "_law_one", "_law_other", "_law_low", "_law_some", "_law_last"] "law" (defScope EW.s_law) f cdv A outer s H E).nox (defBody EW.s_law) _ :=
    pss_cons (ps_set (i := 1) sc_law.nd rfl (Or.inl rfl) (pe_call Gs (hr.mono (by omega)) (by rfl) ms ks bs .nil pass0 (pa_cons (pv 0) (pa_cons pe_int pa_nil))))
    (pss_cons (ps_set (i := 2) sc_law.nd rfl (Or.inl rfl) (show RDr _ 1 _ (dBin oAdd (dPure (eInt 4)) (dPick (eInt 3))) from rd_bin o_add (rd_pure r_int) (rd_pick Gp (hr.mono (by omega)) (by rfl) mp kp bp (pv 1) r_int)))
    (pss_cons (ps_par (i := 3) (j := 4) rfl sc_law.nd rfl rfl (by decide) rfl rfl
      (pa_cons (show RDr _ 1 _ (dCall M_cutting 1 (aCons (eToC (eVar 2)) aNil)) from rd_call Gc M_cutting_len (hr.mono (by omega)) (by rfl) mc kc bc (pv 1) (r_acons (r_toC (r_var 2 (pv 2))) r_anil))
      (pa_cons (show RDr _ 1 _ (dCall M_cutting 1 (aCons (eToC (eVar 2)) aNil)) from rd_call Gc M_cutting_len (hr.mono (by omega)) (by rfl) mc kc bc (pv 1) (r_acons (r_toC (r_var 2 (pv 2))) r_anil)) pa_nil)) rfl)
    (show RSs _ _ T_law from (rs_cons (rs_if (r_w (w_or (r_notT (r_test (r_ofC (r_fn c__law_up_right (hr.mono (by omega)) (by rfl) (r_acons (r_toC (r_var 3 (pv 3))) (r_acons (r_toC (r_var 4 (pv 4))) r_anil)))))) (w_or (r_notT (r_test (r_ofC (r_fn c__law_up_right (hr.mono (by omega)) (by rfl) (r_acons (r_toC (r_var 4 (pv 4))) (r_acons (r_toC (r_var 3 (pv 3))) r_anil)))))) (w_or1 (r_notT (r_test (r_ofC (r_fn c__law_fans_right (hr.mono (by omega)) (by rfl) (r_acons (r_toC (r_var 3 (pv 3))) r_anil))))))))) (rs_one (rs_ret r_bl))
  rs_nil)
  (rs_cons (rs_setC sc_law.nd rfl (Or.inl rfl) (r_fn c_tree_cutting (hr.mono (by omega)) (by rfl) (r_acons (r_fn c_least_tree (hr.mono (by omega)) (by rfl) (r_acons (r_toC (r_bin o_sub (r_var 2 (pv 2)) r_int)) r_anil)) r_anil)))
  (rs_cons (rs_if (r_w (w_or (r_notT (r_test (r_ofC (r_fn c__law_up_right (hr.mono (by omega)) (by rfl) (r_acons (r_toC (r_var 5 (pv 5))) (r_acons (r_toC (r_var 3 (pv 3))) r_anil)))))) (w_or1 (r_cmpVT (c_ne hr.units) (r_V (r_ofC (r_fn c_fewest_exchanges (hr.mono (by omega)) (by rfl) (r_acons (r_toC (r_var 3 (pv 3))) (r_acons (r_toC (r_var 4 (pv 4))) r_anil))))) (r_V (r_ofC (r_fn c_fewest_exchanges (hr.mono (by omega)) (by rfl) (r_acons (r_toC (r_var 4 (pv 4))) (r_acons (r_toC (r_var 3 (pv 3))) r_anil))))))))) (rs_one (rs_ret r_bl))
  rs_nil)
  (rs_cons (rs_setC sc_law.nd rfl (Or.inl rfl) (r_fn c_layers (hr.mono (by omega)) (by rfl) (r_acons (r_toC (r_var 3 (pv 3))) r_anil)))
  (rs_cons (rs_if (r_w (w_or (r_cmpVT (c_ne hr.units) (r_V (r_ix (r_var 6 (pv 6)) r_int)) (r_V r_int)) (w_or (r_cmpVT (c_ne hr.units) (r_V (r_b1V (b_sumT rfl) rfl n_sum (by decide +kernel) (r_V (r_var 6 (pv 6))))) (r_V (r_ofC (r_fn c_count_cuttings (hr.mono (by omega)) (by rfl) (r_acons (r_toC (r_var 2 (pv 2))) r_anil))))) (w_or (r_cmpVT c_ge (r_V (r_ofC (r_fn c_fewest_exchanges (hr.mono (by omega)) (by rfl) (r_acons (r_toC (r_var 3 (pv 3))) (r_acons (r_toC (r_var 4 (pv 4))) r_anil))))) (r_V (r_b1V b_len rfl n_len (by decide +kernel) (r_V (r_var 6 (pv 6)))))) (w_or1 (r_w (w_and (r_cmpVT c_gt (r_V (r_b1V b_len rfl n_len (by decide +kernel) (r_V (r_var 6 (pv 6))))) (r_V r_int)) (w_and1 (r_cmpVT (c_ne hr.units) (r_V (r_ix (r_var 6 (pv 6)) r_int)) (r_V (r_b1V b_len rfl n_len (by decide +kernel) (r_V (r_ix (r_var 3 (pv 3)) r_int))))))))))))) (rs_one (rs_ret r_bl))
  rs_nil)
  (rs_cons (rs_setC sc_law.nd rfl (Or.inl rfl) (r_fn0 c__law_shown (hr.mono (by omega)) (by rfl)))
  (rs_one (rs_ret (r_and (r_ofC (r_fn c__law_fans_right (hr.mono (by omega)) (by rfl) (r_acons (r_toC (r_ix (r_var 7 (pv 7)) r_int)) r_anil))) (r_and (r_ofC (r_fn c__law_up_right (hr.mono (by omega)) (by rfl) (r_acons (r_toC (r_ix (r_var 7 (pv 7)) r_int)) (r_acons (r_toC (r_ix (r_var 7 (pv 7)) r_int)) r_anil)))) (r_one (r_cmpV (c_eq hr.units) (r_V (r_ofC (r_fn c_fewest_exchanges (hr.mono (by omega)) (by rfl) (r_acons (r_toC (r_ix (r_var 7 (pv 7)) r_int)) (r_acons (r_toC (r_ix (r_var 7 (pv 7)) r_int)) r_anil))))) (r_V r_int))))))))))))))))
  refine ⟨_, PSs.nox B, ?_⟩
  clear B
  obtain ⟨l, ns, rfl, hq, tb0, q⟩ := h
  refine ⟨V.ref l, rfl, ?_⟩
  refine ⟨l, ns, rfl, hq, fun p x y hp y0 y1 => ?_⟩
  have bnd : Bnd (upd H p (.lst [V.int x, V.int y])) p := ⟨x, y, upd_same, y0, y1⟩
  have dk0 := DOk.start (w := ⟨w, IsP K mg base⟩) (a := p) (O := fun b => b = p) (N := ["_law_script", "_law_source_here", "_law_sides_so", "_law_one", "_law_other", "_law_low", "_law_some", "_law_last"]) (vs := [V.ref l]) (cs := [.raw (.ref l)]) (more := 7) (.cons .raw .nil) (fun b hb => by rw [hb]; exact ⟨_, upd_same⟩) ((Same.upd hp).tab tb0) rfl rfl bnd
  have dk := dk0.set 1 (v := V.ref p) (c := .raw (.ref p)) .raw
  refine ⟨p, _, _, _, _, _, [.int (4 + 0), .int (4 + 1), .int (4 + 2)], dk, rfl, rfl, fun d hd v H1 n1 r1 => ?_⟩
  obtain ⟨r, r0, r3, rfl⟩ : ∃ r : Int, 0 ≤ r ∧ r < 3 ∧ d = .int (4 + r) := by
    rcases List.mem_cons.mp hd with z | hd
    · exact ⟨0, by decide, by decide, z⟩
    rcases List.mem_cons.mp hd with z | hd
    · exact ⟨1, by decide, by decide, z⟩
    rcases List.mem_cons.mp hd with z | hd
    · exact ⟨2, by decide, by decide, z⟩
    · cases hd
  have dk1 := (dk.next n1).set 2 (.d r1)
  obtain ⟨S, hS, hT⟩ := T p r r0 r3
  refine ⟨p, _, _, _, _, _, S, dk1, rfl, hS, fun a ha v2 H2 n2 r2 => ⟨p, _, _, _, _, _, S, dk1.next n2, rfl, hS, fun b hb v3 H3 n3 r3 => ⟨v2, v3, rfl, ?_⟩⟩⟩
  have dk2 := (((dk1.next n2).next n3).set 3 (.d (r2.mono (n3.hid (O := fun b => b = p) rfl)))).set 4 (.d r3)
  refine dk2.run (hT l a ha b hb) (fun _ _ _ _ _ z => nomatch z) fun c v H' eo k b t r => ?_
  cases eo
  cases r with
  | d r => cases r; exact q H'
end Ev

set_option Elab.async false
set_option linter.all false
set_option autoImplicit false
set_option maxRecDepth 100000
set_option maxHeartbeats 0
/-! Ev20: the tables -/
namespace Ev
open PySem
def isT : Option C → Bool
  | some (.d (.bl true)) => true
  | _ => false
theorem isT_eq {o : Option C} (h : isT o = true) : o = some (.d (.bl true)) := by
  unfold isT at h
  split at h
  · rfl
  · cases h
def isI (k : Int) : Option C → Bool
  | some (.d (.int j)) => ieq j k
  | _ => false
theorem isI_eq {k : Int} {o : Option C} (h : isI k o = true) : o = some (.d (.int k)) := by
  unfold isI at h
  split at h
  · rw [ieq_eq] at h; rw [eq_of_beq h]
  · cases h
def sameI : List Int → List D → Bool
  | [], [] => true
  | i :: r, .int j :: q => match ieq j i with
    | true => sameI r q
    | false => false
  | _, _ => false
theorem sameI_eq : ∀ {l : List Int} {q : List D}, sameI l q = true → q = l.map D.int
  | [], [], _ => rfl
  | i :: r, .int j :: q, h => by
    unfold sameI at h
    split at h
    · rename_i e
      rw [ieq_eq] at e
      rw [eq_of_beq e, sameI_eq h]
      rfl
    · cases h
  | [], _ :: _, h => by simp [sameI] at h
  | _ :: _, [], h => by simp [sameI] at h
  | _ :: _, .non :: _, h => by simp [sameI] at h
  | _ :: _, .bl _ :: _, h => by simp [sameI] at h
  | _ :: _, .tup _ :: _, h => by simp [sameI] at h
  | _ :: _, .lst _ :: _, h => by simp [sameI] at h
def isTup (l : List Int) : Option C → Bool
  | some (.d (.tup q)) => sameI l q
  | _ => false
theorem isTup_eq {l : List Int} {o : Option C} (h : isTup l o = true) : o = some (.d (.tup (l.map D.int))) := by
  unfold isTup at h
  split at h
  · rw [sameI_eq h]
  · cases h
def upRow (a : D) : List D → Bool
  | [] => true
  | b :: r => match isT (M__law_up_right [.d a, .d b]) with
    | true => upRow a r
    | false => false
theorem upRow_c {a c : D} {r : List D} (h : upRow a (c :: r) = true) : isT (M__law_up_right [.d a, .d c]) = true ∧ upRow a r = true := by
  have h' : (match isT (M__law_up_right [.d a, .d c]) with | true => upRow a r | false => false) = true := h
  revert h'
  generalize isT (M__law_up_right [.d a, .d c]) = z
  intro h'
  cases z with
  | true => exact ⟨rfl, h'⟩
  | false => exact Bool.noConfusion h'
theorem upRow_ok {a : D} {S : List D} : upRow a S = true → ∀ b ∈ S, M__law_up_right [.d a, .d b] = some (.d (.bl true)) := by
  induction S with
  | nil => intro _ b m; cases m
  | cons c r ih =>
    intro h b m
    obtain ⟨q, h⟩ := upRow_c h
    rcases List.mem_cons.mp m with z | z
    · rw [z]; exact isT_eq q
    · exact ih h b z
def fewRow (a : D) : List D → List Int → Bool
  | [], [] => true
  | b :: r, k :: ks => match isI k (M_fewest_exchanges [.d a, .d b]) with
    | true => fewRow a r ks
    | false => false
  | _, _ => false
def q4_0 : D := .tup [.int 4, .tup [.tup [.int 1, .int 3]]]
def q4_1 : D := .tup [.int 4, .tup [.tup [.int 0, .int 2]]]
def L4 : List D := [q4_0, q4_1]
def q5_0 : D := .tup [.int 5, .tup [.tup [.int 1, .int 4], .tup [.int 2, .int 4]]]
def q5_1 : D := .tup [.int 5, .tup [.tup [.int 1, .int 3], .tup [.int 1, .int 4]]]
def q5_2 : D := .tup [.int 5, .tup [.tup [.int 0, .int 2], .tup [.int 2, .int 4]]]
def q5_3 : D := .tup [.int 5, .tup [.tup [.int 0, .int 3], .tup [.int 1, .int 3]]]
def q5_4 : D := .tup [.int 5, .tup [.tup [.int 0, .int 2], .tup [.int 0, .int 3]]]
def L5 : List D := [q5_0, q5_1, q5_2, q5_3, q5_4]
def q6_0 : D := .tup [.int 6, .tup [.tup [.int 1, .int 5], .tup [.int 2, .int 5], .tup [.int 3, .int 5]]]
def q6_1 : D := .tup [.int 6, .tup [.tup [.int 1, .int 5], .tup [.int 2, .int 4], .tup [.int 2, .int 5]]]
def q6_2 : D := .tup [.int 6, .tup [.tup [.int 1, .int 3], .tup [.int 1, .int 5], .tup [.int 3, .int 5]]]
def q6_3 : D := .tup [.int 6, .tup [.tup [.int 1, .int 4], .tup [.int 1, .int 5], .tup [.int 2, .int 4]]]
def q6_4 : D := .tup [.int 6, .tup [.tup [.int 1, .int 3], .tup [.int 1, .int 4], .tup [.int 1, .int 5]]]
def q6_5 : D := .tup [.int 6, .tup [.tup [.int 0, .int 2], .tup [.int 2, .int 5], .tup [.int 3, .int 5]]]
def q6_6 : D := .tup [.int 6, .tup [.tup [.int 0, .int 2], .tup [.int 2, .int 4], .tup [.int 2, .int 5]]]
def q6_7 : D := .tup [.int 6, .tup [.tup [.int 0, .int 3], .tup [.int 1, .int 3], .tup [.int 3, .int 5]]]
def q6_8 : D := .tup [.int 6, .tup [.tup [.int 0, .int 2], .tup [.int 0, .int 3], .tup [.int 3, .int 5]]]
def q6_9 : D := .tup [.int 6, .tup [.tup [.int 0, .int 4], .tup [.int 1, .int 4], .tup [.int 2, .int 4]]]
def q6_10 : D := .tup [.int 6, .tup [.tup [.int 0, .int 4], .tup [.int 1, .int 3], .tup [.int 1, .int 4]]]
def q6_11 : D := .tup [.int 6, .tup [.tup [.int 0, .int 2], .tup [.int 0, .int 4], .tup [.int 2, .int 4]]]
def q6_12 : D := .tup [.int 6, .tup [.tup [.int 0, .int 3], .tup [.int 0, .int 4], .tup [.int 1, .int 3]]]
def q6_13 : D := .tup [.int 6, .tup [.tup [.int 0, .int 2], .tup [.int 0, .int 3], .tup [.int 0, .int 4]]]
def L6 : List D := [q6_0, q6_1, q6_2, q6_3, q6_4, q6_5, q6_6, q6_7, q6_8, q6_9, q6_10, q6_11, q6_12, q6_13]
theorem up4_0 : upRow q4_0 L4 = true := by kernel_rfl
theorem few4_0 : fewRow q4_0 L4 [0, 1] = true := by kernel_rfl
theorem fan4_0 : isT (M__law_fans_right [.d q4_0]) = true := by kernel_rfl
theorem lay4_0 : isTup [1, 1] (M_layers [.d q4_0]) = true := by kernel_rfl
theorem up4_1 : upRow q4_1 L4 = true := by kernel_rfl
theorem few4_1 : fewRow q4_1 L4 [1, 0] = true := by kernel_rfl
theorem fan4_1 : isT (M__law_fans_right [.d q4_1]) = true := by kernel_rfl
theorem lay4_1 : isTup [1, 1] (M_layers [.d q4_1]) = true := by kernel_rfl
theorem up5_0 : upRow q5_0 L5 = true := by kernel_rfl
theorem few5_0 : fewRow q5_0 L5 [0, 1, 1, 2, 2] = true := by kernel_rfl
theorem fan5_0 : isT (M__law_fans_right [.d q5_0]) = true := by kernel_rfl
theorem lay5_0 : isTup [1, 2, 2] (M_layers [.d q5_0]) = true := by kernel_rfl
theorem up5_1 : upRow q5_1 L5 = true := by kernel_rfl
theorem few5_1 : fewRow q5_1 L5 [1, 0, 2, 1, 2] = true := by kernel_rfl
theorem fan5_1 : isT (M__law_fans_right [.d q5_1]) = true := by kernel_rfl
theorem lay5_1 : isTup [1, 2, 2] (M_layers [.d q5_1]) = true := by kernel_rfl
theorem up5_2 : upRow q5_2 L5 = true := by kernel_rfl
theorem few5_2 : fewRow q5_2 L5 [1, 2, 0, 2, 1] = true := by kernel_rfl
theorem fan5_2 : isT (M__law_fans_right [.d q5_2]) = true := by kernel_rfl
theorem lay5_2 : isTup [1, 2, 2] (M_layers [.d q5_2]) = true := by kernel_rfl
theorem up5_3 : upRow q5_3 L5 = true := by kernel_rfl
theorem few5_3 : fewRow q5_3 L5 [2, 1, 2, 0, 1] = true := by kernel_rfl
theorem fan5_3 : isT (M__law_fans_right [.d q5_3]) = true := by kernel_rfl
theorem lay5_3 : isTup [1, 2, 2] (M_layers [.d q5_3]) = true := by kernel_rfl
theorem up5_4 : upRow q5_4 L5 = true := by kernel_rfl
theorem few5_4 : fewRow q5_4 L5 [2, 2, 1, 1, 0] = true := by kernel_rfl
theorem fan5_4 : isT (M__law_fans_right [.d q5_4]) = true := by kernel_rfl
theorem lay5_4 : isTup [1, 2, 2] (M_layers [.d q5_4]) = true := by kernel_rfl
theorem up6_0 : upRow q6_0 L6 = true := by kernel_rfl
theorem few6_0 : fewRow q6_0 L6 [0, 1, 1, 2, 2, 1, 2, 2, 2, 3, 3, 3, 3, 3] = true := by kernel_rfl
theorem fan6_0 : isT (M__law_fans_right [.d q6_0]) = true := by kernel_rfl
theorem lay6_0 : isTup [1, 3, 5, 5] (M_layers [.d q6_0]) = true := by kernel_rfl
theorem up6_1 : upRow q6_1 L6 = true := by kernel_rfl
theorem few6_1 : fewRow q6_1 L6 [1, 0, 2, 1, 2, 2, 1, 3, 3, 2, 3, 2, 4, 3] = true := by kernel_rfl
theorem fan6_1 : isT (M__law_fans_right [.d q6_1]) = true := by kernel_rfl
theorem lay6_1 : isTup [1, 3, 5, 4, 1] (M_layers [.d q6_1]) = true := by kernel_rfl
theorem up6_2 : upRow q6_2 L6 = true := by kernel_rfl
theorem few6_2 : fewRow q6_2 L6 [1, 2, 0, 2, 1, 2, 3, 1, 2, 3, 2, 4, 2, 3] = true := by kernel_rfl
theorem fan6_2 : isT (M__law_fans_right [.d q6_2]) = true := by kernel_rfl
theorem lay6_2 : isTup [1, 3, 6, 3, 1] (M_layers [.d q6_2]) = true := by kernel_rfl
theorem up6_3 : upRow q6_3 L6 = true := by kernel_rfl
theorem few6_3 : fewRow q6_3 L6 [2, 1, 2, 0, 1, 3, 2, 3, 4, 1, 2, 2, 3, 3] = true := by kernel_rfl
theorem fan6_3 : isT (M__law_fans_right [.d q6_3]) = true := by kernel_rfl
theorem lay6_3 : isTup [1, 3, 5, 4, 1] (M_layers [.d q6_3]) = true := by kernel_rfl
theorem up6_4 : upRow q6_4 L6 = true := by kernel_rfl
theorem few6_4 : fewRow q6_4 L6 [2, 2, 1, 1, 0, 3, 3, 2, 3, 2, 1, 3, 2, 3] = true := by kernel_rfl
theorem fan6_4 : isT (M__law_fans_right [.d q6_4]) = true := by kernel_rfl
theorem lay6_4 : isTup [1, 3, 5, 5] (M_layers [.d q6_4]) = true := by kernel_rfl
theorem up6_5 : upRow q6_5 L6 = true := by kernel_rfl
theorem few6_5 : fewRow q6_5 L6 [1, 2, 2, 3, 3, 0, 1, 2, 1, 3, 4, 2, 3, 2] = true := by kernel_rfl
theorem fan6_5 : isT (M__law_fans_right [.d q6_5]) = true := by kernel_rfl
theorem lay6_5 : isTup [1, 3, 5, 4, 1] (M_layers [.d q6_5]) = true := by kernel_rfl
theorem up6_6 : upRow q6_6 L6 = true := by kernel_rfl
theorem few6_6 : fewRow q6_6 L6 [2, 1, 3, 2, 3, 1, 0, 3, 2, 2, 3, 1, 3, 2] = true := by kernel_rfl
theorem fan6_6 : isT (M__law_fans_right [.d q6_6]) = true := by kernel_rfl
theorem lay6_6 : isTup [1, 3, 5, 5] (M_layers [.d q6_6]) = true := by kernel_rfl
theorem up6_7 : upRow q6_7 L6 = true := by kernel_rfl
theorem few6_7 : fewRow q6_7 L6 [2, 3, 1, 3, 2, 2, 3, 0, 1, 3, 2, 3, 1, 2] = true := by kernel_rfl
theorem fan6_7 : isT (M__law_fans_right [.d q6_7]) = true := by kernel_rfl
theorem lay6_7 : isTup [1, 3, 5, 5] (M_layers [.d q6_7]) = true := by kernel_rfl
theorem up6_8 : upRow q6_8 L6 = true := by kernel_rfl
theorem few6_8 : fewRow q6_8 L6 [2, 3, 2, 4, 3, 1, 2, 1, 0, 3, 3, 2, 2, 1] = true := by kernel_rfl
theorem fan6_8 : isT (M__law_fans_right [.d q6_8]) = true := by kernel_rfl
theorem lay6_8 : isTup [1, 3, 5, 4, 1] (M_layers [.d q6_8]) = true := by kernel_rfl
theorem up6_9 : upRow q6_9 L6 = true := by kernel_rfl
theorem few6_9 : fewRow q6_9 L6 [3, 2, 3, 1, 2, 3, 2, 3, 3, 0, 1, 1, 2, 2] = true := by kernel_rfl
theorem fan6_9 : isT (M__law_fans_right [.d q6_9]) = true := by kernel_rfl
theorem lay6_9 : isTup [1, 3, 5, 5] (M_layers [.d q6_9]) = true := by kernel_rfl
theorem up6_10 : upRow q6_10 L6 = true := by kernel_rfl
theorem few6_10 : fewRow q6_10 L6 [3, 3, 2, 2, 1, 4, 3, 2, 3, 1, 0, 2, 1, 2] = true := by kernel_rfl
theorem fan6_10 : isT (M__law_fans_right [.d q6_10]) = true := by kernel_rfl
theorem lay6_10 : isTup [1, 3, 5, 4, 1] (M_layers [.d q6_10]) = true := by kernel_rfl
theorem up6_11 : upRow q6_11 L6 = true := by kernel_rfl
theorem few6_11 : fewRow q6_11 L6 [3, 2, 4, 2, 3, 2, 1, 3, 2, 1, 2, 0, 2, 1] = true := by kernel_rfl
theorem fan6_11 : isT (M__law_fans_right [.d q6_11]) = true := by kernel_rfl
theorem lay6_11 : isTup [1, 3, 6, 3, 1] (M_layers [.d q6_11]) = true := by kernel_rfl
theorem up6_12 : upRow q6_12 L6 = true := by kernel_rfl
theorem few6_12 : fewRow q6_12 L6 [3, 4, 2, 3, 2, 3, 3, 1, 2, 2, 1, 2, 0, 1] = true := by kernel_rfl
theorem fan6_12 : isT (M__law_fans_right [.d q6_12]) = true := by kernel_rfl
theorem lay6_12 : isTup [1, 3, 5, 4, 1] (M_layers [.d q6_12]) = true := by kernel_rfl
theorem up6_13 : upRow q6_13 L6 = true := by kernel_rfl
theorem few6_13 : fewRow q6_13 L6 [3, 3, 3, 3, 3, 2, 2, 2, 1, 2, 2, 1, 1, 0] = true := by kernel_rfl
theorem fan6_13 : isT (M__law_fans_right [.d q6_13]) = true := by kernel_rfl
theorem lay6_13 : isTup [1, 3, 5, 5] (M_layers [.d q6_13]) = true := by kernel_rfl
end Ev

set_option Elab.async false
set_option linter.all false
set_option autoImplicit false
set_option maxRecDepth 100000
set_option maxHeartbeats 4000000
/-! Ev21: the law's own body, its calls' answers given -/
namespace Ev
open PySem PySem.Spec L2
def T_lawP (UR FR TC LT FE LA CC SH : List C → Option C) : Env → Option Out := (sSeq (sIf (tOrF (tNotF (eB (eOfC (eCall UR (aCons (eToC (eVar 3)) (aCons (eToC (eVar 4)) aNil)))))) (tOrF (tNotF (eB (eOfC (eCall UR (aCons (eToC (eVar 4)) (aCons (eToC (eVar 3)) aNil)))))) (tNotF (eB (eOfC (eCall FR (aCons (eToC (eVar 3)) aNil))))))) (sRet (eBl false))
  sNil)
  (sSeq (sAsg (eCall TC (aCons (eCall LT (aCons (eToC (e2 oSub (eVar 2) (eInt 2))) aNil)) aNil)) (gSet 5))
  (sSeq (sIf (tOrF (tNotF (eB (eOfC (eCall UR (aCons (eToC (eVar 5)) (aCons (eToC (eVar 3)) aNil)))))) (c2 gNe (eOfC (eCall FE (aCons (eToC (eVar 3)) (aCons (eToC (eVar 4)) aNil)))) (eOfC (eCall FE (aCons (eToC (eVar 4)) (aCons (eToC (eVar 3)) aNil)))))) (sRet (eBl false))
  sNil)
  (sSeq (sAsg (eCall LA (aCons (eToC (eVar 3)) aNil)) (gSet 6))
  (sSeq (sIf (tOrF (c2 gNe (e2 gIx (eVar 6) (eInt 0)) (eInt 1)) (tOrF (c2 gNe (e1 gSumT (eVar 6)) (eOfC (eCall CC (aCons (eToC (eVar 2)) aNil)))) (tOrF (c2 gGe (eOfC (eCall FE (aCons (eToC (eVar 3)) (aCons (eToC (eVar 4)) aNil)))) (e1 gLen (eVar 6))) (tAndF (c2 gGt (e1 gLen (eVar 6)) (eInt 1)) (c2 gNe (e2 gIx (eVar 6) (eInt 1)) (e1 gLen (e2 gIx (eVar 3) (eInt 1)))))))) (sRet (eBl false))
  sNil)
  (sSeq (sAsg (eCall SH aNil) (gSet 7))
  (sRet (eAnd (eOfC (eCall FR (aCons (eToC (e2 gIx (eVar 7) (eInt 2))) aNil))) (eAnd (eOfC (eCall UR (aCons (eToC (e2 gIx (eVar 7) (eInt 2))) (aCons (eToC (e2 gIx (eVar 7) (eInt 3))) aNil)))) (eOfB (c2 gEq (eOfC (eCall FE (aCons (eToC (e2 gIx (eVar 7) (eInt 2))) (aCons (eToC (e2 gIx (eVar 7) (eInt 3))) aNil)))) (eInt 2))))))))))))

abbrev TT : Option C := some (.d (.bl true))
section
variable {E : Env} {f g : Env → Option Bool} {p q : Env → Option D} {G : Env → Option C} {r B : Env → Option Out} {d e x : D} {c : C} {b : Bool} {i : Nat}
theorem k_seqIf (h : f E = some false) : sSeq (sIf f r sNil) B E = B E := by simp [sSeq, sIf, h, sNil]
theorem k_seqAsg (h : G E = some c) : sSeq (sAsg G (gSet i)) B E = B (E.set i (some c)) := by simp [sSeq, sAsg, h, gSet]
theorem k_or (h1 : f E = some false) (h2 : g E = some false) : tOrF f g E = some false := by simp [tOrF, h1, h2]
theorem k_and2 (h1 : f E = some true) (h2 : g E = some false) : tAndF f g E = some false := by simp [tAndF, h1, h2]
theorem k_notT (h : G E = TT) : tNotF (eB (eOfC G)) E = some false := by simp [tNotF, eB, eOfC, h, xD, xB]
theorem k_ofC (h : G E = some (.d d)) : eOfC G E = some d := by simp [eOfC, h, xD]
theorem k_c2 {P : D → D → Option Bool} (h1 : p E = some d) (h2 : q E = some e) (h3 : P d e = some b) : c2 P p q E = some b := by simp [c2, h1, h2, h3]
theorem k_e1 {P : D → Option D} (h1 : p E = some d) (h3 : P d = some x) : e1 P p E = some x := by simp [e1, h1, h3]
theorem k_e2 {P : D → D → Option D} (h1 : p E = some d) (h2 : q E = some e) (h3 : P d e = some x) : e2 P p q E = some x := by simp [e2, h1, h2, h3]
theorem k_eAnd (h1 : p E = some (.bl true)) (h2 : q E = some x) : eAnd p q E = some x := by simp [eAnd, h1, h2]
theorem k_ofB (h1 : f E = some b) : eOfB f E = some (.bl b) := by simp [eOfB, h1]
theorem k_call {F : List C → Option C} {cs : List C} {A : Env → Option (List C)} {o : Option C} (h1 : A E = some cs) (h2 : F cs = o) : eCall F A E = o := by simp [eCall, h1, h2]
theorem k_c1 (h : p E = some d) : aCons (eToC p) aNil E = some [.d d] := by simp [aCons, eToC, aNil, h]
theorem k_c2' (h : p E = some d) (h' : q E = some e) : aCons (eToC p) (aCons (eToC q) aNil) E = some [.d d, .d e] := by simp [aCons, eToC, aNil, h, h']
theorem k_ret (h : p E = some d) : sRet p E = some (.rt (.d d)) := by simp [sRet, h]
end
theorem gNe_ii (k : Int) : gNe (.int k) (.int k) = some false := by simp [gNe, dle, deq, ieq_eq]
theorem intsOf_mp : ∀ l : List Int, intsOf (l.map D.int) = some l
  | [] => rfl
  | i :: r => by
    show (match intsOf (r.map D.int) with | some bs => some (i :: bs) | none => none) = _
    rw [intsOf_mp r]
theorem k_cc {E : Env} {G : Env → Option C} {c : C} (h : G E = some c) : aCons G aNil E = some [c] := by simp [aCons, aNil, h]
theorem lawP_ok {UR FR TC LT FE LA CC SH : List C → Option C} {c0 c1 : C} {a b low x y z0 z1 z4 : D} {t : C} {n k : Int} {cuts : List D} {l1 : Int} {ls : List Int}
    (ha : a = .tup [.int n, .tup cuts]) (h1 : UR [.d a, .d b] = TT) (h2 : UR [.d b, .d a] = TT) (h3 : FR [.d a] = TT) (h4 : LT [.d (.int (n - 2))] = some t) (h5 : TC [t] = some (.d low)) (h6 : UR [.d low, .d a] = TT)
    (h7 : FE [.d a, .d b] = some (.d (.int k))) (h8 : FE [.d b, .d a] = some (.d (.int k))) (h9 : LA [.d a] = some (.d (.tup ((1 :: l1 :: ls).map D.int)))) (h10 : CC [.d (.int n)] = some (.d (.int (sumI (1 :: l1 :: ls) 0))))
    (h11 : ((cuts.length : Nat) : Int) = l1) (h12 : k < (((1 :: l1 :: ls).length : Nat) : Int)) (h13 : SH [] = some (.d (.lst [z0, z1, x, y, z4]))) (h14 : FR [.d x] = TT) (h15 : UR [.d x, .d y] = TT) (h16 : FE [.d x, .d y] = some (.d (.int 2))) :
    T_lawP UR FR TC LT FE LA CC SH [some c0, some c1, some (.d (.int n)), some (.d a), some (.d b), none, none, none] = some (.rt (.d (.bl true))) := by
  have iLen : gLen (.tup ((1 :: l1 :: ls).map D.int)) = some (.int ((((1 :: l1 :: ls).length : Nat) : Int))) := by
    show some (D.int (.ofNat (len_ _ 0))) = _
    rw [len_eq, List.length_map]; rfl
  have iSum : gSumT (.tup ((1 :: l1 :: ls).map D.int)) = some (.int (sumI (1 :: l1 :: ls) 0)) := by
    show (match intsOf ((1 :: l1 :: ls).map D.int) with | some ns => some (D.int (sumI ns 0)) | none => none) = _
    rw [intsOf_mp]
  have iSub : oSub (.int n) (.int 2) = some (.int (n - 2)) := by
    show some (D.int (isub n 2)) = _
    rw [isub_eq]
  have iCut : gLen (.tup cuts) = some (.int l1) := by
    show some (D.int (.ofNat (len_ _ 0))) = _
    rw [len_eq, ← h11]; rfl
  have iGe : gGe (.int k) (.int ((((1 :: l1 :: ls).length : Nat) : Int))) = some false := by
    show some (ile _ k) = _
    rw [ile_eq]
    exact congrArg some (decide_eq_false (Int.not_le.mpr h12))
  have iGt : gGt (.int ((((1 :: l1 :: ls).length : Nat) : Int))) (.int 1) = some true := by
    show some (ilt 1 _) = _
    rw [ilt_eq]
    exact congrArg some (decide_eq_true (by simp only [List.length_cons]; omega))
  have iA : gIx a (.int 1) = some (.tup cuts) := by rw [ha]; rfl
  unfold T_lawP
  refine (k_seqIf (k_or (k_notT (k_call (k_c2' rfl rfl) h1)) (k_or (k_notT (k_call (k_c2' rfl rfl) h2)) (k_notT (k_call (k_c1 rfl) h3))))).trans ?_
  refine (k_seqAsg (k_call (k_cc (k_call (k_c1 (k_e2 rfl rfl iSub)) h4)) h5)).trans ?_
  refine (k_seqIf (k_or (k_notT (k_call (k_c2' rfl rfl) h6)) (k_c2 (k_ofC (k_call (k_c2' rfl rfl) h7)) (k_ofC (k_call (k_c2' rfl rfl) h8)) (gNe_ii k)))).trans ?_
  refine (k_seqAsg (k_call (k_c1 rfl) h9)).trans ?_
  refine (k_seqIf (k_or (k_c2 (k_e2 rfl rfl rfl) rfl (gNe_ii 1)) (k_or (k_c2 (k_e1 rfl iSum) (k_ofC (k_call (k_c1 rfl) h10)) (gNe_ii _)) (k_or (k_c2 (k_ofC (k_call (k_c2' rfl rfl) h7)) (k_e1 rfl iLen) iGe) (k_and2 (k_c2 (k_e1 rfl iLen) rfl iGt) (k_c2 (k_e2 rfl rfl rfl) (k_e1 (k_e2 rfl rfl iA) iCut) (gNe_ii l1))))))).trans ?_
  refine (k_seqAsg (k_call rfl h13)).trans ?_
  exact k_ret (k_eAnd (k_ofC (k_call (k_c1 (k_e2 rfl rfl rfl)) h14)) (k_eAnd (k_ofC (k_call (k_c2' (k_e2 rfl rfl rfl) (k_e2 rfl rfl rfl)) h15)) (k_ofB (k_c2 (k_ofC (k_call (k_c2' (k_e2 rfl rfl rfl) (k_e2 rfl rfl rfl)) h16)) rfl rfl))))
end Ev

set_option Elab.async false
set_option linter.all false
set_option autoImplicit false
set_option maxRecDepth 100000
set_option maxHeartbeats 0
/-! Ev22: the tables give LawTab -/
namespace Ev
open PySem
theorem nil_at {j : Nat} {b : D} (e : ([] : List D)[j]? = some b) : False := by simp at e
theorem fewRow_c {a c : D} {r : List D} {k : Int} {ks : List Int} (h : fewRow a (c :: r) (k :: ks) = true) : isI k (M_fewest_exchanges [.d a, .d c]) = true ∧ fewRow a r ks = true := by
  have h' : (match isI k (M_fewest_exchanges [.d a, .d c]) with | true => fewRow a r ks | false => false) = true := h
  revert h'
  generalize isI k (M_fewest_exchanges [.d a, .d c]) = z
  intro h'
  cases z with
  | true => exact ⟨rfl, h'⟩
  | false => exact Bool.noConfusion h'
theorem few_at {a : D} {S : List D} : ∀ {ks : List Int}, fewRow a S ks = true → ∀ (j : Nat) (b : D), S[j]? = some b → ∃ k : Int, ks[j]? = some k ∧ M_fewest_exchanges [.d a, .d b] = some (.d (.int k)) := by
  induction S with
  | nil => intro ks _ j b e; exact (nil_at e).elim
  | cons c r ih =>
    intro ks h j b e
    cases ks with
    | nil => exact Bool.noConfusion (show false = true from h)
    | cons k ks =>
      obtain ⟨q, h⟩ := fewRow_c h
      cases j with
      | zero =>
        have e : c = b := by simpa using e
        subst e
        exact ⟨k, by simp, isI_eq q⟩
      | succ j =>
        have e : r[j]? = some b := by simpa using e
        obtain ⟨k', h1, h2⟩ := ih h j b e
        exact ⟨k', by simpa using h1, h2⟩
structure RowOk (n cc : Int) (L : List D) (a : D) (row : List Int) : Prop where
  up : upRow a L = true
  few : fewRow a L row = true
  fan : isT (M__law_fans_right [.d a]) = true
  lay : ∃ (cuts : List D) (l1 : Int) (ls : List Int), a = .tup [.int n, .tup cuts] ∧ isTup (1 :: l1 :: ls) (M_layers [.d a]) = true ∧ sumI (1 :: l1 :: ls) 0 = cc ∧ ((cuts.length : Nat) : Int) = l1 ∧ ∀ k ∈ row, k < (((1 :: l1 :: ls).length : Nat) : Int)
inductive RowsOk (n cc : Int) (L : List D) : List D → List (List Int) → Prop
  | nil : RowsOk n cc L [] []
  | cons {a : D} {row : List Int} {r : List D} {m : List (List Int)} : RowOk n cc L a row → RowsOk n cc L r m → RowsOk n cc L (a :: r) (row :: m)
theorem RowsOk.at_ {n cc : Int} {L : List D} : ∀ {S : List D} {m : List (List Int)}, RowsOk n cc L S m → ∀ (i : Nat) (a : D), S[i]? = some a → ∃ row, m[i]? = some row ∧ RowOk n cc L a row
  | _, _, .nil, i, a, e => by simp at e
  | _, _, .cons h r, 0, a, e => by simp at e; subst e; exact ⟨_, by simp, h⟩
  | _, _, .cons h r, i + 1, a, e => by simpa using r.at_ i a (by simpa using e)
def symB (m : List (List Int)) : Bool := (List.range m.length).all fun i => (List.range m.length).all fun j => decide ((m[i]?.bind fun r => r[j]?) = (m[j]?.bind fun r => r[i]?))
theorem symB_ok {m : List (List Int)} (h : symB m = true) {i j : Nat} (hi : i < m.length) (hj : j < m.length) : (m[i]?.bind fun r => r[j]?) = (m[j]?.bind fun r => r[i]?) :=
  of_decide_eq_true (List.all_eq_true.mp (List.all_eq_true.mp h i (List.mem_range.mpr hi)) j (List.mem_range.mpr hj))
theorem tab_ok {n cc : Int} {L : List D} {m : List (List Int)} {t : C} {low z0 z1 x y z4 : D} (R : RowsOk n cc L L m) (hs : symB m = true) (h4 : M_least_tree [.d (.int (n - 2))] = some t) (h5 : M_tree_cutting [t] = some (.d low)) (hl : low ∈ L)
    (h10 : M_count_cuttings [.d (.int n)] = some (.d (.int cc))) (h13 : M__law_shown [] = some (.d (.lst [z0, z1, x, y, z4]))) (h14 : M__law_fans_right [.d x] = TT) (h15 : M__law_up_right [.d x, .d y] = TT) (h16 : M_fewest_exchanges [.d x, .d y] = some (.d (.int 2))) :
    ∀ (c0 c1 : C), ∀ a ∈ L, ∀ b ∈ L, T_law [some c0, some c1, some (.d (.int n)), some (.d a), some (.d b), none, none, none] = some (.rt (.d (.bl true))) := by
  intro c0 c1 a ha b hb
  obtain ⟨i, hi⟩ := List.mem_iff_getElem?.mp ha
  obtain ⟨j, hj⟩ := List.mem_iff_getElem?.mp hb
  obtain ⟨l, hl'⟩ := List.mem_iff_getElem?.mp hl
  obtain ⟨ra, ea, A⟩ := R.at_ i a hi
  obtain ⟨rb, eb, B⟩ := R.at_ j b hj
  obtain ⟨_, _, W⟩ := R.at_ l low hl'
  obtain ⟨k, k1, k2⟩ := few_at A.few j b hj
  obtain ⟨k', k1', k2'⟩ := few_at B.few i a hi
  have q := symB_ok hs (List.getElem?_eq_some_iff.mp ea).1 (List.getElem?_eq_some_iff.mp eb).1
  rw [ea, eb] at q
  have q' : ra[j]? = rb[i]? := q
  rw [k1, k1'] at q'
  have ek : k = k' := Option.some.inj q'
  subst ek
  obtain ⟨cuts, l1, ls, e1, e2, e3, e4, e5⟩ := A.lay
  rw [← e3] at h10
  exact lawP_ok e1 (upRow_ok A.up b hb) (upRow_ok B.up a ha) (isT_eq A.fan) h4 h5 (upRow_ok W.up a ha) k2 k2' (isTup_eq e2) h10 e4 (e5 k (List.mem_of_getElem? k1)) h13 h14 h15 h16
theorem shown_eq : M__law_shown [] = some (.d (.lst [q4_1, q5_4, q6_11, q6_5, q6_13])) := by kernel_rfl
theorem shown_few : M_fewest_exchanges [.d q6_11, .d q6_5] = some (.d (.int 2)) := by
  obtain ⟨k, h1, h2⟩ := few_at few6_11 5 q6_5 rfl
  cases h1
  exact h2
theorem rows4 : RowsOk 4 2 L4 L4 [[0, 1], [1, 0]] :=
  .cons ⟨up4_0, few4_0, fan4_0, _, _, _, rfl, lay4_0, by decide, rfl, by decide⟩ (
  .cons ⟨up4_1, few4_1, fan4_1, _, _, _, rfl, lay4_1, by decide, rfl, by decide⟩ (
  .nil))
theorem lt4 : M_least_tree [.d (.int (4 - 2))] = some (.d (.tup [.tup [.tup [], .tup []], .tup []])) := by kernel_rfl
theorem tc4 : M_tree_cutting [.d (.tup [.tup [.tup [], .tup []], .tup []])] = some (.d q4_1) := by kernel_rfl
theorem cc4 : M_count_cuttings [.d (.int 4)] = some (.d (.int 2)) := by kernel_rfl
theorem cut4 (p : Addr) : M_cutting [.raw (.ref p), .d (.int 4)] = some L4 := by kernel_rfl
theorem tab4 : ∀ (c0 c1 : C), ∀ a ∈ L4, ∀ b ∈ L4, T_law [some c0, some c1, some (.d (.int 4)), some (.d a), some (.d b), none, none, none] = some (.rt (.d (.bl true))) :=
  tab_ok rows4 (by decide) lt4 tc4 (by simp [L4]) cc4 shown_eq (isT_eq fan6_11) (upRow_ok up6_11 q6_5 (by simp [L6])) shown_few
theorem rows5 : RowsOk 5 5 L5 L5 [[0, 1, 1, 2, 2], [1, 0, 2, 1, 2], [1, 2, 0, 2, 1], [2, 1, 2, 0, 1], [2, 2, 1, 1, 0]] :=
  .cons ⟨up5_0, few5_0, fan5_0, _, _, _, rfl, lay5_0, by decide, rfl, by decide⟩ (
  .cons ⟨up5_1, few5_1, fan5_1, _, _, _, rfl, lay5_1, by decide, rfl, by decide⟩ (
  .cons ⟨up5_2, few5_2, fan5_2, _, _, _, rfl, lay5_2, by decide, rfl, by decide⟩ (
  .cons ⟨up5_3, few5_3, fan5_3, _, _, _, rfl, lay5_3, by decide, rfl, by decide⟩ (
  .cons ⟨up5_4, few5_4, fan5_4, _, _, _, rfl, lay5_4, by decide, rfl, by decide⟩ (
  .nil)))))
theorem lt5 : M_least_tree [.d (.int (5 - 2))] = some (.d (.tup [.tup [.tup [.tup [], .tup []], .tup []], .tup []])) := by kernel_rfl
theorem tc5 : M_tree_cutting [.d (.tup [.tup [.tup [.tup [], .tup []], .tup []], .tup []])] = some (.d q5_4) := by kernel_rfl
theorem cc5 : M_count_cuttings [.d (.int 5)] = some (.d (.int 5)) := by kernel_rfl
theorem cut5 (p : Addr) : M_cutting [.raw (.ref p), .d (.int 5)] = some L5 := by kernel_rfl
theorem tab5 : ∀ (c0 c1 : C), ∀ a ∈ L5, ∀ b ∈ L5, T_law [some c0, some c1, some (.d (.int 5)), some (.d a), some (.d b), none, none, none] = some (.rt (.d (.bl true))) :=
  tab_ok rows5 (by decide) lt5 tc5 (by simp [L5]) cc5 shown_eq (isT_eq fan6_11) (upRow_ok up6_11 q6_5 (by simp [L6])) shown_few
theorem rows6 : RowsOk 6 14 L6 L6 [[0, 1, 1, 2, 2, 1, 2, 2, 2, 3, 3, 3, 3, 3], [1, 0, 2, 1, 2, 2, 1, 3, 3, 2, 3, 2, 4, 3], [1, 2, 0, 2, 1, 2, 3, 1, 2, 3, 2, 4, 2, 3], [2, 1, 2, 0, 1, 3, 2, 3, 4, 1, 2, 2, 3, 3], [2, 2, 1, 1, 0, 3, 3, 2, 3, 2, 1, 3, 2, 3], [1, 2, 2, 3, 3, 0, 1, 2, 1, 3, 4, 2, 3, 2], [2, 1, 3, 2, 3, 1, 0, 3, 2, 2, 3, 1, 3, 2], [2, 3, 1, 3, 2, 2, 3, 0, 1, 3, 2, 3, 1, 2], [2, 3, 2, 4, 3, 1, 2, 1, 0, 3, 3, 2, 2, 1], [3, 2, 3, 1, 2, 3, 2, 3, 3, 0, 1, 1, 2, 2], [3, 3, 2, 2, 1, 4, 3, 2, 3, 1, 0, 2, 1, 2], [3, 2, 4, 2, 3, 2, 1, 3, 2, 1, 2, 0, 2, 1], [3, 4, 2, 3, 2, 3, 3, 1, 2, 2, 1, 2, 0, 1], [3, 3, 3, 3, 3, 2, 2, 2, 1, 2, 2, 1, 1, 0]] :=
  .cons ⟨up6_0, few6_0, fan6_0, _, _, _, rfl, lay6_0, by decide, rfl, by decide⟩ (
  .cons ⟨up6_1, few6_1, fan6_1, _, _, _, rfl, lay6_1, by decide, rfl, by decide⟩ (
  .cons ⟨up6_2, few6_2, fan6_2, _, _, _, rfl, lay6_2, by decide, rfl, by decide⟩ (
  .cons ⟨up6_3, few6_3, fan6_3, _, _, _, rfl, lay6_3, by decide, rfl, by decide⟩ (
  .cons ⟨up6_4, few6_4, fan6_4, _, _, _, rfl, lay6_4, by decide, rfl, by decide⟩ (
  .cons ⟨up6_5, few6_5, fan6_5, _, _, _, rfl, lay6_5, by decide, rfl, by decide⟩ (
  .cons ⟨up6_6, few6_6, fan6_6, _, _, _, rfl, lay6_6, by decide, rfl, by decide⟩ (
  .cons ⟨up6_7, few6_7, fan6_7, _, _, _, rfl, lay6_7, by decide, rfl, by decide⟩ (
  .cons ⟨up6_8, few6_8, fan6_8, _, _, _, rfl, lay6_8, by decide, rfl, by decide⟩ (
  .cons ⟨up6_9, few6_9, fan6_9, _, _, _, rfl, lay6_9, by decide, rfl, by decide⟩ (
  .cons ⟨up6_10, few6_10, fan6_10, _, _, _, rfl, lay6_10, by decide, rfl, by decide⟩ (
  .cons ⟨up6_11, few6_11, fan6_11, _, _, _, rfl, lay6_11, by decide, rfl, by decide⟩ (
  .cons ⟨up6_12, few6_12, fan6_12, _, _, _, rfl, lay6_12, by decide, rfl, by decide⟩ (
  .cons ⟨up6_13, few6_13, fan6_13, _, _, _, rfl, lay6_13, by decide, rfl, by decide⟩ (
  .nil))))))))))))))
theorem lt6 : M_least_tree [.d (.int (6 - 2))] = some (.d (.tup [.tup [.tup [.tup [.tup [], .tup []], .tup []], .tup []], .tup []])) := by kernel_rfl
theorem tc6 : M_tree_cutting [.d (.tup [.tup [.tup [.tup [.tup [], .tup []], .tup []], .tup []], .tup []])] = some (.d q6_13) := by kernel_rfl
theorem cc6 : M_count_cuttings [.d (.int 6)] = some (.d (.int 14)) := by kernel_rfl
theorem cut6 (p : Addr) : M_cutting [.raw (.ref p), .d (.int 6)] = some L6 := by kernel_rfl
theorem tab6 : ∀ (c0 c1 : C), ∀ a ∈ L6, ∀ b ∈ L6, T_law [some c0, some c1, some (.d (.int 6)), some (.d a), some (.d b), none, none, none] = some (.rt (.d (.bl true))) :=
  tab_ok rows6 (by decide) lt6 tc6 (by simp [L6]) cc6 shown_eq (isT_eq fan6_11) (upRow_ok up6_11 q6_5 (by simp [L6])) shown_few
theorem lawTab : LawTab := by
  intro p r h0 h3
  rcases (show r = 0 ∨ r = 1 ∨ r = 2 by omega) with rfl | rfl | rfl
  · exact ⟨L4, cut4 p, fun l => tab4 _ _⟩
  · exact ⟨L5, cut5 p, fun l => tab5 _ _⟩
  · exact ⟨L6, cut6 p, fun l => tab6 _ _⟩
end Ev

set_option Elab.async false
set_option linter.all false
set_option autoImplicit false
set_option maxRecDepth 100000
set_option maxHeartbeats 0
/-! Ev23: the facts of the head, all defs in turn -/
namespace Ev
open PySem PySem.Spec PyProof.Rows L2
theorem facts {P : Program} {w : World} {K : PySem.W.Frag} {h : Heap} {mg : Str → Option Value} {f : Addr} (X : K.In h) (G : h.Ns mainGlobals mg) (hfa : mg ("law" : Str) = some (.ref f)) (c : He.SaysD EW.fa EW.fn K) :
    ∃ fd : FuncData, (∀ (s : Shared) (v : Value), BindsTo s fd ⟨[v], []⟩ [("_law_script", v)]) ∧ ∀ base : Heap, LamX.TabB base mg (He.cT K ("passed_by", none)).1 (He.cT K ("passed_by", none)).2 → FnOk P w K mg base CX0 24 f fd ["_law_script"] (spLaw K ⟨w, IsP K mg base⟩) := by
  obtain ⟨fd, F⟩ := c.def_ 85 (d := EW.d_law) rfl
  have e := hfa.symm.trans (He.glo_ok X G (c.fact 85 (f := .glo "law") rfl))
  cases e
  have b := FunD.bindsA (ps := ["_law_script"]) F fun _ _ _ _ _ _ us hl => match us, hl with | [_], _ => rfl
  refine ⟨fd, fun s v => b s [v] rfl, fun base tb => ?_⟩
  obtain ⟨fd_is_whole, F_is_whole⟩ := c.def_ 0 (d := EW.d_is_whole) rfl
  obtain ⟨fd_are_next, F_are_next⟩ := c.def_ 1 (d := EW.d_are_next) rfl
  obtain ⟨fd_fits_cut, F_fits_cut⟩ := c.def_ 2 (d := EW.d_fits_cut) rfl
  obtain ⟨fd_cross, F_cross⟩ := c.def_ 3 (d := EW.d_cross) rfl
  obtain ⟨fd_rises, F_rises⟩ := c.def_ 4 (d := EW.d_rises) rfl
  obtain ⟨fd_fits_cutting, F_fits_cutting⟩ := c.def_ 5 (d := EW.d_fits_cutting) rfl
  obtain ⟨fd_all_ties, F_all_ties⟩ := c.def_ 6 (d := EW.d_all_ties) rfl
  obtain ⟨fd_near_of, F_near_of⟩ := c.def_ 7 (d := EW.d_near_of) rfl
  obtain ⟨fd_thirds_of, F_thirds_of⟩ := c.def_ 8 (d := EW.d_thirds_of) rfl
  obtain ⟨fd_need_cutting, F_need_cutting⟩ := c.def_ 9 (d := EW.d_need_cutting) rfl
  obtain ⟨fd_need_corner, F_need_corner⟩ := c.def_ 10 (d := EW.d_need_corner) rfl
  obtain ⟨fd_need_cut, F_need_cut⟩ := c.def_ 11 (d := EW.d_need_cut) rfl
  obtain ⟨fd_need_sides, F_need_sides⟩ := c.def_ 12 (d := EW.d_need_sides) rfl
  obtain ⟨fd_need_number, F_need_number⟩ := c.def_ 13 (d := EW.d_need_number) rfl
  obtain ⟨fd_need_few, F_need_few⟩ := c.def_ 14 (d := EW.d_need_few) rfl
  obtain ⟨fd_cut_for, F_cut_for⟩ := c.def_ 15 (d := EW.d_cut_for) rfl
  obtain ⟨fd_with_cut, F_with_cut⟩ := c.def_ 16 (d := EW.d_with_cut) rfl
  obtain ⟨fd_swapped_at, F_swapped_at⟩ := c.def_ 17 (d := EW.d_swapped_at) rfl
  obtain ⟨fd_exchanged, F_exchanged⟩ := c.def_ 18 (d := EW.d_exchanged) rfl
  obtain ⟨fd_tree_size, F_tree_size⟩ := c.def_ 19 (d := EW.d_tree_size) rfl
  obtain ⟨fd_fits_tree, F_fits_tree⟩ := c.def_ 20 (d := EW.d_fits_tree) rfl
  obtain ⟨fd_fork_count, F_fork_count⟩ := c.def_ 21 (d := EW.d_fork_count) rfl
  obtain ⟨fd_tree_between, F_tree_between⟩ := c.def_ 22 (d := EW.d_tree_between) rfl
  obtain ⟨fd_tree_cuts, F_tree_cuts⟩ := c.def_ 23 (d := EW.d_tree_cuts) rfl
  obtain ⟨fd_cutting_by, F_cutting_by⟩ := c.def_ 24 (d := EW.d_cutting_by) rfl
  obtain ⟨fd_reaches_of, F_reaches_of⟩ := c.def_ 25 (d := EW.d_reaches_of) rfl
  obtain ⟨fd_need_tree, F_need_tree⟩ := c.def_ 26 (d := EW.d_need_tree) rfl
  obtain ⟨fd_need_pair, F_need_pair⟩ := c.def_ 27 (d := EW.d_need_pair) rfl
  obtain ⟨fd_need_fork, F_need_fork⟩ := c.def_ 28 (d := EW.d_need_fork) rfl
  obtain ⟨fd_need_small_cutting, F_need_small_cutting⟩ := c.def_ 29 (d := EW.d_need_small_cutting) rfl
  obtain ⟨fd_tree_of, F_tree_of⟩ := c.def_ 30 (d := EW.d_tree_of) rfl
  obtain ⟨fd_tree_cutting, F_tree_cutting⟩ := c.def_ 31 (d := EW.d_tree_cutting) rfl
  obtain ⟨fd_reaches, F_reaches⟩ := c.def_ 32 (d := EW.d_reaches) rfl
  obtain ⟨fd_can_turn, F_can_turn⟩ := c.def_ 33 (d := EW.d_can_turn) rfl
  obtain ⟨fd_turned_once, F_turned_once⟩ := c.def_ 34 (d := EW.d_turned_once) rfl
  obtain ⟨fd_lies_below, F_lies_below⟩ := c.def_ 35 (d := EW.d_lies_below) rfl
  obtain ⟨fd_steps_up, F_steps_up⟩ := c.def_ 36 (d := EW.d_steps_up) rfl
  obtain ⟨fd_fork_between, F_fork_between⟩ := c.def_ 37 (d := EW.d_fork_between) rfl
  obtain ⟨fd_fork_turned, F_fork_turned⟩ := c.def_ 38 (d := EW.d_fork_turned) rfl
  obtain ⟨fd_is_below, F_is_below⟩ := c.def_ 39 (d := EW.d_is_below) rfl
  obtain ⟨fd_way_up, F_way_up⟩ := c.def_ 40 (d := EW.d_way_up) rfl
  obtain ⟨fd_turned_fork, F_turned_fork⟩ := c.def_ 41 (d := EW.d_turned_fork) rfl
  obtain ⟨fd_type_is_whole, F_type_is_whole⟩ := c.def_ 43 (d := EW.d_type_is_whole) rfl
  obtain ⟨fd_way_steps, F_way_steps⟩ := c.def_ 42 (d := EW.d_way_steps) rfl
  obtain ⟨fd_leads_to, F_leads_to⟩ := c.def_ 44 (d := EW.d_leads_to) rfl
  obtain ⟨fd_need_two, F_need_two⟩ := c.def_ 45 (d := EW.d_need_two) rfl
  obtain ⟨fd_need_way, F_need_way⟩ := c.def_ 46 (d := EW.d_need_way) rfl
  obtain ⟨fd_behind_way, F_behind_way⟩ := c.def_ 47 (d := EW.d_behind_way) rfl
  obtain ⟨fd_far_from_fan, F_far_from_fan⟩ := c.def_ 48 (d := EW.d_far_from_fan) rfl
  obtain ⟨fd_cuts_of_both, F_cuts_of_both⟩ := c.def_ 49 (d := EW.d_cuts_of_both) rfl
  obtain ⟨fd_split_by, F_split_by⟩ := c.def_ 50 (d := EW.d_split_by) rfl
  obtain ⟨fd_fields_by, F_fields_by⟩ := c.def_ 51 (d := EW.d_fields_by) rfl
  obtain ⟨fd_fields_of, F_fields_of⟩ := c.def_ 52 (d := EW.d_fields_of) rfl
  obtain ⟨fd_piece_within, F_piece_within⟩ := c.def_ 53 (d := EW.d_piece_within) rfl
  obtain ⟨fd_nexts_of, F_nexts_of⟩ := c.def_ 54 (d := EW.d_nexts_of) rfl
  obtain ⟨fd_reach_from, F_reach_from⟩ := c.def_ 55 (d := EW.d_reach_from) rfl
  obtain ⟨fd_back_from, F_back_from⟩ := c.def_ 56 (d := EW.d_back_from) rfl
  obtain ⟨fd_pairs_within, F_pairs_within⟩ := c.def_ 57 (d := EW.d_pairs_within) rfl
  obtain ⟨fd_bringing, F_bringing⟩ := c.def_ 58 (d := EW.d_bringing) rfl
  obtain ⟨fd_way_in, F_way_in⟩ := c.def_ 59 (d := EW.d_way_in) rfl
  obtain ⟨fd_need_fields, F_need_fields⟩ := c.def_ 60 (d := EW.d_need_fields) rfl
  obtain ⟨fd_fewest_exchanges, F_fewest_exchanges⟩ := c.def_ 61 (d := EW.d_fewest_exchanges) rfl
  obtain ⟨fd_is_least_way, F_is_least_way⟩ := c.def_ 62 (d := EW.d_is_least_way) rfl
  obtain ⟨fd_catalan, F_catalan⟩ := c.def_ 63 (d := EW.d_catalan) rfl
  obtain ⟨fd_count_cuttings, F_count_cuttings⟩ := c.def_ 64 (d := EW.d_count_cuttings) rfl
  obtain ⟨fd_fars_of, F_fars_of⟩ := c.def_ 65 (d := EW.d_fars_of) rfl
  obtain ⟨fd_layers, F_layers⟩ := c.def_ 66 (d := EW.d_layers) rfl
  obtain ⟨fd_depth_sum, F_depth_sum⟩ := c.def_ 69 (d := EW.d_depth_sum) rfl
  obtain ⟨fd_passed_by, F_passed_by⟩ := c.def_ 68 (d := EW.d_passed_by) rfl
  obtain ⟨fd_ranks_between, F_ranks_between⟩ := c.def_ 67 (d := EW.d_ranks_between) rfl
  obtain ⟨fd_need_few_forks, F_need_few_forks⟩ := c.def_ 70 (d := EW.d_need_few_forks) rfl
  obtain ⟨fd_comb_tree, F_comb_tree⟩ := c.def_ 71 (d := EW.d_comb_tree) rfl
  obtain ⟨fd_fewest_up, F_fewest_up⟩ := c.def_ 72 (d := EW.d_fewest_up) rfl
  obtain ⟨fd_least_tree, F_least_tree⟩ := c.def_ 73 (d := EW.d_least_tree) rfl
  obtain ⟨fd_greatest_tree, F_greatest_tree⟩ := c.def_ 74 (d := EW.d_greatest_tree) rfl
  obtain ⟨fd__law_joined, F__law_joined⟩ := c.def_ 79 (d := EW.d__law_joined) rfl
  obtain ⟨fd__law_pieces, F__law_pieces⟩ := c.def_ 80 (d := EW.d__law_pieces) rfl
  obtain ⟨fd__law_counts, F__law_counts⟩ := c.def_ 81 (d := EW.d__law_counts) rfl
  obtain ⟨fd__law_shown, F__law_shown⟩ := c.def_ 82 (d := EW.d__law_shown) rfl
  obtain ⟨fd__law_up_right, F__law_up_right⟩ := c.def_ 83 (d := EW.d__law_up_right) rfl
  obtain ⟨fd__law_fans_right, F__law_fans_right⟩ := c.def_ 84 (d := EW.d__law_fans_right) rfl
  obtain ⟨fd__law_source, F__law_source⟩ := c.def_ 75 (d := EW.d__law_source) rfl
  obtain ⟨fd__law_pick, F__law_pick⟩ := c.def_ 76 (d := EW.d__law_pick) rfl
  obtain ⟨fd__law_cuts, F__law_cuts⟩ := c.def_ 77 (d := EW.d__law_cuts) rfl
  obtain ⟨fd__law_cutting, F__law_cutting⟩ := c.def_ 78 (d := EW.d__law_cutting) rfl
  have tbp : ∀ c0, fd_passed_by.code = .ref c0 → LamX.TabB base mg c0 (He.cT K ("passed_by", none)).2 := fun c0 hc => by
    obtain ⟨oc, od, dV, kV, doc, pm, an, cdv, ct, osl, e1, lk, _⟩ := F_passed_by.ex
    have q : (He.cT K ("passed_by", none)).1 = c0 := He.codeOf_eq (p := ("passed_by", none)) lk hc
    rw [← q]
    exact tb
  have c_is_whole : Fn P w K mg base "is_whole" ["value", "low", "high"] 1 M_is_whole := ok_is_whole (He.glo_ok X G (c.fact 0 (f := .glo "is_whole") rfl)) F_is_whole (He.free_ok X G (c.fact 91 (f := .free "isinstance") rfl)) (He.free_ok X G (c.fact 90 (f := .free "int") rfl)) (He.free_ok X G (c.fact 88 (f := .free "bool") rfl))
  have c_are_next : Fn P w K mg base "are_next" ["sides", "one", "other"] 1 M_are_next := ok_are_next (He.glo_ok X G (c.fact 1 (f := .glo "are_next") rfl)) F_are_next 
  have c_fits_cut : Fn P w K mg base "fits_cut" ["sides", "value"] 2 M_fits_cut := ok_fits_cut (He.glo_ok X G (c.fact 2 (f := .glo "fits_cut") rfl)) F_fits_cut c_is_whole c_are_next (He.free_ok X G (c.fact 91 (f := .free "isinstance") rfl)) (He.free_ok X G (c.fact 100 (f := .free "tuple") rfl)) (He.free_ok X G (c.fact 92 (f := .free "len") rfl)) (He.free_ok X G (c.fact 86 (f := .free "all") rfl))
  have c_cross : Fn P w K mg base "cross" ["one", "other"] 1 M_cross := ok_cross (He.glo_ok X G (c.fact 3 (f := .glo "cross") rfl)) F_cross 
  have c_rises : Fn P w K mg base "rises" ["row"] 1 M_rises := ok_rises (He.glo_ok X G (c.fact 4 (f := .glo "rises") rfl)) F_rises (He.free_ok X G (c.fact 86 (f := .free "all") rfl)) (He.free_ok X G (c.fact 101 (f := .free "zip") rfl))
  have c_fits_cutting : Fn P w K mg base "fits_cutting" ["value"] 3 M_fits_cutting := ok_fits_cutting (He.glo_ok X G (c.fact 5 (f := .glo "fits_cutting") rfl)) F_fits_cutting c_is_whole c_fits_cut c_rises c_cross (He.free_ok X G (c.fact 91 (f := .free "isinstance") rfl)) (He.free_ok X G (c.fact 100 (f := .free "tuple") rfl)) (He.free_ok X G (c.fact 92 (f := .free "len") rfl)) (He.free_ok X G (c.fact 86 (f := .free "all") rfl)) (He.free_ok X G (c.fact 87 (f := .free "any") rfl)) (He.int_ok X G (c.fact 102 (f := .int "MOST" 40) rfl))
  have c_all_ties : Fn P w K mg base "all_ties" ["cutting"] 1 M_all_ties := ok_all_ties (He.glo_ok X G (c.fact 6 (f := .glo "all_ties") rfl)) F_all_ties (He.free_ok X G (c.fact 97 (f := .free "sorted") rfl)) (He.free_ok X G (c.fact 96 (f := .free "range") rfl)) (He.free_ok X G (c.fact 93 (f := .free "list") rfl))
  have c_near_of : Fn P w K mg base "near_of" ["cutting"] 2 M_near_of := ok_near_of (He.glo_ok X G (c.fact 7 (f := .glo "near_of") rfl)) F_near_of c_all_ties (He.free_ok X G (c.fact 96 (f := .free "range") rfl)) (He.free_ok X G (c.fact 97 (f := .free "sorted") rfl))
  have c_thirds_of : Fn P w K mg base "thirds_of" ["cutting", "cut"] 3 M_thirds_of := ok_thirds_of (He.glo_ok X G (c.fact 8 (f := .glo "thirds_of") rfl)) F_thirds_of c_near_of
  have c_need_cutting : Fn P w K mg base "need_cutting" ["value"] 4 M_need_cutting := ok_need_cutting (He.glo_ok X G (c.fact 9 (f := .glo "need_cutting") rfl)) F_need_cutting c_fits_cutting
  have c_need_corner : Fn P w K mg base "need_corner" ["cutting", "value"] 2 M_need_corner := ok_need_corner (He.glo_ok X G (c.fact 10 (f := .glo "need_corner") rfl)) F_need_corner c_is_whole
  have c_need_cut : Fn P w K mg base "need_cut" ["cutting", "value"] 3 M_need_cut := ok_need_cut (He.glo_ok X G (c.fact 11 (f := .glo "need_cut") rfl)) F_need_cut c_fits_cut
  have c_need_sides : Fn P w K mg base "need_sides" ["value", "most"] 2 M_need_sides := ok_need_sides (He.glo_ok X G (c.fact 12 (f := .glo "need_sides") rfl)) F_need_sides c_is_whole
  have c_need_number : Fn P w K mg base "need_number" ["value", "low", "high"] 2 M_need_number := ok_need_number (He.glo_ok X G (c.fact 13 (f := .glo "need_number") rfl)) F_need_number c_is_whole
  have c_need_few : Fn P w K mg base "need_few" ["many", "limit"] 1 M_need_few := ok_need_few (He.glo_ok X G (c.fact 14 (f := .glo "need_few") rfl)) F_need_few 
  have c_cut_for : Fn P w K mg base "cut_for" ["cutting", "cut"] 4 M_cut_for := ok_cut_for (He.glo_ok X G (c.fact 15 (f := .glo "cut_for") rfl)) F_cut_for c_thirds_of
  have c_with_cut : Fn P w K mg base "with_cut" ["cutting", "cut", "there"] 1 M_with_cut := ok_with_cut (He.glo_ok X G (c.fact 16 (f := .glo "with_cut") rfl)) F_with_cut (He.free_ok X G (c.fact 100 (f := .free "tuple") rfl)) (He.free_ok X G (c.fact 97 (f := .free "sorted") rfl))
  have c_swapped_at : Fn P w K mg base "swapped_at" ["cutting", "cut"] 5 M_swapped_at := ok_swapped_at (He.glo_ok X G (c.fact 17 (f := .glo "swapped_at") rfl)) F_swapped_at c_with_cut c_cut_for
  have c_exchanged : Fn P w K mg base "exchanged" ["cutting", "cut"] 6 M_exchanged := ok_exchanged (He.glo_ok X G (c.fact 18 (f := .glo "exchanged") rfl)) F_exchanged c_need_cutting c_need_cut c_swapped_at
  have c_tree_size : Fn P w K mg base "tree_size" ["value", "left"] 8 M_tree_size := ok_tree_size (He.glo_ok X G (c.fact 19 (f := .glo "tree_size") rfl)) F_tree_size (He.free_ok X G (c.fact 91 (f := .free "isinstance") rfl)) (He.free_ok X G (c.fact 100 (f := .free "tuple") rfl)) (He.free_ok X G (c.fact 92 (f := .free "len") rfl))
  have c_fits_tree : Fn P w K mg base "fits_tree" ["value"] 9 M_fits_tree := ok_fits_tree (He.glo_ok X G (c.fact 20 (f := .glo "fits_tree") rfl)) F_fits_tree c_tree_size (He.int_ok X G (c.fact 103 (f := .int "MOST_FORKS" 24) rfl))
  have c_fork_count : Fn P w K mg base "fork_count" ["tree"] 8 M_fork_count := ok_fork_count (He.glo_ok X G (c.fact 21 (f := .glo "fork_count") rfl)) F_fork_count 
  have c_tree_between : Fn P w K mg base "tree_between" ["cutting", "first", "last"] 11 M_tree_between := ok_tree_between (He.glo_ok X G (c.fact 22 (f := .glo "tree_between") rfl)) F_tree_between c_thirds_of
  have c_tree_cuts : Fn P w K mg base "tree_cuts" ["tree", "first"] 16 M_tree_cuts := ok_tree_cuts (He.glo_ok X G (c.fact 23 (f := .glo "tree_cuts") rfl)) F_tree_cuts c_fork_count
  have c_cutting_by : Fn P w K mg base "cutting_by" ["tree"] 17 M_cutting_by := ok_cutting_by (He.glo_ok X G (c.fact 24 (f := .glo "cutting_by") rfl)) F_cutting_by c_fork_count c_tree_cuts (He.free_ok X G (c.fact 100 (f := .free "tuple") rfl)) (He.free_ok X G (c.fact 97 (f := .free "sorted") rfl))
  have c_reaches_of : Fn P w K mg base "reaches_of" ["tree"] 16 M_reaches_of := ok_reaches_of (He.glo_ok X G (c.fact 25 (f := .glo "reaches_of") rfl)) F_reaches_of c_fork_count
  have c_need_tree : Fn P w K mg base "need_tree" ["value"] 10 M_need_tree := ok_need_tree (He.glo_ok X G (c.fact 26 (f := .glo "need_tree") rfl)) F_need_tree c_fits_tree
  have c_need_pair : Fn P w K mg base "need_pair" ["one", "other"] 11 M_need_pair := ok_need_pair (He.glo_ok X G (c.fact 27 (f := .glo "need_pair") rfl)) F_need_pair c_need_tree c_fork_count
  have c_need_fork : Fn P w K mg base "need_fork" ["some", "value"] 2 M_need_fork := ok_need_fork (He.glo_ok X G (c.fact 28 (f := .glo "need_fork") rfl)) F_need_fork c_is_whole (He.int_ok X G (c.fact 103 (f := .int "MOST_FORKS" 24) rfl))
  have c_need_small_cutting : Fn P w K mg base "need_small_cutting" ["cutting"] 5 M_need_small_cutting := ok_need_small_cutting (He.glo_ok X G (c.fact 29 (f := .glo "need_small_cutting") rfl)) F_need_small_cutting c_need_cutting c_need_few (He.int_ok X G (c.fact 103 (f := .int "MOST_FORKS" 24) rfl))
  have c_tree_of : Fn P w K mg base "tree_of" ["cutting"] 12 M_tree_of := ok_tree_of (He.glo_ok X G (c.fact 30 (f := .glo "tree_of") rfl)) F_tree_of c_need_small_cutting c_tree_between
  have c_tree_cutting : Fn P w K mg base "tree_cutting" ["tree"] 18 M_tree_cutting := ok_tree_cutting (He.glo_ok X G (c.fact 31 (f := .glo "tree_cutting") rfl)) F_tree_cutting c_need_tree c_cutting_by
  have c_reaches : Fn P w K mg base "reaches" ["tree"] 17 M_reaches := ok_reaches (He.glo_ok X G (c.fact 32 (f := .glo "reaches") rfl)) F_reaches c_need_tree c_reaches_of
  have c_can_turn : Fn P w K mg base "can_turn" ["tree", "first"] 16 M_can_turn := ok_can_turn (He.glo_ok X G (c.fact 33 (f := .glo "can_turn") rfl)) F_can_turn c_fork_count
  have c_turned_once : Fn P w K mg base "turned_once" ["tree", "fork"] 16 M_turned_once := ok_turned_once (He.glo_ok X G (c.fact 34 (f := .glo "turned_once") rfl)) F_turned_once c_fork_count
  have c_lies_below : Fn P w K mg base "lies_below" ["one", "other"] 17 M_lies_below := ok_lies_below (He.glo_ok X G (c.fact 35 (f := .glo "lies_below") rfl)) F_lies_below c_reaches_of (He.free_ok X G (c.fact 86 (f := .free "all") rfl)) (He.free_ok X G (c.fact 101 (f := .free "zip") rfl))
  have c_steps_up : Fn P w K mg base "steps_up" ["one", "other"] 18 M_steps_up := ok_steps_up (He.glo_ok X G (c.fact 36 (f := .glo "steps_up") rfl)) F_steps_up c_can_turn c_lies_below c_turned_once
  have c_fork_between : Fn P w K mg base "fork_between" ["one", "other"] 17 M_fork_between := ok_fork_between (He.glo_ok X G (c.fact 37 (f := .glo "fork_between") rfl)) F_fork_between c_can_turn c_turned_once
  have c_fork_turned : Fn P w K mg base "fork_turned" ["tree", "fork"] 17 M_fork_turned := ok_fork_turned (He.glo_ok X G (c.fact 38 (f := .glo "fork_turned") rfl)) F_fork_turned c_need_tree c_need_fork c_can_turn c_turned_once
  have c_is_below : Fn P w K mg base "is_below" ["one", "other"] 18 M_is_below := ok_is_below (He.glo_ok X G (c.fact 39 (f := .glo "is_below") rfl)) F_is_below c_need_pair c_lies_below
  have c_way_up : Fn P w K mg base "way_up" ["one", "other"] 19 M_way_up := ok_way_up (He.glo_ok X G (c.fact 40 (f := .glo "way_up") rfl)) F_way_up c_need_pair c_lies_below c_steps_up
  have c_turned_fork : Fn P w K mg base "turned_fork" ["cutting", "cut"] 18 M_turned_fork := ok_turned_fork (He.glo_ok X G (c.fact 41 (f := .glo "turned_fork") rfl)) F_turned_fork c_need_cutting c_need_cut c_need_few c_swapped_at c_tree_between c_cut_for c_fork_between (He.int_ok X G (c.fact 103 (f := .int "MOST_FORKS" 24) rfl))
  have c_type_is_whole : Fn P w K mg base "type_is_whole" ["value"] 1 M_type_is_whole := ok_type_is_whole (He.glo_ok X G (c.fact 43 (f := .glo "type_is_whole") rfl)) F_type_is_whole (He.free_ok X G (c.fact 91 (f := .free "isinstance") rfl)) (He.free_ok X G (c.fact 90 (f := .free "int") rfl)) (He.free_ok X G (c.fact 88 (f := .free "bool") rfl))
  have c_way_steps : Fn P w K mg base "way_steps" ["cutting", "way"] 5 M_way_steps := ok_way_steps (He.glo_ok X G (c.fact 42 (f := .glo "way_steps") rfl)) F_way_steps c_type_is_whole c_cut_for c_with_cut (He.free_ok X G (c.fact 91 (f := .free "isinstance") rfl)) (He.free_ok X G (c.fact 100 (f := .free "tuple") rfl)) (He.free_ok X G (c.fact 92 (f := .free "len") rfl)) (He.free_ok X G (c.fact 86 (f := .free "all") rfl)) (He.int_ok X G (c.fact 104 (f := .int "MOST_STEPS" 80) rfl))
  have c_leads_to : Fn P w K mg base "leads_to" ["one", "other", "value"] 6 M_leads_to := ok_leads_to (He.glo_ok X G (c.fact 44 (f := .glo "leads_to") rfl)) F_leads_to c_way_steps
  have c_need_two : Fn P w K mg base "need_two" ["one", "other"] 5 M_need_two := ok_need_two (He.glo_ok X G (c.fact 45 (f := .glo "need_two") rfl)) F_need_two c_need_cutting
  have c_need_way : Fn P w K mg base "need_way" ["cutting", "value"] 6 M_need_way := ok_need_way (He.glo_ok X G (c.fact 46 (f := .glo "need_way") rfl)) F_need_way c_way_steps
  have c_behind_way : Fn P w K mg base "behind_way" ["cutting", "way"] 7 M_behind_way := ok_behind_way (He.glo_ok X G (c.fact 47 (f := .glo "behind_way") rfl)) F_behind_way c_need_cutting c_need_way c_way_steps
  have c_far_from_fan : Fn P w K mg base "far_from_fan" ["cutting", "corner"] 5 M_far_from_fan := ok_far_from_fan (He.glo_ok X G (c.fact 48 (f := .glo "far_from_fan") rfl)) F_far_from_fan c_need_cutting c_need_corner (He.free_ok X G (c.fact 92 (f := .free "len") rfl))
  have c_cuts_of_both : Fn P w K mg base "cuts_of_both" ["one", "other"] 1 M_cuts_of_both := ok_cuts_of_both (He.glo_ok X G (c.fact 49 (f := .glo "cuts_of_both") rfl)) F_cuts_of_both 
  have c_split_by : Fn P w K mg base "split_by" ["field", "cut"] 1 M_split_by := ok_split_by (He.glo_ok X G (c.fact 50 (f := .glo "split_by") rfl)) F_split_by (He.free_ok X G (c.fact 100 (f := .free "tuple") rfl)) (He.free_ok X G (c.fact 92 (f := .free "len") rfl))
  have c_fields_by : Fn P w K mg base "fields_by" ["sides", "cuts"] 2 M_fields_by := ok_fields_by (He.glo_ok X G (c.fact 51 (f := .glo "fields_by") rfl)) F_fields_by c_split_by (He.free_ok X G (c.fact 100 (f := .free "tuple") rfl)) (He.free_ok X G (c.fact 96 (f := .free "range") rfl)) (He.free_ok X G (c.fact 97 (f := .free "sorted") rfl))
  have c_fields_of : Fn P w K mg base "fields_of" ["one", "other"] 3 M_fields_of := ok_fields_of (He.glo_ok X G (c.fact 52 (f := .glo "fields_of") rfl)) F_fields_of c_fields_by c_cuts_of_both
  have c_piece_within : Fn P w K mg base "piece_within" ["cutting", "field"] 1 M_piece_within := ok_piece_within (He.glo_ok X G (c.fact 53 (f := .glo "piece_within") rfl)) F_piece_within (He.free_ok X G (c.fact 89 (f := .free "enumerate") rfl)) (He.free_ok X G (c.fact 92 (f := .free "len") rfl)) (He.free_ok X G (c.fact 100 (f := .free "tuple") rfl)) (He.free_ok X G (c.fact 97 (f := .free "sorted") rfl))
  have c_nexts_of : Fn P w K mg base "nexts_of" ["cutting"] 5 M_nexts_of := ok_nexts_of (He.glo_ok X G (c.fact 54 (f := .glo "nexts_of") rfl)) F_nexts_of c_with_cut c_cut_for
  have c_reach_from : Fn P w K mg base "reach_from" ["cutting", "goal"] 6 M_reach_from := ok_reach_from (He.glo_ok X G (c.fact 55 (f := .glo "reach_from") rfl)) F_reach_from c_nexts_of
  have c_back_from : Fn P w K mg base "back_from" ["found", "goal"] 6 M_back_from := ok_back_from (He.glo_ok X G (c.fact 56 (f := .glo "back_from") rfl)) F_back_from c_nexts_of c_cut_for
  have c_pairs_within : Fn P w K mg base "pairs_within" ["one", "other"] 4 M_pairs_within := ok_pairs_within (He.glo_ok X G (c.fact 57 (f := .glo "pairs_within") rfl)) F_pairs_within c_fields_of c_piece_within (He.free_ok X G (c.fact 92 (f := .free "len") rfl))
  have c_bringing : Fn P w K mg base "bringing" ["one", "other"] 6 M_bringing := ok_bringing (He.glo_ok X G (c.fact 58 (f := .glo "bringing") rfl)) F_bringing c_nexts_of c_cut_for
  have c_way_in : Fn P w K mg base "way_in" ["one", "other"] 14 M_way_in := ok_way_in (He.glo_ok X G (c.fact 59 (f := .glo "way_in") rfl)) F_way_in c_pairs_within c_bringing c_back_from c_reach_from (He.free_ok X G (c.fact 100 (f := .free "tuple") rfl))
  have c_need_fields : Fn P w K mg base "need_fields" ["one", "other"] 6 M_need_fields := ok_need_fields (He.glo_ok X G (c.fact 60 (f := .glo "need_fields") rfl)) F_need_fields c_need_two c_need_few c_fields_of (He.free_ok X G (c.fact 94 (f := .free "max") rfl)) (He.free_ok X G (c.fact 92 (f := .free "len") rfl)) (He.int_ok X G (c.fact 105 (f := .int "MOST_FIELD" 8) rfl))
  have c_fewest_exchanges : Fn P w K mg base "fewest_exchanges" ["one", "other"] 15 M_fewest_exchanges := ok_fewest_exchanges (He.glo_ok X G (c.fact 61 (f := .glo "fewest_exchanges") rfl)) F_fewest_exchanges c_need_fields c_way_in (He.free_ok X G (c.fact 92 (f := .free "len") rfl))
  have c_is_least_way : Fn P w K mg base "is_least_way" ["one", "other", "value"] 15 M_is_least_way := ok_is_least_way (He.glo_ok X G (c.fact 62 (f := .glo "is_least_way") rfl)) F_is_least_way c_need_fields c_leads_to c_way_in (He.free_ok X G (c.fact 92 (f := .free "len") rfl))
  have c_catalan : Fn P w K mg base "catalan" ["many"] 1 M_catalan := ok_catalan (He.glo_ok X G (c.fact 63 (f := .glo "catalan") rfl)) F_catalan (He.free_ok X G (c.fact 96 (f := .free "range") rfl))
  have c_count_cuttings : Fn P w K mg base "count_cuttings" ["sides"] 3 M_count_cuttings := ok_count_cuttings (He.glo_ok X G (c.fact 64 (f := .glo "count_cuttings") rfl)) F_count_cuttings c_need_sides c_catalan
  have c_fars_of : Fn P w K mg base "fars_of" ["cutting"] 7 M_fars_of := ok_fars_of (He.glo_ok X G (c.fact 65 (f := .glo "fars_of") rfl)) F_fars_of c_reach_from
  have c_layers : Fn P w K mg base "layers" ["cutting"] 8 M_layers := ok_layers (He.glo_ok X G (c.fact 66 (f := .glo "layers") rfl)) F_layers c_need_cutting c_need_few c_fars_of (He.free_ok X G (c.fact 93 (f := .free "list") rfl)) (He.free_ok X G (c.fact 100 (f := .free "tuple") rfl)) (He.free_ok X G (c.fact 96 (f := .free "range") rfl)) (He.free_ok X G (c.fact 94 (f := .free "max") rfl)) (He.int_ok X G (c.fact 106 (f := .int "MOST_LAYERS" 8) rfl))
  have c_depth_sum : Fn P w K mg base "depth_sum" ["tree"] 16 M_depth_sum := ok_depth_sum (He.glo_ok X G (c.fact 69 (f := .glo "depth_sum") rfl)) F_depth_sum c_fork_count
  have c_passed_by : Fn P w K mg base "passed_by" ["one", "other"] 20 M_passed_by := ok_passed_by (He.glo_ok X G (c.fact 68 (f := .glo "passed_by") rfl)) F_passed_by c_can_turn c_turned_once c_lies_below c_depth_sum (He.free_ok X G (c.fact 97 (f := .free "sorted") rfl)) (He.free_ok X G (c.fact 93 (f := .free "list") rfl)) tbp
  have c_ranks_between : Fn P w K mg base "ranks_between" ["one", "other"] 21 M_ranks_between := ok_ranks_between (He.glo_ok X G (c.fact 67 (f := .glo "ranks_between") rfl)) F_ranks_between c_passed_by c_can_turn c_turned_once c_lies_below (He.free_ok X G (c.fact 94 (f := .free "max") rfl)) (He.free_ok X G (c.fact 95 (f := .free "min") rfl))
  have c_need_few_forks : Fn P w K mg base "need_few_forks" ["one", "other"] 12 M_need_few_forks := ok_need_few_forks (He.glo_ok X G (c.fact 70 (f := .glo "need_few_forks") rfl)) F_need_few_forks c_need_pair c_need_few c_fork_count (He.int_ok X G (c.fact 107 (f := .int "FEW_FORKS" 7) rfl))
  have c_comb_tree : Fn P w K mg base "comb_tree" ["forks", "is_left"] 1 M_comb_tree := ok_comb_tree (He.glo_ok X G (c.fact 71 (f := .glo "comb_tree") rfl)) F_comb_tree (He.free_ok X G (c.fact 96 (f := .free "range") rfl))
  have c_fewest_up : Fn P w K mg base "fewest_up" ["one", "other"] 22 M_fewest_up := ok_fewest_up (He.glo_ok X G (c.fact 72 (f := .glo "fewest_up") rfl)) F_fewest_up c_need_few_forks c_lies_below c_ranks_between
  have c_least_tree : Fn P w K mg base "least_tree" ["forks"] 3 M_least_tree := ok_least_tree (He.glo_ok X G (c.fact 73 (f := .glo "least_tree") rfl)) F_least_tree c_need_number c_comb_tree (He.int_ok X G (c.fact 103 (f := .int "MOST_FORKS" 24) rfl))
  have c_greatest_tree : Fn P w K mg base "greatest_tree" ["forks"] 3 M_greatest_tree := ok_greatest_tree (He.glo_ok X G (c.fact 74 (f := .glo "greatest_tree") rfl)) F_greatest_tree c_need_number c_comb_tree (He.int_ok X G (c.fact 103 (f := .int "MOST_FORKS" 24) rfl))
  have c__law_joined : Fn P w K mg base "_law_joined" ["_law_cutting_so", "_law_one", "_law_other"] 1 M__law_joined := ok__law_joined (He.glo_ok X G (c.fact 79 (f := .glo "_law_joined") rfl)) F__law_joined (He.free_ok X G (c.fact 95 (f := .free "min") rfl)) (He.free_ok X G (c.fact 94 (f := .free "max") rfl))
  have c__law_pieces : Fn P w K mg base "_law_pieces" ["_law_cutting_so"] 2 M__law_pieces := ok__law_pieces (He.glo_ok X G (c.fact 80 (f := .glo "_law_pieces") rfl)) F__law_pieces c__law_joined (He.free_ok X G (c.fact 96 (f := .free "range") rfl)) (He.free_ok X G (c.fact 97 (f := .free "sorted") rfl))
  have c__law_counts : Fn P w K mg base "_law_counts" ["_law_cutting_so"] 3 M__law_counts := ok__law_counts (He.glo_ok X G (c.fact 81 (f := .glo "_law_counts") rfl)) F__law_counts c__law_pieces (He.free_ok X G (c.fact 100 (f := .free "tuple") rfl)) (He.free_ok X G (c.fact 96 (f := .free "range") rfl)) (He.free_ok X G (c.fact 92 (f := .free "len") rfl))
  have c__law_shown : Fn P w K mg base "_law_shown" [] 1 M__law_shown := ok__law_shown (He.glo_ok X G (c.fact 82 (f := .glo "_law_shown") rfl)) F__law_shown 
  have c__law_up_right : Fn P w K mg base "_law_up_right" ["_law_one", "_law_other"] 23 M__law_up_right := ok__law_up_right (He.glo_ok X G (c.fact 83 (f := .glo "_law_up_right") rfl)) F__law_up_right c_tree_of c_way_up c_reaches c_is_below c_fewest_up c_fork_turned c_tree_cutting c_exchanged c_turned_fork c_behind_way c_fewest_exchanges c_is_least_way (He.free_ok X G (c.fact 101 (f := .free "zip") rfl)) (He.free_ok X G (c.fact 92 (f := .free "len") rfl)) (He.free_ok X G (c.fact 100 (f := .free "tuple") rfl))
  have c__law_fans_right : Fn P w K mg base "_law_fans_right" ["_law_cutting_so"] 23 M__law_fans_right := ok__law_fans_right (He.glo_ok X G (c.fact 84 (f := .glo "_law_fans_right") rfl)) F__law_fans_right c_tree_of c_least_tree c_greatest_tree c_tree_cutting c__law_counts c_fewest_up c_far_from_fan c_fewest_exchanges (He.free_ok X G (c.fact 100 (f := .free "tuple") rfl)) (He.free_ok X G (c.fact 96 (f := .free "range") rfl))
  have Gs := ok_source (P := P) (w := w) (base := base) F__law_source (He.free_ok X G (c.fact 92 (f := .free "len") rfl)) (He.free_ok X G (c.fact 90 (f := .free "int") rfl))
  have Gp := ok_pick (P := P) (w := w) (base := base) F__law_pick (He.free_ok X G (c.fact 90 (f := .free "int") rfl))
  have bs : Binds K fd__law_source ["_law_script", "_law_k"] [] := (F__law_source.bindsN fun _ _ _ _ _ _ us hl => match us, hl with | [_, _], _ => rfl)
  have bp : Binds K fd__law_pick ["_law_source_here", "_law_many"] [] := (F__law_pick.bindsN fun _ _ _ _ _ _ us hl => match us, hl with | [_, _], _ => rfl)
  have bq : Binds K fd__law_cuts ["_law_source_here", "_law_first", "_law_last"] [] := (F__law_cuts.bindsN fun _ _ _ _ _ _ us hl => match us, hl with | [_, _, _], _ => rfl)
  have bc : Binds K fd__law_cutting ["_law_source_here", "_law_sides_so"] [] := (F__law_cutting.bindsN fun _ _ _ _ _ _ us hl => match us, hl with | [_, _], _ => rfl)
  have Gq := ok_cuts F__law_cuts (He.glo_ok X G (c.fact 77 (f := .glo "_law_cuts") rfl)) bq Gp (He.glo_ok X G (c.fact 76 (f := .glo "_law_pick") rfl)) F__law_pick.kp bp 6
  have Gc := ok_cutting F__law_cutting Gq (He.glo_ok X G (c.fact 77 (f := .glo "_law_cuts") rfl)) F__law_cuts.kp bq (He.free_ok X G (c.fact 100 (f := .free "tuple") rfl)) (He.free_ok X G (c.fact 97 (f := .free "sorted") rfl))
  exact ok_law lawTab F Gs (He.glo_ok X G (c.fact 75 (f := .glo "_law_source") rfl)) F__law_source.kp bs Gp (He.glo_ok X G (c.fact 76 (f := .glo "_law_pick") rfl)) F__law_pick.kp bp Gc (He.glo_ok X G (c.fact 78 (f := .glo "_law_cutting") rfl)) F__law_cutting.kp bc c__law_up_right c__law_fans_right c_tree_cutting c_least_tree c_fewest_exchanges c_layers c_count_cuttings c__law_shown (He.free_ok X G (c.fact 98 (f := .free "sum") rfl)) (He.free_ok X G (c.fact 92 (f := .free "len") rfl))
end Ev

open PySem PySem.W PySem.Calls PyProof.Rows
theorem PySem.Challenge.cw_eightworlds_k96_whole_least_ways_and_the_holds : PySem.Challenge.rw_eightworlds_k96_whole_least_ways_and_the.Holds := by
  w_on; o_law
  refine HandSHeadRun.head_any (r := OpenLaw.row PySem.Challenge.rw_eightworlds_k96_whole_least_ways_and_the) (q := view (OpenLaw.row PySem.Challenge.rw_eightworlds_k96_whole_least_ways_and_the).prog [114]) (H := EW.hkX) (ob := EW.obX) (M := 9000) (loose := EW.loose) (d := HandSHeadRun.topDef (OpenLaw.row PySem.Challenge.rw_eightworlds_k96_whole_least_ways_and_the).prog 114) (kwd := []) EW.obX_eq
    (by kernel_rfl) (fun s => by kernel_rfl) EW.runX (by kernel_rfl) (by kernel_rfl) (by kernel_rfl) (by rfl) (by first | assumption | decide +kernel) (by decide +kernel) ⟨rfl, rfl, rfl, rfl, rfl, by decide +kernel⟩ ?hw ?hc
  case hw => w_witness2
  case hc =>
    refine LamX.walk_ofTsE (l := PySem.Challenge.rw_eightworlds_k96_whole_least_ways_and_the) (n := 63) (k := 24) (x := "_law_script") (CX := fun _ => L2.CX0) rfl (by decide) (by kernel_rfl) ⟨rfl, by decide, by decide⟩ ?F (fun _ _ _ _ _ z => z)
    intro w mg fa h Y G hmg0
    obtain ⟨K, KX, c⟩ := Y
    have hmg : mg ("law" : PySem.Str) = some (.ref fa) := by
      have e : (HandSHeadRun.topDef (OpenLaw.row PySem.Challenge.rw_eightworlds_k96_whole_least_ways_and_the).prog 114).name = ("law" : PySem.Str) := by kernel_rfl
      rw [← e]
      exact hmg0
    obtain ⟨fd, hb, hF⟩ := Ev.facts (P := (PySem.Challenge.rw_eightworlds_k96_whole_least_ways_and_the).prog) (w := w) KX G hmg c.t.d
    have m1 : (("passed_by", none) : He.Defn) ∈ EW.tf := List.mem_cons_self
    refine ⟨K, KX, fd, [He.cT K ("passed_by", none)], Ev.spLaw K ⟨w, Ev.IsP K mg h⟩, fun p hp => ?_, fun p hp => ?_, fun p hp => ?_, hb, fun H a ns hl _ hH hS => ⟨a, ns, rfl, hS, fun b hb => ?_, fun _ => rfl⟩, fun base _ _ tb => hF base (tb _ List.mem_cons_self)⟩
    · rw [List.mem_singleton.mp hp]; exact c.empty _ m1
    · rw [List.mem_singleton.mp hp]; exact c.out _ m1
    · rw [List.mem_singleton.mp hp]; exact PySem.W.codeHd_of_K KX (c.hd _ m1)
    · have e : b = (He.cT K ("passed_by", none)).2 := hb
      rw [e]; exact LamX.TabS.nil (hH _ List.mem_cons_self)
